/- Regions in which new memory is made in whatever order: appends that write to it, loads that hold against that, and a fork for each that may come first. -/
import Derived.Test.YtmoaddicejohgaaDoorMore
set_option linter.unusedSimpArgs false
set_option linter.unusedVariables false
namespace Go.Proofs.YtmoaddicejohgaaDoor
open Go
/-- What was there when n blocks were is as it was. -/
structure ChgN (N : Nat) (w w' : World) : Prop where
  os : w'.os = w.os
  tape : w'.tape = w.tape
  output : w'.output = w.output
  size : w.heap.size ≤ w'.heap.size
  block : ∀ k, k < N → k < w.heap.size → w'.heap[k]? = w.heap[k]?
theorem Far.chgN (N : Nat) : Far (ChgN N) where
  of w w' h := ⟨h.os, h.tape, h.output, h.size, fun k _ hk => h.block k hk (by simp)⟩
  trans a b c h k := ⟨k.os.trans h.os, k.tape.trans h.tape, k.output.trans h.output, Nat.le_trans h.size k.size, fun i hi hlt => (k.block i hi (Nat.lt_of_lt_of_le hlt h.size)).trans (h.block i hi hlt)⟩
theorem ChgN.of_chg {N : Nat} {S : List Nat} {w w' : World} (h : Chg S w w') (hS : ∀ b ∈ S, N ≤ b) : ChgN N w w' :=
  ⟨h.os, h.tape, h.output, h.size, fun k hk hlt => h.block k hlt fun hm => by have := hS k hm; omega⟩
theorem ChgN.blk {N : Nat} {w w' : World} (h : ChgN N w w') {b : Nat} {t : TypeId} {cs : Array Value} (hb : Blk w b t cs) (hN : b < N) : Blk w' b t cs := hb.of_heap (h.block b hN hb.lt)
theorem Hp.sizeN {S : List Nat} {w0 w : World} {L : List Own} (h : Hp S w0 w L) : ∃ N, N ≤ w.heap.size ∧ ∀ (i : Nat) (b : Nat) (t : TypeId) (cs : Array Value), L[i]? = some (some b, t, cs) → b < N :=
  ⟨w.heap.size, Nat.le_refl _, fun i b t cs hi => (h.blk i hi).lt⟩
section
variable {P : Program} {ops : List Oper} {Q : Exit → Act → World → Prop} {r : List PStep} {a : Act} {w : World} {i : Nat} {d : Option Tmp} {ty : TypeId} {pos : String} {af : Array Edge} {g : Option (Nat × Bool)} {x y : Operand} {t t' T : TypeId}
  {S : List Nat} {w0 : World} {L : List Own} {N : Nat}
/-- append onto a slice of the call's own: what it does. -/
theorem append_run (k : Nat) {o : Option Nat} {n cap s bts m e : Nat} {cs zc : Array Value} {xs news : List Value} {D : TypeDesc} {vy : Value}
    (hH : Hp S w0 w L) (hk : L[k]? = some (o, e, cs)) (hO : OwnC o n cap s cs xs) (hsrc : Src P w vy s m news) (hu : P.underlying t = some (.slice e)) (hu' : P.underlying t' = some D) (hD : (∃ e2, D = .slice e2) ∨ D = .string)
    (hs : szc P e = some s) (hb : bytesOf P e = some bts) (hz : zeroC P e = some zc) (hzs : zc.size = s) (hbd : (n + m) * bts ≤ 140737488355328) (hbd' : n + m < 9223372036854775808) :
    ∃ o' cap' cs' w', (Builtin.append_ #[t, t'] ty #[own o n cap, vy]).run P w = .ok (own o' (n + m) cap') w' ∧ OwnC o' (n + m) cap' s cs' (xs ++ news) ∧ Hp S w0 w' (L.set k (o', e, cs')) ∧ Chg o.toList w w' ∧ ∀ b, o' = some b → o = some b ∨ w.heap.size ≤ b := by
  obtain ⟨hlen, hnl, hone, hfirst⟩ := hsrc
  have hbts : ∃ inf, P.info? e = some inf ∧ inf.bytes = bts ∧ inf.size = s ∧ ∃ z, inf.zero = some z ∧ z.cells = zc := by
    unfold bytesOf at hb
    obtain ⟨inf, hi, rfl⟩ := Option.map_eq_some_iff.1 hb
    unfold szc at hs
    rw [hi] at hs
    unfold zeroC at hz
    rw [hi] at hz
    obtain ⟨z, hz1, rfl⟩ := Option.map_eq_some_iff.1 hz
    exact ⟨inf, hi, rfl, by simpa using hs, z, by simpa using hz1, rfl⟩
  obtain ⟨inf, hinf, hib, his, z, hiz, hzc⟩ := hbts
  subst his
  have hle := hO.le
  by_cases hroom : n + m ≤ cap
  · -- within the capacity
    have hsz : n * inf.size + news.length ≤ cs.size := by
      rw [hO.size, hnl, ← Nat.add_mul]; exact Nat.mul_le_mul_right _ hroom
    have hown : OwnC o (n + m) cap inf.size (splice cs (n * inf.size) news.toArray) (xs ++ news) := by
      refine ⟨hroom, by rw [splice_size (by simpa using hsz), hO.size], hO.nil, by rw [List.length_append, hO.len, hnl, Nat.add_mul], fun j hj => ?_⟩
      rw [Nat.add_mul] at hj
      rw [splice_get (by simpa using hsz)]
      simp only [List.size_toArray]
      by_cases hjn : j < n * inf.size
      · rw [if_neg (by omega), List.getElem?_append_left (by rw [hO.len]; exact hjn)]; exact hO.at_ j hjn
      · rw [if_pos ⟨by omega, by omega⟩, List.getElem?_append_right (by rw [hO.len]; omega), hO.len]; simp
    have hf := hfirst w (.refl _ _)
    cases o with
    | none =>
      have hc0 := hO.nil rfl
      have hm0 : m = 0 := by omega
      have hn0 : n = 0 := by omega
      subst hm0; subst hn0; subst hc0
      have hnews : news = [] := List.eq_nil_of_length_eq_zero (by simpa using hnl)
      subst hnews
      refine ⟨none, 0, _, w, ?_, hown, ?_, .refl _ _, fun b hb => .inl hb⟩
      · rcases hD with ⟨e2, rfl⟩ | rfl <;> simp [Builtin.append_, run_underlying hu, run_underlying hu', own, sizeOf, typeInfo, hinf, hlen, hroom, hf]
      · have hsp : splice cs (0 * inf.size) ([] : List Value).toArray = cs := by unfold splice; simp
        rw [hsp]
        exact hH.say k hk rfl
    | some b =>
      obtain ⟨w', hr, hB, hoth, hsz', e1, e2, e3⟩ := run_storeCells_blk (P := P) news 0 (n * inf.size) w cs (hH.blk k hk) (by simpa using hsz) hone
      refine ⟨some b, cap, _, w', ?_, hown, ?_, ⟨e1, e2, e3, by omega, fun k' hk' hn => hoth k' (by simpa using hn)⟩, fun b hb => .inl hb⟩
      · rcases hD with ⟨e2, rfl⟩ | rfl <;> simp [Builtin.append_, run_underlying hu, run_underlying hu', own, sizeOf, typeInfo, hinf, hlen, hroom, hf, addr_add, hr]
      · refine hH.put k hk ?_ (by simpa using hB) fun k' hk' _ => hoth k' hk'
        refine hH.chg.trans' (T := [b]) ⟨e1, e2, e3, by omega, fun k' hk' hn => hoth k' (by simpa using hn)⟩ ?_
        intro z' hz' hlt
        simp only [List.mem_singleton] at hz'
        subst hz'
        rcases hH.mine k hk with h1 | h1
        · omega
        · exact h1
  · -- a new array
    obtain ⟨c, hc, hch⟩ : ∃ c, n + m ≤ c ∧ (Question.appendCap (n + m) cap e).cut (w.tape w.drawn (.appendCap (n + m) cap e)) = c := ⟨_, by simp [Question.cut], rfl⟩
    have hfc : (Question.appendCap (n + m) cap e).forced = false := rfl
    have hd : Chg [] w w.drew := (Chg.refl _ _).drew
    have hf := hfirst w.drew hd
    have hfo := own_first (P := P) (hH.call hd) k hk hO
    have hfit := growslice_fits (bytes := inf.bytes) (show cap < n + m by omega) (by rw [hib]; exact hbd)
    have h48 : ¬ (281474976710656 < Builtin.nextslicecap (n + m) cap * inf.bytes) := by omega
    have h63 : ¬ (9223372036854775807 < ((n : Int) + (m : Int))) := by omega
    have hzl : (Builtin.zeroCells zc (c - (n + m))).size = (c - (n + m)) * zc.size := by simp [Builtin.zeroCells]
    refine ⟨some w.drew.heap.size, c, xs.toArray ++ news.toArray ++ Builtin.zeroCells zc (c - (n + m)), w.drew.alloc (.cells (xs.toArray ++ news.toArray ++ Builtin.zeroCells zc (c - (n + m))) e), ?_, ⟨hc, ?_, (by intro h; cases h), by rw [List.length_append, hO.len, hnl, Nat.add_mul], fun j hj => ?_⟩, ?_, (hd.alloc _).weak (by simp), fun b hb => .inr (by cases hb; exact Nat.le_refl _)⟩
    · rcases hD with ⟨e2, rfl⟩ | rfl <;> simp [Builtin.append_, run_underlying hu, run_underlying hu', own, sizeOf, typeInfo, zeroValue, hinf, hiz, hlen, hroom, h63, h48, hfc, hch, hzc, newRow]
      all_goals (simp only [own] at hfo; rw [hfo]; simp only [Result.andThen_ok]; rw [hf]; simp; congr 2; apply Array.ext'; simp)
    · simp only [Array.size_append, List.size_toArray, hzl, hO.len, hnl, hzs]
      rw [← Nat.add_mul, ← Nat.add_mul]; congr 1; omega
    · have : j < (xs ++ news).length := by rw [List.length_append, hO.len, hnl, ← Nat.add_mul]; exact hj
      rw [Array.getElem?_append_left (by simpa using this)]
      simp
    · refine (hH.call hd).turn k hk _ ?_ ?_ ?_ ?_
      · exact hH.chg.trans' (T := []) (hd.alloc _) (by simp)
      · intro b hb'
        cases hb'
        exact ⟨.inl (by have := hH.chg.size; exact this), Blk.new _ _ _⟩
      · intro b hb'; cases hb'; exact .inr (Nat.le_refl _)
      · intro k' _ hlt
        exact RowKit.Below.heap_alloc _ _ _ hlt


theorem plan_appendN (k : Nat) {dst : Tmp} {o : Option Nat} {n cap s bts m e : Nat} {cs zc : Array Value} {xs news : List Value} {D : TypeDesc} {vy : Value}
    (ho : ops[i]? = some ⟨some dst, .call ⟨.builtin .append, #[x, y], #[t, t']⟩, ty, pos, af, g⟩) (hg : Region.wanted ⟨some dst, .call ⟨.builtin .append, #[x, y], #[t, t']⟩, ty, pos, af, g⟩ (yielded ops.toArray a.tmps) = true)
    (hNw : N ≤ w.heap.size) (hNb : ∀ b, o = some b → N ≤ b)
    (hH : Hp S w0 w L) (hk : L[k]? = some (o, e, cs)) (hO : OwnC o n cap s cs xs) (hsrc : ∀ w1, Hp S w0 w1 L → Src P w1 vy s m news) (hx : a.eval x = own o n cap) (hy : a.eval y = vy) (hu : P.underlying t = some (.slice e)) (hu' : P.underlying t' = some D) (hD : (∃ e2, D = .slice e2) ∨ D = .string)
    (hs : szc P e = some s) (hb : bytesOf P e = some bts) (hz : zeroC P e = some zc) (hzs : zc.size = s) (hbd : (n + m) * bts ≤ 140737488355328) (hbd' : n + m < 9223372036854775808)
    (h : ∀ o' cap' cs' w', OwnC o' (n + m) cap' s cs' (xs ++ news) → N ≤ w'.heap.size → (∀ b, o' = some b → N ≤ b) → Hp S w0 w' (L.set k (o', e, cs')) → wpPlan P ops.toArray Q r (a.put (some dst) (own o' (n + m) cap')) w') : wpPlan P ops.toArray Q (.s i (ChgN N) :: r) a w := fun w1 hw => by
  have hN1 : N ≤ w1.heap.size := Nat.le_trans hNw hw.size
  obtain ⟨o', cap', cs', w', hr, hO', hH', hc, hn⟩ := append_run (ty := ty) k (hH.call hw) hk hO (hsrc w1 (hH.call hw)) hu hu' hD hs hb hz hzs hbd hbd'
  have hrun : (execOp a.eval ⟨some dst, .call ⟨.builtin .append, #[x, y], #[t, t']⟩, ty, pos, af, g⟩).run P w1 = .ok (.value (own o' (n + m) cap')) w' := by
    simp only [execOp, resolve, List.map_toArray, List.map_cons, List.map_nil, hx, hy, invoke, builtin, Sem.run_bind, Sem.run_pure, Result.andThen_ok, hr]
  unfold wpOp
  simp only [at_list ho, hg, if_true]
  refine .inl ?_
  unfold Oper.wp
  rw [hrun]
  refine ⟨ChgN.of_chg hc fun b hb => hNb b (by simpa using hb), h o' cap' cs' w' hO' (Nat.le_trans hN1 hc.size) (fun b hb => ?_) hH'⟩
  rcases hn b hb with h1 | h1
  · exact hNb b h1
  · omega
theorem plan_buildSliceN {dst : Tmp} {e n : Nat} {cs : Array Value} {parts : List (Nat × Operand)} {vs : List (Nat × Value)} (ho : ops[i]? = some ⟨some dst, .buildSlice t n parts.toArray, ty, pos, af, g⟩) (hg : Region.wanted ⟨some dst, .buildSlice t n parts.toArray, ty, pos, af, g⟩ (yielded ops.toArray a.tmps) = true)
    (hNw : N ≤ w.heap.size) (hH : Hp S w0 w L) (hu : P.underlying t = some (.slice e)) (hv : (parts.map fun p => (p.1, a.eval p.2)) = vs)
    (hrun : ∀ w, (Instr.buildSlice t n vs.toArray).run P w = .ok (.slice (some ⟨w.heap.size, 0, none⟩) n n) (w.alloc (.cells cs e)))
    (h : ∀ b w', N ≤ w'.heap.size → N ≤ b → Hp S w0 w' (L ++ [(some b, e, cs)]) → wpPlan P ops.toArray Q r (a.put (some dst) (own (some b) n n)) w') : wpPlan P ops.toArray Q (.x i :: r) a w := fun w1 hw => by
  have hN1 : N ≤ w1.heap.size := Nat.le_trans hNw hw.size
  have hv' : (parts.toArray.map fun (p : Nat × Operand) => (p.1, a.eval p.2)) = vs.toArray := by rw [← hv]; simp
  have hr : (execOp a.eval ⟨some dst, .buildSlice t n parts.toArray, ty, pos, af, g⟩).run P w1 = .ok (.value (own (some w1.heap.size) n n)) (w1.alloc (.cells cs e)) := by
    simp only [execOp, Sem.run_bind]
    rw [show (parts.toArray.map fun x => match x with | (i, x) => (i, a.eval x)) = vs.toArray from hv', hrun w1]
    rfl
  unfold wpOp
  simp only [at_list ho, hg, if_true]
  refine .inl ?_
  unfold Oper.wp
  rw [hr]
  exact ⟨(Chg.refl _ _).alloc _, h _ _ (Nat.le_trans hN1 ((Chg.refl [] w1).alloc _).size) hN1 ((hH.call hw).alloc e cs)⟩
theorem plan_nilN (hNw : N ≤ w.heap.size) (hH : Hp S w0 w L) (h : ∀ w', N ≤ w'.heap.size → Hp S w0 w' L → Q .normal a w') : wpPlan P ops.toArray Q [] a w := fun w1 hw => h w1 (Nat.le_trans hNw hw.size) (hH.call hw)
/-- A load from a block that was there at first. -/
theorem rr_loadN {D : TypeDesc} {b o : Nat} {cs : Array Value} {v : Value} (hb : Blk w b T cs) (hN : b < N) (hx : a.eval x = PT b o) (hu : P.underlying t = some D) (hD : isAggD D = false) (hc : cs[o]? = some v) : RRun P ⟨d, .load t x, ty, pos, af, g⟩ a (ChgN N) w v :=
  rr_load1 (fun w' hw => hw.blk hb hN) hx hu hD hc
end

/-! ### Forks -/
section
variable {P : Program} {ops : Array Oper} {Q : Exit → Act → World → Prop} {md : Region.Mode} {E M : List Nat} {R0 : World → World → Prop}
/-- What is to be shown when l are listed, and n are not yet. -/
def Pend (P : Program) (md : Region.Mode) (ops : Array Oper) (Q : Exit → Act → World → Prop) (E M : List Nat) (R0 : World → World → Prop) (n : Nat) (l : List Nat) (a : Act) (w : World) : Prop :=
  ∀ (fuel : Nat) (L : Array Bool), Rel ops L l → n ≤ fuel → wpAnyR P md ops Q E M R0 fuel L a w
/-- Q, with another end. -/
def QK (Q : Exit → Act → World → Prop) (K : Act → World → Prop) : Exit → Act → World → Prop
  | .normal => K
  | e => Q e
theorem QK.out {K : Act → World → Prop} (h : LetsOut (QK Q K)) : LetsOut Q := h
theorem wpOp_QK {K K' : Act → World → Prop} {i : Nat} {a : Act} {w : World} (h : wpOp P ops (QK Q K) i K' a w) : wpOp P ops Q i K' a w := by
  unfold wpOp at *
  cases hi : ops[i]? with
  | none => rw [hi] at h; exact h
  | some o =>
    rw [hi] at h
    simp only at h ⊢
    split
    · rename_i hw
      rw [if_pos hw] at h
      rcases h with h | h
      · refine .inl ?_
        unfold Oper.wp at *
        generalize (execOp a.eval o).run P w = r at *
        cases r with
        | ok n w' =>
          cases n <;> exact h
        | halt x w' => cases x <;> exact h
      · exact .inr h
    · rename_i hw
      rw [if_neg hw] at h; exact h
def idxs : List PStep → List Nat → List Nat
  | [], l => l
  | s :: r, l => idxs r (s.idx :: l)
/-- The check of a part of a plan: its end may be anywhere. -/
def preOK (T : List Row) (E M : List Nat) : List PStep → List Nat → Bool
  | [], _ => true
  | .p i :: r, l => okTake T true E l i && preOK T E M r (i :: l)
  | .q i :: r, l => okTake T false (E ++ M) l i && preOK T E M r (i :: l)
  | .r i _ :: r, l => okTake T false E l i && preOK T E M r (i :: l)
  | .x k :: r, l => readyAt T l k && loneAt l k T 0 && preOK T E M r (k :: l)
  | .s k _ :: r, l => readyAt T l k && loneAt l k T 0 && preOK T E M r (k :: l)
  | .e k :: r, l => readyAt T l k && loneAt l k T 0 && preOK T E M r (k :: l)
theorem anyR_take (hR0 : Far R0) (hsel : Region.noSelect ops = true) (hQ : ∀ c a d v w, Q (.panic c) (a.put d v) w → Q (.panic c) a w) (R : World → World → Prop) (hR : Far R) (pure : Bool) (E' : List Nat) (hE' : ∀ j, (pure = true ∨ E'.contains j = false) → ∀ w w', eff E M R0 j w w' → R w w')
    (i : Nat) (fuel : Nat) (L : Array Bool) (l : List Nat) (a : Act) (w : World) (o : Oper) (v : Value) (hR' : Rel ops L l) (ho : ops[i]? = some o) (hy : Qt P ops o v R w a)
    (hok : okTake (tabOf md ops) pure E' l i = true) (H : wpAnyR P md ops Q E M R0 fuel (L.setIfInBounds i true) (a.put o.dst v) w) : wpAnyR P md ops Q E M R0 (fuel + 1) L a w := by
  simp only [okTake, tab_get ho, Bool.and_eq_true, Bool.not_eq_true'] at hok
  obtain ⟨⟨⟨⟨h0, h1⟩, h2⟩, h3⟩, h4⟩ := hok
  refine wpAnyR_first hR0 hR ho (Region.noSelect_spec hsel) (fun c a w => hQ c a _ _ w) (fun j => (growth i (!pure) E' (tabOf md ops) 0 l).contains j) ?_ fuel L a w ?_ ?_ ?_ hy H
  · intro j oj hoj hji hall
    have := closed_spec _ 0 h3 j _ (tab_get hoj) (by simpa using hji) (subset_row.2 hall)
    simpa using this
  · intro k hk
    rw [hR'.getDf] at hk
    exact growth_mem _ _ _ _ hk
  · intro j oj hoj hji hS hl
    rw [hR'.getDt (lt_of_get hoj)] at hl
    have := freeIn_spec _ 0 h4 j _ (tab_get hoj) (by simpa using hji) (by simpa using hS) (by simpa using hl)
    exact ⟨hE' j (by simpa using this.1), this.2⟩
  · exact (ready_iff hR').2 ⟨h0, o, ho, h1⟩
theorem anyR_only {k : Nat} {L : Array Bool} {l : List Nat} (hR : Rel ops L l) (h1 : readyAt (tabOf md ops) l k = true) (h2 : loneAt l k (tabOf md ops) 0 = true) : (∃ o, ops[k]? = some o) ∧ k ∈ Region.ready md ops L ∧ ∀ j ∈ Region.ready md ops L, j = k := by
  have hrk : ∃ o, ops[k]? = some o ∧ l.contains k = false ∧ subset (rowOf md ops o).after l = true := by
    unfold readyAt at h1
    cases ht : (tabOf md ops)[k]? with
    | none => rw [ht] at h1; cases h1
    | some rr =>
      rw [ht] at h1
      obtain ⟨o, ho, rfl⟩ := tab_get' ht
      simp only [Bool.and_eq_true, Bool.not_eq_true'] at h1
      exact ⟨o, ho, h1.1, h1.2⟩
  obtain ⟨o, ho, hk0, hk1⟩ := hrk
  refine ⟨⟨o, ho⟩, (ready_iff hR).2 ⟨hk0, o, ho, hk1⟩, fun j hj => ?_⟩
  obtain ⟨hj0, oj, hoj, hjs⟩ := (ready_iff hR).1 hj
  have := loneAt_spec _ 0 h2 j _ (tab_get hoj) (by simpa using hj0) hjs
  omega
/-- What is listed: steps that stand alone. -/
def lonely (E M : List Nat) : PStep → Bool
  | .x _ => true
  | .s k _ => M.contains k
  | .e k => E.contains k
  | _ => false
theorem step_eff (hR0 : Far R0) {n : Nat} {l : List Nat} {a : Act} {w : World} : ∀ (s : PStep), lonely E M s = true → AllR R0 [s] → wpPlan P ops (QK Q (Pend P md ops Q E M R0 n (s.idx :: l))) [s] a w →
    ∀ w1, Chg [] w w1 → wpOp P ops Q s.idx (fun a' w' => eff E M R0 s.idx w1 w' ∧ Pend P md ops Q E M R0 n (s.idx :: l) a' w') a w1
  | .x k, _, _, h, w1, hw => wpOp_mono (fun a' w' h' => ⟨.grown hR0 h'.1, h'.2 w' (.refl _ _)⟩) (wpOp_QK (h w1 hw))
  | .s k R, hk, hA, h, w1, hw => by
    obtain ⟨rfl, _⟩ := hA
    have hk : M.contains k = true := hk
    exact wpOp_mono (fun a' w' h' => ⟨⟨fun _ => h'.1, fun _ hc => (by have hc : M.contains k = false := hc; rw [hk] at hc; cases hc)⟩, h'.2 w' (.refl _ _)⟩) (wpOp_QK (h w1 hw))
  | .e k, hk, _, h, w1, hw => by
    have hk : E.contains k = true := hk
    exact wpOp_mono (fun a' w' h' => ⟨⟨fun hc => (by have hc : E.contains k = false := hc; rw [hk] at hc; cases hc), fun hc => (by have hc : E.contains k = false := hc; rw [hk] at hc; cases hc)⟩, h' w' (.refl _ _)⟩) (wpOp_QK (h w1 hw))
  | .p _, hk, _, _, _, _ => by cases hk
  | .q _, hk, _, _, _, _ => by cases hk
  | .r _ _, hk, _, _, _, _ => by cases hk
/-- All that is ready is of these. -/
def amongst (l is : List Nat) : List Row → Nat → Bool
  | [], _ => true
  | r :: rs, j => (is.contains j || l.contains j || !subset r.after l) && amongst l is rs (j + 1)
theorem amongst_spec {l is : List Nat} : ∀ (T : List Row) (n : Nat), amongst l is T n = true → ∀ j r, T[j]? = some r → l.contains (n + j) = false → subset r.after l = true → is.contains (n + j) = true
  | [], _, _, j, r, h, _, _ => by simp at h
  | x :: T, n, hc, j, r, h, hl, hs => by
    simp only [amongst, Bool.and_eq_true, Bool.or_eq_true, Bool.not_eq_true'] at hc
    cases j with
    | zero =>
      simp at h; subst h
      simp only [Nat.add_zero] at hl ⊢
      rcases hc.1 with (h1 | h1) | h1
      · exact h1
      · rw [hl] at h1; cases h1
      · rw [hs] at h1; cases h1
    | succ j =>
      have := amongst_spec T (n + 1) hc.2 j r (by simpa using h) (by rw [show n + 1 + j = n + (j + 1) by omega]; exact hl) hs
      rw [show n + (j + 1) = n + 1 + j by omega]; exact this
/-- Two may come first: each way is walked. -/
theorem Pend.fork2 (hR0 : Far R0) {n : Nat} {l : List Nat} {a : Act} {w : World} (s1 s2 : PStep) (c1 : lonely E M s1 = true) (c2 : lonely E M s2 = true) (A1 : AllR R0 [s1]) (A2 : AllR R0 [s2]) (r1 : readyAt (tabOf md ops) l s1.idx = true) (hall : amongst l [s1.idx, s2.idx] (tabOf md ops) 0 = true)
    (h1 : wpPlan P ops (QK Q (Pend P md ops Q E M R0 n (s1.idx :: l))) [s1] a w) (h2 : wpPlan P ops (QK Q (Pend P md ops Q E M R0 n (s2.idx :: l))) [s2] a w) : Pend P md ops Q E M R0 (n + 1) l a w := by
  intro fuel L hR hn
  obtain ⟨fuel, rfl⟩ : ∃ m, fuel = m + 1 := ⟨fuel - 1, by omega⟩
  have hmem : s1.idx ∈ Region.ready md ops L := by
    unfold readyAt at r1
    cases ht : (tabOf md ops)[s1.idx]? with
    | none => rw [ht] at r1; cases r1
    | some rr =>
      rw [ht] at r1
      obtain ⟨o, ho, rfl⟩ := tab_get' ht
      simp only [Bool.and_eq_true, Bool.not_eq_true'] at r1
      exact (ready_iff hR).2 ⟨r1.1, o, ho, r1.2⟩
  intro w1 hw1
  refine ⟨fun h0 => (by rw [h0] at hmem; cases hmem), fun j hj => ?_⟩
  obtain ⟨hj0, oj, hoj, hjs⟩ := (ready_iff hR).1 hj
  have hin := amongst_spec _ 0 hall j _ (tab_get hoj) (by simpa using hj0) hjs
  have hj2 : j = s1.idx ∨ j = s2.idx := by
    have := List.contains_iff_mem.1 hin
    simpa using this
  rcases hj2 with rfl | rfl
  · exact wpOp_mono (fun a' w' h' => ⟨h'.1, h'.2 fuel _ (hR.cons (lt_of_get hoj)) (by omega)⟩) (step_eff hR0 s1 c1 A1 h1 w1 hw1)
  · exact wpOp_mono (fun a' w' h' => ⟨h'.1, h'.2 fuel _ (hR.cons (lt_of_get hoj)) (by omega)⟩) (step_eff hR0 s2 c2 A2 h2 w1 hw1)
theorem Pend.plan (hR0 : Far R0) (hsel : Region.noSelect ops = true) (hQ : ∀ c a d v w, Q (.panic c) (a.put d v) w → Q (.panic c) a w) {n : Nat} : ∀ (pl : List PStep) (l : List Nat) (a : Act) (w : World), AllR R0 pl → (∀ i ∈ effects pl, E.contains i = true) → (∀ i ∈ marked pl, M.contains i = true) →
    preOK (tabOf md ops) E M pl l = true → wpPlan P ops (QK Q (Pend P md ops Q E M R0 n (idxs pl l))) pl a w → Pend P md ops Q E M R0 (n + pl.length) l a w := by
  intro pl
  induction pl with
  | nil => intro l a w _ _ _ _ h; exact h w (.refl _ _)
  | cons s r ih =>
    intro l a w hA hE hM hok h fuel L hR hn
    simp only [List.length_cons] at hn
    obtain ⟨fuel, rfl⟩ : ∃ m, fuel = m + 1 := ⟨fuel - 1, by omega⟩
    cases s with
    | p i =>
      obtain ⟨o, ho, v, hy, hn'⟩ := h
      simp only [preOK, Bool.and_eq_true] at hok
      exact anyR_take hR0 hsel hQ anyW .any true E (fun _ _ _ _ _ => trivial) i fuel L l a w o v hR ho hy hok.1 (ih (i :: l) _ w hA hE hM hok.2 hn' fuel _ (hR.cons (lt_of_get ho)) (by omega))
    | q i =>
      obtain ⟨o, ho, v, hy, hn'⟩ := h
      simp only [preOK, Bool.and_eq_true] at hok
      refine anyR_take hR0 hsel hQ (Chg []) .grown false (E ++ M) (fun j hj w w' he => ?_) i fuel L l a w o v hR ho hy hok.1 (ih (i :: l) _ w hA hE hM hok.2 hn' fuel _ (hR.cons (lt_of_get ho)) (by omega))
      rcases hj with hj | hj
      · cases hj
      · rw [List.contains_eq_mem, decide_eq_false_iff_not, List.mem_append, not_or] at hj
        exact he.2 (by simpa using hj.1) (by simpa using hj.2)
    | r i R =>
      obtain ⟨o, ho, v, hy, hn'⟩ := h
      obtain ⟨rfl, hA⟩ := hA
      simp only [preOK, Bool.and_eq_true] at hok
      refine anyR_take hR0 hsel hQ R hR0 false E (fun j hj w w' he => ?_) i fuel L l a w o v hR ho hy hok.1 (ih (i :: l) _ w hA hE hM hok.2 hn' fuel _ (hR.cons (lt_of_get ho)) (by omega))
      rcases hj with hj | hj
      · cases hj
      · exact he.1 hj
    | x k =>
      simp only [preOK, Bool.and_eq_true] at hok
      obtain ⟨⟨o, ho⟩, hmem, hall⟩ := anyR_only hR hok.1.1 hok.1.2
      intro w1 hw1
      refine ⟨fun h0 => (by rw [h0] at hmem; cases hmem), fun j hj => ?_⟩
      obtain rfl := hall j hj
      exact wpOp_mono (fun a' w' h' => ⟨.grown hR0 h'.1, ih (j :: l) a' w' hA hE hM hok.2 h'.2 fuel _ (hR.cons (lt_of_get ho)) (by omega)⟩) (wpOp_QK (h w1 hw1))
    | s k R =>
      obtain ⟨rfl, hA⟩ := hA
      simp only [preOK, Bool.and_eq_true] at hok
      obtain ⟨⟨o, ho⟩, hmem, hall⟩ := anyR_only hR hok.1.1 hok.1.2
      intro w1 hw1
      refine ⟨fun h0 => (by rw [h0] at hmem; cases hmem), fun j hj => ?_⟩
      obtain rfl := hall j hj
      have hMj := hM j (by simp [marked])
      exact wpOp_mono (fun a' w' h' => ⟨⟨fun _ => h'.1, fun _ hc => (by rw [hMj] at hc; cases hc)⟩, ih (j :: l) a' w' hA hE (fun i hi => hM i (by simp [marked, hi])) hok.2 h'.2 fuel _ (hR.cons (lt_of_get ho)) (by omega)⟩) (wpOp_QK (h w1 hw1))
    | e k =>
      simp only [preOK, Bool.and_eq_true] at hok
      obtain ⟨⟨o, ho⟩, hmem, hall⟩ := anyR_only hR hok.1.1 hok.1.2
      intro w1 hw1
      refine ⟨fun h0 => (by rw [h0] at hmem; cases hmem), fun j hj => ?_⟩
      obtain rfl := hall j hj
      have hEj := hE j (by simp [effects])
      exact wpOp_mono (fun a' w' h' => ⟨⟨fun hc => (by rw [hEj] at hc; cases hc), fun hc => (by rw [hEj] at hc; cases hc)⟩, ih (j :: l) a' w' hA (fun i hi => hE i (by simp [effects, hi])) hM hok.2 h' fuel _ (hR.cons (lt_of_get ho)) (by omega)⟩) (wpOp_QK (h w1 hw1))
theorem Pend.done {n : Nat} {l : List Nat} {a : Act} {w : World} (hok : noneReady l (tabOf md ops) 0 = true) (h : ∀ w1, Chg [] w w1 → Q .normal a w1) : Pend P md ops Q E M R0 n l a w := by
  intro fuel L hR _
  have hr : Region.ready md ops L = [] := by
    apply List.eq_nil_iff_forall_not_mem.2
    intro j hj
    obtain ⟨h0, o, ho, hs⟩ := (ready_iff hR).1 hj
    exact noneReady_spec _ 0 hok j _ (tab_get ho) (by simpa using h0) hs
  cases fuel with
  | zero => exact fun w1 h1 => ⟨hr, h w1 h1⟩
  | succ fuel => exact fun w1 h1 => ⟨fun _ => h w1 h1, by rw [hr]; simp⟩
theorem wp_region_pend {id : Nat} {l : List Oper} {a : Act} {w : World} (E M : List Nat) (R0 : World → World → Prop) (hm : P.follows .mixedOrders = true) (h : Pend P .any l.toArray Q E M R0 l.toArray.size [] a w) : (Code.region id l.toArray true).wp P Q a w :=
  wp_region_any hm (wpAny_of_R _ _ _ _ (wpAnyR.grow (h _ _ Rel.start (Nat.le_refl _)) (Chg.drew (.refl _ _))))
end
end Go.Proofs.YtmoaddicejohgaaDoor
