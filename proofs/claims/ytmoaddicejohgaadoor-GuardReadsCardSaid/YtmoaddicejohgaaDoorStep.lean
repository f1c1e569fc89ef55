/- Steps of a walk: loads, stores, new variables, calls, loops, ends. -/
import Derived.Test.YtmoaddicejohgaaDoorRun
import Derived.Test.YtmoaddicejohgaaDoorInt
set_option linter.unusedSimpArgs false
set_option linter.unusedVariables false
namespace Go.Proofs.YtmoaddicejohgaaDoor
open Go

/-! ### What a call comes to -/

/-- The call returns; what it returns and the world behind it are as said. -/
@[irreducible] def Ret (P : Program) (f : FuncId) (args : Array Value) (w : World) (Post : Value → World → Prop) : Prop := Calls P f args w fun e w' => ∃ v, e = .returned v ∧ Post v w'
@[irreducible] def BP (P : Program) (fn : Func) (Post : Value → World → Prop) : Exit → Act → World → Prop := bodyPost P fn fun e w' => ∃ v, e = .returned v ∧ Post v w'

theorem Ret.calls {P : Program} {f : FuncId} {args : Array Value} {w : World} {Post : Value → World → Prop} (h : Ret P f args w Post) : Calls P f args w fun e w' => ∃ v, e = .returned v ∧ Post v w' := by unfold Ret at h; exact h
theorem Ret.mono {P : Program} {f : FuncId} {args : Array Value} {w : World} {Post Post' : Value → World → Prop} (h : Ret P f args w Post) (hp : ∀ v w', Post v w' → Post' v w') : Ret P f args w Post' := by
  unfold Ret at *
  exact h.mono fun e w' ⟨v, he, hv⟩ => ⟨v, he, hp v w' hv⟩
theorem Ret.enter {P : Program} {f : FuncId} {fn : Func} {c : Code} {args : Array Value} {w : World} {Post : Value → World → Prop} (hf : P.funcs[f]? = some fn) (hb : fn.body = some c)
    (h : c.wp P (BP P fn Post) ⟨args ++ Array.replicate (fn.ntmps - args.size) undef, []⟩ w) : Ret P f args w Post := by
  unfold Ret
  unfold BP at h
  exact calls_of_wp hf hb h

section
variable {P : Program} {fn : Func} {Post : Value → World → Prop} {tm : List Value} {w : World}
theorem BP.panic (c : List PanicEntry) (a : Act) (d : Option Tmp) (v : Value) (w : World) (h : BP P fn Post (.panic c) (a.put d v) w) : BP P fn Post (.panic c) a w := by
  unfold BP at *
  obtain ⟨_, v, hv, _⟩ := h; cases hv
theorem BP.of {a : Act} {v : Value} (hr : (results fn a.tmps).run P w = .ok v w) (hd : a.defers = []) (h : Post v w) : BP P fn Post .ret a w := by unfold BP; exact ⟨hd, v, hr, v, rfl, h⟩
theorem BP.normal {a : Act} (h : BP P fn Post .ret a w) : BP P fn Post .normal a w := by unfold BP at *; exact h
theorem BP.ret1 {t : Tmp} {v : Value} (hr : fn.results = #[.tmp t]) (hv : tm.getD t undef = v) (h : Post v w) : BP P fn Post .ret ⟨tm.toArray, []⟩ w :=
  .of (v := v) (by subst hv; simp [results, hr]) rfl h
theorem BP.ret0 {a : Act} (hr : fn.results = #[]) (hd : a.defers = []) (h : Post (.tuple #[]) w) : BP P fn Post .ret a w := .of (by simp [results, hr]) hd h
theorem BP.ret2 {t u : Tmp} {v v' : Value} (hr : fn.results = #[.tmp t, .tmp u]) (hv : tm.getD t undef = v) (hv' : tm.getD u undef = v') (h : Post (.tuple #[v, v']) w) : BP P fn Post .ret ⟨tm.toArray, []⟩ w :=
  .of (v := .tuple #[v, v']) (by subst hv; subst hv'; simp [results, hr]) rfl h
theorem BP.ret3 {t u s : Tmp} {v v' v'' : Value} (hr : fn.results = #[.tmp t, .tmp u, .tmp s]) (hv : tm.getD t undef = v) (hv' : tm.getD u undef = v') (hv'' : tm.getD s undef = v'') (h : Post (.tuple #[v, v', v'']) w) : BP P fn Post .ret ⟨tm.toArray, []⟩ w :=
  .of (v := .tuple #[v, v', v'']) (by subst hv; subst hv'; subst hv''; simp [results, hr]) rfl h
end

/-! ### Loads -/
section
variable {P : Program} {a : Act} {d : Option Tmp} {ty : TypeId} {pos : String} {af : Array Edge} {g : Option (Nat × Bool)} {x y : Operand} {t T : TypeId} {w : World}

def isAggD : TypeDesc → Bool
  | .struct _ | .array _ _ => true
  | _ => false
theorem run_isAgg {D : TypeDesc} (hu : P.underlying t = some D) (w : World) : (isAgg t).run P w = .ok (isAggD D) w := by
  unfold isAgg
  rw [Sem.run_bind, run_underlying hu w]
  cases D <;> rfl
theorem lr_load1 {D : TypeDesc} {b o : Nat} {v : Value} (hx : a.eval x = PT b o) (hu : P.underlying t = some D) (hD : isAggD D = false) (hc : w.cell? ⟨b, o, none⟩ = some v) : LRun P ⟨d, .load t x, ty, pos, af, g⟩ a w v := by
  refine run_ok_value (w := w) ?_
  simp [hx, Instr.loadAt, Instr.sureAddr, loadVar, run_isAgg hu, hD, hc]
theorem run_loadN {D : TypeDesc} {b o n : Nat} {cs : Array Value} (hu : P.underlying t = some D) (hD : isAggD D = true) (hs : szc P t = some n) (hc : ∀ j, j < n → w.cell? ⟨b, o + j, none⟩ = cs[o + j]?) (hn : o + n ≤ cs.size) :
    (loadVar t ⟨b, o, none⟩).run P w = .ok (.agg (cs.extract o (o + n))) w := by
  have h := run_loadCells_list (P := P) w ⟨b, o, none⟩ (cs.extract o (o + n)).toList (fun j v hj => by
    rw [addr_add]
    have hj' : (cs.extract o (o + n))[j]? = some v := by rw [← Array.getElem?_toList]; exact hj
    rw [Array.getElem?_extract] at hj'
    split at hj'
    · rename_i hlt
      rw [hc j (by omega)]; exact hj'
    · cases hj')
  have hl : (cs.extract o (o + n)).toList.length = n := by simp; omega
  rw [hl] at h
  simp only [loadVar, Sem.run_bind, run_isAgg hu, hD, Result.andThen_ok, if_true, run_sizeOf hs, h, Array.toArray_toList]
  rfl
theorem lr_loadN {D : TypeDesc} {b o n : Nat} {cs : Array Value} (hx : a.eval x = PT b o) (hb : Blk w b T cs) (hu : P.underlying t = some D) (hD : isAggD D = true) (hs : szc P t = some n) (hn : o + n ≤ cs.size) :
    LRun P ⟨d, .load t x, ty, pos, af, g⟩ a w (.agg (cs.extract o (o + n))) := by
  refine run_ok_value (w := w) ?_
  simp only [hx, Instr.loadAt, Instr.sureAddr, Sem.run_bind, Sem.run_pure, Result.andThen_ok]
  exact run_loadN hu hD hs (fun j hj => by
    have hlt : o + j < cs.size := by omega
    rw [hb.cell (Array.getElem?_eq_getElem hlt), Array.getElem?_eq_getElem hlt]) hn
/-- The whole of a block. -/
theorem lr_loadW {D : TypeDesc} {b n : Nat} {cs : Array Value} (hx : a.eval x = PT b 0) (hb : Blk w b T cs) (hu : P.underlying t = some D) (hD : isAggD D = true) (hs : szc P t = some n) (hn : cs.size = n) :
    LRun P ⟨d, .load t x, ty, pos, af, g⟩ a w (.agg cs) := by
  have := lr_loadN (d := d) (ty := ty) (pos := pos) (af := af) (g := g) hx hb hu hD hs (by omega)
  rwa [show cs.extract 0 (0 + n) = cs by rw [Nat.zero_add, ← hn]; simp] at this
end

/-! ### Operations that turn the world -/
/-- Cells from o on are written. -/
def splice (cs : Array Value) (o : Nat) (vs : Array Value) : Array Value := (cs.toList.take o ++ vs.toList ++ cs.toList.drop (o + vs.size)).toArray
theorem splice_size {cs vs : Array Value} {o : Nat} (h : o + vs.size ≤ cs.size) : (splice cs o vs).size = cs.size := by simp [splice]; omega
theorem splice_all {cs vs : Array Value} (h : vs.size = cs.size) : splice cs 0 vs = vs := by
  unfold splice
  simp only [List.take_zero, List.nil_append, Nat.zero_add]
  rw [List.drop_eq_nil_of_le (by simp; omega)]; simp
theorem splice_get {cs vs : Array Value} {o i : Nat} (h : o + vs.size ≤ cs.size) : (splice cs o vs)[i]? = if o ≤ i ∧ i < o + vs.size then vs[i - o]? else cs[i]? := by
  unfold splice
  simp only [List.append_assoc, List.getElem?_toArray]
  rw [List.getElem?_append]
  simp only [List.length_take, Array.length_toList, Nat.min_eq_left (show o ≤ cs.size by omega)]
  by_cases h1 : i < o
  · rw [if_pos h1, if_neg (by omega), List.getElem?_take, if_pos h1]; simp
  · rw [if_neg h1, List.getElem?_append]
    simp only [Array.length_toList]
    by_cases h2 : i < o + vs.size
    · rw [if_pos (by omega), if_pos ⟨by omega, h2⟩]; simp
    · rw [if_neg (by omega), if_neg (by omega), List.getElem?_drop]
      simp only [Array.getElem?_toList]
      congr 1; omega
theorem splice_set1 {cs : Array Value} {o : Nat} {v : Value} (h : o < cs.size) : splice cs o #[v] = cs.setIfInBounds o v := by
  apply Array.ext_getElem?
  intro i
  rw [splice_get (by simp; omega), Array.getElem?_setIfInBounds]
  by_cases hi : o = i
  · subst hi; simp [h]
  · rw [if_neg (by simp; omega), if_neg hi]

theorem run_storeCells_blk {P : Program} {b : Nat} {t : TypeId} : ∀ (vs : List Value) (i o : Nat) (w : World) (cs : Array Value), Blk w b t cs → o + i + vs.length ≤ cs.size → (∀ v ∈ vs, v.oneCell' = true) →
    ∃ w', (storeCells ⟨b, o, none⟩ vs i).run P w = .ok () w' ∧ Blk w' b t (splice cs (o + i) vs.toArray) ∧ (∀ k, k ≠ b → w'.heap[k]? = w.heap[k]?) ∧ w'.heap.size = w.heap.size ∧ w'.os = w.os ∧ w'.tape = w.tape ∧ w'.output = w.output
  | [], i, o, w, cs, hb, hl, _ => by
    refine ⟨w, rfl, ?_, fun _ _ => rfl, rfl, rfl, rfl, rfl⟩
    have : splice cs (o + i) [].toArray = cs := by unfold splice; simp
    rw [this]; exact hb
  | v :: rest, i, o, w, cs, hb, hl, h1 => by
    simp only [List.length_cons] at hl
    have hlt : o + i < cs.size := by omega
    have hst : (store ((⟨b, o, none⟩ : Addr).add i) v).run P w = .ok () (w.setCell ⟨b, o + i, none⟩ v) := by
      rw [addr_add, run_store P w _ v _ (h1 v (by simp)), hb.cell (Array.getElem?_eq_getElem hlt)]
      simp [hb.free hlt]
    obtain ⟨w', hr, hB, ho, hsz, e1, e2, e3⟩ := run_storeCells_blk (P := P) rest (i + 1) o (w.setCell ⟨b, o + i, none⟩ v) _ (hb.set (o + i) v) (by simp; omega) (fun x hx => h1 x (by simp [hx]))
    refine ⟨w', ?_, ?_, fun k hk => (ho k hk).trans (heap_set_other _ _ _ hk), hsz.trans (heap_set_size _ _ _), e1, e2, e3⟩
    · simp only [storeCells, Sem.run_bind, hst, Result.andThen_ok, hr]
    · have : splice (cs.setIfInBounds (o + i) v) (o + (i + 1)) rest.toArray = splice cs (o + i) (v :: rest).toArray := by
        apply Array.ext_getElem?
        intro j
        rw [splice_get (by simp; omega), splice_get (by simp; omega), Array.getElem?_setIfInBounds]
        simp only [List.size_toArray, List.length_cons]
        by_cases hj : o + i = j
        · subst hj; simp [hlt]; omega
        · by_cases hj2 : o + i ≤ j ∧ j < o + i + (rest.length + 1)
          · rw [if_pos (by omega), if_pos hj2]
            have : j - (o + i) = (j - (o + (i + 1))) + 1 := by omega
            rw [this]; simp
          · rw [if_neg (by omega), if_neg hj2, if_neg hj]
      rw [← this]; exact hB

section
variable {P : Program} {ops : List Oper} {Q : Exit → Act → World → Prop} {r : List PStep} {a : Act} {w : World} {i : Nat} {d : Option Tmp} {ty : TypeId} {pos : String} {af : Array Edge} {g : Option (Nat × Bool)} {x y : Operand} {t T : TypeId}
  {S : List Nat} {w0 : World} {L : List Own} {o : Oper} {v : Value}

/-- Yields v in whatever the world may grow to. -/
def QRun (P : Program) (o : Oper) (a : Act) (w : World) (v : Value) : Prop := ∀ w', Chg [] w w' → o.quietAt P a (Chg [] w') w' v
theorem QRun.of_l (h : ∀ w', Chg [] w w' → LRun P o a w' v) : QRun P o a w v := fun w' hw => by
  unfold Oper.quietAt; rw [h w' hw]; exact ⟨rfl, rfl⟩
theorem PRun.q (h : PRun P o a v) (w : World) : QRun P o a w v := .of_l fun w' _ => h w'

theorem at_list {ops : List Oper} (h : ops[i]? = some o) : ops.toArray[i]? = some o := by simpa using h
theorem plan_nil (hH : Hp S w0 w L) (h : ∀ w', Hp S w0 w' L → Q .normal a w') : wpPlan P ops.toArray Q [] a w := fun w1 hw => h w1 (hH.call hw)
theorem plan_p (ho : ops[i]? = some o) (hg : Region.wanted o (yielded ops.toArray a.tmps) = true) (hrun : PRun P o a v) (h : wpPlan P ops.toArray Q r (a.put o.dst v) w) : wpPlan P ops.toArray Q (.p i :: r) a w :=
  ⟨o, at_list ho, v, .inl ⟨hg, fun w' _ => by unfold Oper.quietAt; rw [hrun w']; exact ⟨rfl, rfl⟩⟩, h⟩
theorem plan_q (ho : ops[i]? = some o) (hg : Region.wanted o (yielded ops.toArray a.tmps) = true) (hrun : QRun P o a w v) (h : wpPlan P ops.toArray Q r (a.put o.dst v) w) : wpPlan P ops.toArray Q (.q i :: r) a w :=
  ⟨o, at_list ho, v, .inl ⟨hg, hrun⟩, h⟩
theorem plan_ps (ho : ops[i]? = some o) (hg : Region.wanted o (yielded ops.toArray a.tmps) = false) (h : wpPlan P ops.toArray Q r (a.put o.dst undef) w) : wpPlan P ops.toArray Q (.p i :: r) a w :=
  ⟨o, at_list ho, undef, .inr ⟨hg, rfl⟩, h⟩
theorem plan_qs (ho : ops[i]? = some o) (hg : Region.wanted o (yielded ops.toArray a.tmps) = false) (h : wpPlan P ops.toArray Q r (a.put o.dst undef) w) : wpPlan P ops.toArray Q (.q i :: r) a w :=
  ⟨o, at_list ho, undef, .inr ⟨hg, rfl⟩, h⟩
theorem wpPlan.grow : ∀ (pl : List PStep) (a : Act) (w w1 : World), FarR pl → wpPlan P ops.toArray Q pl a w → Chg [] w w1 → wpPlan P ops.toArray Q pl a w1
  | [], _, _, _, _, h, hc => fun w2 h2 => h w2 (hc.trans h2)
  | .p i :: r, a, w, w1, hF, ⟨o, ho, v, hy, hn⟩, hc => ⟨o, ho, v, hy.grow .any (Far.any.of _ _ hc), wpPlan.grow r _ w w1 hF hn hc⟩
  | .q i :: r, a, w, w1, hF, ⟨o, ho, v, hy, hn⟩, hc => ⟨o, ho, v, hy.grow .grown hc, wpPlan.grow r _ w w1 hF hn hc⟩
  | .r i R :: r, a, w, w1, hF, ⟨o, ho, v, hy, hn⟩, hc => ⟨o, ho, v, hy.grow hF.1 (hF.1.of _ _ hc), wpPlan.grow r _ w w1 hF.2 hn hc⟩
  | .x i :: r, _, _, _, _, h, hc => fun w2 h2 => h w2 (hc.trans h2)
  | .s i R :: r, _, _, _, _, h, hc => fun w2 h2 => h w2 (hc.trans h2)
  | .e i :: r, _, _, _, _, h, hc => fun w2 h2 => h w2 (hc.trans h2)
theorem plan_es (ho : ops[i]? = some o) (hg : Region.wanted o (yielded ops.toArray a.tmps) = false) (h : wpPlan P ops.toArray Q r (a.put o.dst undef) w) (hF : noR r = true := by rfl) : wpPlan P ops.toArray Q (.e i :: r) a w := fun w1 hw => by
  unfold wpOp
  simp only [at_list ho, hg]
  exact wpPlan.grow r _ w w1 (FarR_of_no r hF) h hw
theorem plan_xs (ho : ops[i]? = some o) (hg : Region.wanted o (yielded ops.toArray a.tmps) = false) (h : wpPlan P ops.toArray Q r (a.put o.dst undef) w) (hF : noR r = true := by rfl) : wpPlan P ops.toArray Q (.x i :: r) a w := fun w1 hw => by
  unfold wpOp
  simp only [at_list ho, hg]
  exact ⟨.refl _ _, wpPlan.grow r _ w w1 (FarR_of_no r hF) h hw⟩
/-- An operation that turns the world. -/
theorem plan_ev (hH : Hp S w0 w L) (ho : ops[i]? = some o) (hg : Region.wanted o (yielded ops.toArray a.tmps) = true) (h : ∀ w1, Hp S w0 w1 L → ∃ v w', (execOp a.eval o).run P w1 = .ok (.value v) w' ∧ wpPlan P ops.toArray Q r (a.put o.dst v) w') : wpPlan P ops.toArray Q (.e i :: r) a w := fun w1 hw => by
  obtain ⟨v, w', hr, hn⟩ := h w1 (hH.call hw)
  unfold wpOp
  simp only [at_list ho, hg, if_true]
  exact .inl (by unfold Oper.wp; rw [hr]; exact hn)
theorem plan_ek (hH : Hp S w0 w L) (ho : ops[i]? = some o) (hg : Region.wanted o (yielded ops.toArray a.tmps) = true) (h : ∀ w1, Hp S w0 w1 L → ∃ w', (execOp a.eval o).run P w1 = .ok .skip w' ∧ wpPlan P ops.toArray Q r (a.put o.dst undef) w') : wpPlan P ops.toArray Q (.e i :: r) a w := fun w1 hw => by
  obtain ⟨w', hr, hn⟩ := h w1 (hH.call hw)
  unfold wpOp
  simp only [at_list ho, hg, if_true]
  exact .inl (by unfold Oper.wp; rw [hr]; exact hn)
/-- An operation that leaves what was there. -/
theorem plan_xv (hH : Hp S w0 w L) (ho : ops[i]? = some o) (hg : Region.wanted o (yielded ops.toArray a.tmps) = true) (h : ∀ w1, Hp S w0 w1 L → ∃ v w', (execOp a.eval o).run P w1 = .ok (.value v) w' ∧ Chg [] w1 w' ∧ wpPlan P ops.toArray Q r (a.put o.dst v) w') : wpPlan P ops.toArray Q (.x i :: r) a w := fun w1 hw => by
  obtain ⟨v, w', hr, hn⟩ := h w1 (hH.call hw)
  unfold wpOp
  simp only [at_list ho, hg, if_true]
  exact .inl (by unfold Oper.wp; rw [hr]; exact hn)

/-- Yields v in whatever R leads to. -/
def RRun (P : Program) (o : Oper) (a : Act) (R : World → World → Prop) (w : World) (v : Value) : Prop := ∀ w', R w w' → o.quietAt P a (Chg [] w') w' v
theorem RRun.of_l {R : World → World → Prop} (h : ∀ w', R w w' → LRun P o a w' v) : RRun P o a R w v := fun w' hw => by
  unfold Oper.quietAt; rw [h w' hw]; exact ⟨rfl, rfl⟩
theorem PRun.toR (h : PRun P o a v) (R : World → World → Prop) (w : World) : RRun P o a R w v := .of_l fun w' _ => h w'
theorem plan_r {R : World → World → Prop} (ho : ops[i]? = some o) (hg : Region.wanted o (yielded ops.toArray a.tmps) = true) (hrun : RRun P o a R w v) (h : wpPlan P ops.toArray Q r (a.put o.dst v) w) : wpPlan P ops.toArray Q (.r i R :: r) a w :=
  ⟨o, at_list ho, v, .inl ⟨hg, hrun⟩, h⟩
theorem plan_rs {R : World → World → Prop} (ho : ops[i]? = some o) (hg : Region.wanted o (yielded ops.toArray a.tmps) = false) (h : wpPlan P ops.toArray Q r (a.put o.dst undef) w) : wpPlan P ops.toArray Q (.r i R :: r) a w :=
  ⟨o, at_list ho, undef, .inr ⟨hg, rfl⟩, h⟩
/-- A load from a block that R lets stay. -/
theorem rr_load1 {R : World → World → Prop} {D : TypeDesc} {b o : Nat} {cs : Array Value} (hR : ∀ w', R w w' → Blk w' b T cs) (hx : a.eval x = PT b o) (hu : P.underlying t = some D) (hD : isAggD D = false) (hc : cs[o]? = some v) : RRun P ⟨d, .load t x, ty, pos, af, g⟩ a R w v :=
  .of_l fun w' hw => lr_load1 hx hu hD ((hR w' hw).cell hc)

/-! loads -/
theorem qr_load1 {D : TypeDesc} {b o : Nat} (hx : a.eval x = PT b o) (hu : P.underlying t = some D) (hD : isAggD D = false) (hc : w.cell? ⟨b, o, none⟩ = some v) : QRun P ⟨d, .load t x, ty, pos, af, g⟩ a w v :=
  .of_l fun _ hw => lr_load1 hx hu hD (hw.nil_cell hc)
theorem qr_loadN {D : TypeDesc} {b o n : Nat} {cs : Array Value} (hx : a.eval x = PT b o) (hb : Blk w b T cs) (hu : P.underlying t = some D) (hD : isAggD D = true) (hs : szc P t = some n) (hn : o + n ≤ cs.size) :
    QRun P ⟨d, .load t x, ty, pos, af, g⟩ a w (.agg (cs.extract o (o + n))) := .of_l fun _ hw => lr_loadN hx (hw.nil_blk hb) hu hD hs hn
theorem qr_loadW {D : TypeDesc} {b n : Nat} {cs : Array Value} (hx : a.eval x = PT b 0) (hb : Blk w b T cs) (hu : P.underlying t = some D) (hD : isAggD D = true) (hs : szc P t = some n) (hn : cs.size = n) :
    QRun P ⟨d, .load t x, ty, pos, af, g⟩ a w (.agg cs) := .of_l fun _ hw => lr_loadW hx (hw.nil_blk hb) hu hD hs hn

/-! stores -/
theorem plan_store1 (n : Nat) {b o : Nat} {cs : Array Value} {v : Value} (ho : ops[i]? = some ⟨none, .store t x y, ty, pos, af, g⟩) (hg : Region.wanted ⟨none, .store t x y, ty, pos, af, g⟩ (yielded ops.toArray a.tmps) = true)
    (hH : Hp S w0 w L) (hx : a.eval x = PT b o) (hi : L[n]? = some (some b, T, cs)) (hy : a.eval y = v) (h1 : v.oneCell' = true) (hs : szc P t = some 1) (hlt : o < cs.size)
    (h : ∀ w', Hp S w0 w' (L.set n (some b, T, cs.setIfInBounds o v)) → wpPlan P ops.toArray Q r a w') : wpPlan P ops.toArray Q (.e i :: r) a w := by
  refine plan_ek hH ho hg fun w hH => ?_
  have hb := hH.blk n hi
  have hc : v.cells = #[v] := by cases v <;> simp_all [Value.cells, Value.oneCell']
  refine ⟨w.setCell ⟨b, o, none⟩ v, ?_, h _ (hH.store n hi o v)⟩
  have hst : (store (⟨b, o, none⟩ : Addr) v).run P w = .ok () (w.setCell ⟨b, o, none⟩ v) := by
    rw [run_store P w _ v _ h1, hb.cell (Array.getElem?_eq_getElem hlt)]
    simp [hb.free hlt]
  simp [execOp, hx, hy, Instr.storeAt, Instr.sureAddr, storeVar, run_sizeOf hs, hc, storeCells, addr_add, hst]

theorem plan_storeN (n : Nat) {b o m : Nat} {cs vs : Array Value} (ho : ops[i]? = some ⟨none, .store t x y, ty, pos, af, g⟩) (hg : Region.wanted ⟨none, .store t x y, ty, pos, af, g⟩ (yielded ops.toArray a.tmps) = true)
    (hH : Hp S w0 w L) (hx : a.eval x = PT b o) (hi : L[n]? = some (some b, T, cs)) (hy : a.eval y = .agg vs) (h1 : ∀ v ∈ vs.toList, v.oneCell' = true) (hs : szc P t = some m) (hm : vs.size = m) (hlt : o + m ≤ cs.size)
    (h : ∀ w', Hp S w0 w' (L.set n (some b, T, splice cs o vs)) → wpPlan P ops.toArray Q r a w') : wpPlan P ops.toArray Q (.e i :: r) a w := by
  refine plan_ek hH ho hg fun w hH => ?_
  have hb := hH.blk n hi
  obtain ⟨w', hr, hB, hoth, hsz, e1, e2, e3⟩ := run_storeCells_blk (P := P) vs.toList 0 o w cs hb (by simp; omega) h1
  refine ⟨w', ?_, h _ (hH.put n hi ?_ (by simpa using hB) fun k hk _ => hoth k hk)⟩
  · simp [execOp, hx, hy, Instr.storeAt, Instr.sureAddr, storeVar, run_sizeOf hs, Value.cells, hm, hr]
  · refine hH.chg.trans' (T := [b]) ⟨e1, e2, e3, by omega, fun k hk hn => hoth k (by simpa using hn)⟩ ?_
    intro z hz hlt
    simp only [List.mem_singleton] at hz
    subst hz
    rcases hH.mine n hi with h1 | h1
    · omega
    · exact h1
/-- A variable is written whole. -/
theorem plan_storeW (n : Nat) {b m : Nat} {cs vs : Array Value} (ho : ops[i]? = some ⟨none, .store t x y, ty, pos, af, g⟩) (hg : Region.wanted ⟨none, .store t x y, ty, pos, af, g⟩ (yielded ops.toArray a.tmps) = true)
    (hH : Hp S w0 w L) (hx : a.eval x = PT b 0) (hi : L[n]? = some (some b, T, cs)) (hy : a.eval y = .agg vs) (h1 : ∀ v ∈ vs.toList, v.oneCell' = true) (hs : szc P t = some m) (hm : vs.size = m) (hlt : cs.size = m)
    (h : ∀ w', Hp S w0 w' (L.set n (some b, T, vs)) → wpPlan P ops.toArray Q r a w') : wpPlan P ops.toArray Q (.e i :: r) a w :=
  plan_storeN n ho hg hH hx hi hy h1 hs hm (by omega) fun w' h' => h w' (by rwa [splice_all (by omega)] at h')

/-! new variables -/
def zeroC (P : Program) (t : TypeId) : Option (Array Value) := ((P.info? t).bind (·.zero)).map Value.cells
theorem plan_alloc {dst : Tmp} {cs : Array Value} (ho : ops[i]? = some ⟨some dst, .alloc t, ty, pos, af, g⟩) (hg : Region.wanted ⟨some dst, .alloc t, ty, pos, af, g⟩ (yielded ops.toArray a.tmps) = true)
    (hH : Hp S w0 w L) (hz : zeroC P t = some cs) (h : ∀ b w', Hp S w0 w' (L ++ [(some b, t, cs)]) → wpPlan P ops.toArray Q r (a.put (some dst) (PT b 0)) w') : wpPlan P ops.toArray Q (.x i :: r) a w := by
  refine plan_xv hH ho hg fun w hH => ⟨PT w.heap.size 0, w.alloc (.cells cs t), ?_, (Chg.refl _ _).alloc _, h _ _ (hH.alloc t cs)⟩
  unfold zeroC at hz
  obtain ⟨z, hz1, rfl⟩ := Option.map_eq_some_iff.1 hz
  obtain ⟨inf, hi, hz2⟩ := Option.bind_eq_some_iff.1 hz1
  simp [execOp, Instr.alloc, zeroValue, typeInfo, hi, hz2, newVar, newRow]
theorem plan_box {dst : Tmp} {v : Value} (ho : ops[i]? = some ⟨some dst, .box t x, ty, pos, af, g⟩) (hg : Region.wanted ⟨some dst, .box t x, ty, pos, af, g⟩ (yielded ops.toArray a.tmps) = true)
    (hH : Hp S w0 w L) (hx : a.eval x = v) (h : ∀ b w', Hp S w0 w' (L ++ [(some b, t, v.cells)]) → wpPlan P ops.toArray Q r (a.put (some dst) (PT b 0)) w') : wpPlan P ops.toArray Q (.x i :: r) a w := by
  refine plan_xv hH ho hg fun w hH => ⟨PT w.heap.size 0, w.alloc (.cells v.cells t), ?_, (Chg.refl _ _).alloc _, h _ _ (hH.alloc t v.cells)⟩
  simp [execOp, hx, Instr.box, newVar, newRow]

/-! calls -/
/-- Function f has a body, and may be called. -/
def Callable (P : Program) (f : FuncId) : Prop := ∃ fn, P.funcs[f]? = some fn ∧ (fn.name == "runtime.NumGoroutine") = false ∧ fn.body.isNone = false
theorem run_call {f : FuncId} {args : List Operand} {ats : Array TypeId} {vs : List Value} (hc : Callable P f) (hargs : args.map a.eval = vs) (w : World) : (execOp a.eval ⟨d, .call ⟨.value (.func f), args.toArray, ats⟩, ty, pos, af, g⟩).run P w = .ok (.enter f vs.toArray) w := by
  obtain ⟨fn, hf, hn, hb⟩ := hc
  have h1 : (callFunc f vs.toArray).run P w = .ok (.enter f vs.toArray) w := by
    unfold callFunc
    rw [Sem.run_bind]
    simp only [run_program, Result.andThen_ok, hf, hn, hb, Bool.false_eq_true, if_false]
    rfl
  simp only [execOp, resolve, List.map_toArray, hargs, Act.eval, Deferred.ofValue, invoke, Sem.run_bind, Sem.run_pure, Result.andThen_ok, Array.empty_append, Array.append_empty, h1]
/-- A call whose answer hangs on its arguments alone, and which only makes memory grow. -/
theorem qr_call {f : FuncId} {args : List Operand} {ats : Array TypeId} {vs : List Value} (hc : Callable P f) (hr : ∀ w', Chg [] w w' → Ret P f vs.toArray w' fun v' w'' => v' = v ∧ Chg [] w' w'') (hargs : args.map a.eval = vs) :
    QRun P ⟨d, .call ⟨.value (.func f), args.toArray, ats⟩, ty, pos, af, g⟩ a w v := fun w' hw => by
  unfold Oper.quietAt
  rw [run_call hc hargs w']
  exact ⟨rfl, (hr w' hw).calls.mono fun e w'' ⟨v', he, hv, hx⟩ => ⟨by rw [he, hv], hx⟩⟩
theorem plan_callx {f : FuncId} {args : List Operand} {ats : Array TypeId} {vs : List Value} {Post : World → Value → World → Prop} (ho : ops[i]? = some ⟨d, .call ⟨.value (.func f), args.toArray, ats⟩, ty, pos, af, g⟩)
    (hg : Region.wanted ⟨d, .call ⟨.value (.func f), args.toArray, ats⟩, ty, pos, af, g⟩ (yielded ops.toArray a.tmps) = true) (hH : Hp S w0 w L) (hc : Callable P f) (hr : ∀ w1, Hp S w0 w1 L → Ret P f vs.toArray w1 (Post w1)) (hargs : args.map a.eval = vs)
    (hx : ∀ w1 v w', Post w1 v w' → Chg [] w1 w') (h : ∀ w1 v w', Hp S w0 w1 L → Post w1 v w' → wpPlan P ops.toArray Q r (a.put d v) w') : wpPlan P ops.toArray Q (.x i :: r) a w := fun w1 hw => by
  unfold wpOp
  simp only [at_list ho, hg, if_true]
  refine .inl ?_
  unfold Oper.wp
  rw [run_call hc hargs w1, Oper.upon_enter]
  exact (hr w1 (hH.call hw)).calls.mono fun e w' ⟨v, he, hv⟩ => by subst he; exact ⟨hx _ _ _ hv, h w1 v w' (hH.call hw) hv⟩
theorem plan_calle {f : FuncId} {args : List Operand} {ats : Array TypeId} {vs : List Value} {Post : World → Value → World → Prop} (ho : ops[i]? = some ⟨d, .call ⟨.value (.func f), args.toArray, ats⟩, ty, pos, af, g⟩)
    (hg : Region.wanted ⟨d, .call ⟨.value (.func f), args.toArray, ats⟩, ty, pos, af, g⟩ (yielded ops.toArray a.tmps) = true) (hH : Hp S w0 w L) (hc : Callable P f) (hr : ∀ w1, Hp S w0 w1 L → Ret P f vs.toArray w1 (Post w1)) (hargs : args.map a.eval = vs)
    (h : ∀ w1 v w', Hp S w0 w1 L → Post w1 v w' → wpPlan P ops.toArray Q r (a.put d v) w') : wpPlan P ops.toArray Q (.e i :: r) a w := fun w1 hw => by
  unfold wpOp
  simp only [at_list ho, hg, if_true]
  refine .inl ?_
  unfold Oper.wp
  rw [run_call hc hargs w1, Oper.upon_enter]
  exact (hr w1 (hH.call hw)).calls.mono fun e w' ⟨v, he, hv⟩ => by subst he; exact h w1 v w' (hH.call hw) hv
end

/-! ### Loops -/
theorem wp_loop_g {P : Program} {Q : Exit → Act → World → Prop} {c : Code} (I : Nat → Act → World → Prop) (round : ∀ n a w, I n a w → c.wp P (Exit.then (fun a' w' => ∃ m, m < n ∧ I m a' w') Q) a w) :
    ∀ (n : Nat) (a : Act) (w : World), I n a w → (Code.loop c).wp P Q a w := by
  intro n a w h₀ b k cs
  have key : ∀ n a w, I n a w → ∃ e a' w', Q e a' w' ∧ Arrives P (lone (b.at a (.code c :: .inLoop c :: k)) cs w) b k cs e a' w' := by
    intro n
    induction n using Nat.strongRecOn with
    | _ n ih =>
      intro a w hI
      obtain ⟨e, a₁, w₁, hq, harr⟩ := round n a w hI b (.inLoop c :: k) cs
      cases e with
      | normal =>
        obtain ⟨m, hlt, hI₁⟩ := hq
        obtain ⟨e₂, a₂, w₂, hq₂, harr₂⟩ := ih m hlt a₁ w₁ hI₁
        exact ⟨e₂, a₂, w₂, hq₂, .of_steps (Steps.trans harr (.one step_inLoop)) harr₂⟩
      | exit id => exact ⟨_, a₁, w₁, hq, .pass (x := .inLoop c) rfl (fun _ _ => .inl (by simp)) harr⟩
      | goto l => exact ⟨_, a₁, w₁, hq, .pass (x := .inLoop c) rfl (fun _ _ => .inl (by simp)) harr⟩
      | ret => exact ⟨_, a₁, w₁, hq, .pass (x := .inLoop c) rfl (fun _ _ => .inl (by simp)) harr⟩
      | panic ch => exact ⟨_, a₁, w₁, hq, .pass (x := .inLoop c) rfl (fun _ _ => .inl (by simp)) harr⟩
      | outgrown => exact ⟨_, a₁, w₁, hq, .pass (x := .inLoop c) rfl (fun _ _ => .inl (by simp)) harr⟩
  obtain ⟨e, a', w', hq, harr⟩ := key n a w h₀
  exact ⟨e, a', w', hq, .of_steps (.one step_loop) harr⟩

/-- The slots that a loop writes hold these values. -/
def putAll (tm : List Value) : List Nat → List Value → List Value
  | s :: ss, v :: vs => putAll (tm.set s v) ss vs
  | _, _ => tm
/-- What the slots hold. -/
def getAll (tm : List Value) (slots : List Nat) : List Value := slots.map fun s => tm.getD s undef
/-- A loop: of the slots that it writes, R says what they hold at each round's head; n goes down. -/
theorem wp_loopS {P : Program} {Q : Exit → Act → World → Prop} {c : Code} {tm : List Value} (slots : List Nat) (R : Nat → List Value → World → Prop) (n : Nat) {w : World} (hst : putAll tm slots (getAll tm slots) = tm)
    (h0 : R n (getAll tm slots) w)
    (round : ∀ n vs w, R n vs w → c.wp P (Exit.then (fun a' w' => ∃ m, m < n ∧ ∃ tm', a' = ⟨tm'.toArray, []⟩ ∧ putAll tm slots (getAll tm' slots) = tm' ∧ R m (getAll tm' slots) w') Q) ⟨(putAll tm slots vs).toArray, []⟩ w) : (Code.loop c).wp P Q ⟨tm.toArray, []⟩ w := by
  refine wp_loop_g (fun n a w => ∃ tm', a = ⟨tm'.toArray, []⟩ ∧ putAll tm slots (getAll tm' slots) = tm' ∧ R n (getAll tm' slots) w) (fun n a w hI => ?_) n _ _ ⟨tm, rfl, hst, h0⟩
  obtain ⟨tm', rfl, h1, hR⟩ := hI
  have := round n (getAll tm' slots) w hR
  rw [h1] at this
  exact this

/-- Slots of which nothing is said. -/
def putD (tm d : List Value) : List Nat → Nat → List Value
  | s :: ss, k => putD (tm.set s (d.getD k undef)) d ss (k + 1)
  | [], _ => tm
/-- A loop: of the live slots R says what they hold at each round's head; the dead ones may hold anything. -/
theorem wp_loopT {P : Program} {Q : Exit → Act → World → Prop} {c : Code} {tm : List Value} (live dead : List Nat) (R : Nat → List Value → World → Prop) (n : Nat) {w : World} (hst : putD (putAll tm live (getAll tm live)) (getAll tm dead) dead 0 = tm)
    (h0 : R n (getAll tm live) w)
    (round : ∀ n vs w, R n vs w → ∀ d, c.wp P (Exit.then (fun a' w' => ∃ m, m < n ∧ ∃ tm', a' = ⟨tm'.toArray, []⟩ ∧ putD (putAll tm live (getAll tm' live)) (getAll tm' dead) dead 0 = tm' ∧ R m (getAll tm' live) w') Q) ⟨(putD (putAll tm live vs) d dead 0).toArray, []⟩ w) : (Code.loop c).wp P Q ⟨tm.toArray, []⟩ w := by
  refine wp_loop_g (fun n a w => ∃ tm', a = ⟨tm'.toArray, []⟩ ∧ putD (putAll tm live (getAll tm' live)) (getAll tm' dead) dead 0 = tm' ∧ R n (getAll tm' live) w) (fun n a w hI => ?_) n _ _ ⟨tm, rfl, hst, h0⟩
  obtain ⟨tm', rfl, h1, hR⟩ := hI
  have := round n (getAll tm' live) w hR (getAll tm' dead)
  rw [h1] at this
  exact this

section
variable {P : Program} {a : Act} {w : World} {d : Option Tmp} {ty : TypeId} {pos : String} {af : Array Edge} {g : Option (Nat × Bool)} {x y : Operand} {t T : TypeId}
/-- A part of an array of bytes. -/
theorem qr_load8 {D : TypeDesc} {b o n m : Nat} {f : Nat → UInt8} (hx : a.eval x = PT b o) (hb : Blk w b T (arr8 m f)) (hu : P.underlying t = some D) (hD : isAggD D = true) (hs : szc P t = some n) (hn : o + n ≤ m) :
    QRun P ⟨d, .load t x, ty, pos, af, g⟩ a w (.agg (arr8 n fun j => f (o + j))) := by
  have := qr_loadN (d := d) (ty := ty) (pos := pos) (af := af) (g := g) hx hb hu hD hs (by simpa using hn)
  rwa [arr8_extract hn] at this
theorem pr_slice_arr_lh1 {k k' : IntKind} {e : TypeId} {n s b o l h : Nat} {xl xh : Operand} (hx : a.eval x = PT b o) (hl : a.eval xl = .int k (l : Int)) (hh : a.eval xh = .int k' (h : Int))
    (hu : P.underlying t = some (.array n e)) (hs : szc P e = some s) (h1 : l ≤ h) (h2 : h ≤ n) (h3 : l < n) : PRun P ⟨d, .slice t x (some xl) (some xh) none, ty, pos, af, g⟩ a (.slice (some ⟨b, o + l * s, none⟩) (h - l) (n - l)) := by
  have := pr_slice_arr_lh (d := d) (ty := ty) (pos := pos) (af := af) (g := g) hx hl hh hu hs h1 h2
  rw [show cutA (some ⟨b, o, none⟩) l n s = some ⟨b, o + l * s, none⟩ by unfold cutA; rw [if_neg (by omega)]; simp [addr_add]] at this
  exact this
theorem pr_slice_arr_l1 {k : IntKind} {e : TypeId} {n s b o l : Nat} {xl : Operand} (hx : a.eval x = PT b o) (hl : a.eval xl = .int k (l : Int))
    (hu : P.underlying t = some (.array n e)) (hs : szc P e = some s) (h3 : l < n) : PRun P ⟨d, .slice t x (some xl) none none, ty, pos, af, g⟩ a (.slice (some ⟨b, o + l * s, none⟩) (n - l) (n - l)) := by
  have := pr_slice_arr_l (d := d) (ty := ty) (pos := pos) (af := af) (g := g) hx hl hu hs (by omega)
  rw [show cutA (some ⟨b, o, none⟩) l n s = some ⟨b, o + l * s, none⟩ by unfold cutA; rw [if_neg (by omega)]; simp [addr_add]] at this
  exact this
end

/-! ### Ends whose result lies in a variable -/
theorem BP.retc {P : Program} {fn : Func} {Post : Value → World → Prop} {tm : List Value} {w : World} {p : Tmp} {t T : TypeId} {D : TypeDesc} {b n : Nat} {cs : Array Value} (hr : fn.results = #[.cell p t]) (hp : tm.getD p undef = PT b 0) (hb : Blk w b T cs)
    (hu : P.underlying t = some D) (hD : isAggD D = true) (hs : szc P t = some n) (hn : cs.size = n) (h : Post (.agg cs) w) : BP P fn Post .ret ⟨tm.toArray, []⟩ w := by
  refine .of (v := .agg cs) ?_ rfl h
  have hl := run_loadN (P := P) (w := w) (b := b) (o := 0) (cs := cs) hu hD hs (fun j hj => by
    have hlt : 0 + j < cs.size := by omega
    rw [hb.cell (Array.getElem?_eq_getElem hlt), Array.getElem?_eq_getElem hlt]) (by omega)
  rw [show cs.extract 0 (0 + n) = cs by rw [Nat.zero_add, ← hn]; simp] at hl
  have hp' : tm[p]?.getD undef = PT b 0 := by rw [← hp, List.getD_eq_getElem?_getD]
  simp [results, hr, hp', asAddr, hl]

theorem Hp.cast {S : List Nat} {w0 w : World} {L L' : List Own} (h : Hp S w0 w L) (e : L = L') : Hp S w0 w L' := e ▸ h
theorem Hp.take {S : List Nat} {w0 w : World} {L : List Own} (h : Hp S w0 w L) (n : Nat) : Hp S w0 w (L.take n) where
  chg := h.chg
  own e he := h.own e (List.mem_of_mem_take he)
  apart i j b hi hj := by
    have key : ∀ m : Nat, ((L.take n)[m]?).bind Own.at = some b → (L[m]?).bind Own.at = some b := by
      intro m hm
      rw [List.getElem?_take] at hm
      split at hm
      · exact hm
      · simp at hm
    exact h.apart i j b (key i hi) (key j hj)
/-- One entry is known in other words. -/
theorem Hp.say {S : List Nat} {w0 w : World} {L : List Own} (h : Hp S w0 w L) (i : Nat) {b : Option Nat} {t : TypeId} {cs cs' : Array Value} (hi : L[i]? = some (b, t, cs)) (e : cs = cs') : Hp S w0 w (L.set i (b, t, cs')) := by
  subst e
  have : L.set i (b, t, cs) = L := by
    apply List.ext_getElem?
    intro j
    rw [List.getElem?_set]
    split
    · rename_i hij; subst hij
      split
      · exact hi.symm
      · rename_i hl; rw [List.getElem?_eq_none (by omega)] at hi; cases hi
    · rfl
  rw [this]; exact h

/-! ### Frames -/
theorem eval_tmp (l : List Value) (ds : List Deferred) (t : Tmp) : (Act.mk l.toArray ds).eval (.tmp t) = l.getD t undef := by simp [Act.eval]
theorem eval_const (a : Act) (v : Value) : a.eval (.const v) = v := rfl
theorem put_some (l : List Value) (ds : List Deferred) (t : Tmp) (v : Value) : (Act.mk l.toArray ds).put (some t) v = Act.mk (l.set t v).toArray ds := by simp [Act.put]
theorem put_none (a : Act) (v : Value) : a.put none v = a := rfl
theorem frame_enter (l : List Value) (n : Nat) : l.toArray ++ Array.replicate n undef = (l ++ List.replicate n undef).toArray := by simp
theorem pr_const_n {P : Program} {a : Act} {d : Option Tmp} {ty : TypeId} {pos : String} {af : Array Edge} {g : Option (Nat × Bool)} (n : Nat) {m : Int} (h : m = (n : Int)) : PRun P ⟨d, .move (.const (.int .i64 m)), ty, pos, af, g⟩ a (I64 (n : Nat)) := fun _ => by subst h; rfl
theorem pr_aconst_n {P : Program} {a : Act} {d : Option Tmp} {ty : TypeId} {pos : String} {af : Array Edge} {g : Option (Nat × Bool)} (n : Nat) {m : Int} (h : m = (n : Int)) : PRun P ⟨d, .assign (.const (.int .i64 m)), ty, pos, af, g⟩ a (I64 (n : Nat)) := fun _ => by subst h; rfl
theorem one_arr8 {n : Nat} {f : Nat → UInt8} : ∀ v ∈ (arr8 n f).toList, v.oneCell' = true := by
  intro v hv
  simp [arr8, tabV] at hv
  obtain ⟨i, _, rfl⟩ := hv; rfl
theorem one_arr32 {n : Nat} {f : Nat → UInt32} : ∀ v ∈ (arr32 n f).toList, v.oneCell' = true := by
  intro v hv
  simp [arr32, tabV] at hv
  obtain ⟨i, _, rfl⟩ := hv; rfl
theorem one_arr64 {n : Nat} {f : Nat → UInt64} : ∀ v ∈ (arr64 n f).toList, v.oneCell' = true := by
  intro v hv
  simp [arr64, tabV] at hv
  obtain ⟨i, _, rfl⟩ := hv; rfl
theorem notAgg {P : Program} {t : TypeId} {D : TypeDesc} (hu : P.underlying t = some D) (hD : isAggD D = false) : ∀ w, (isAgg t).run P w = .ok false w := fun w => by rw [run_isAgg hu, hD]
/-! ### What the walks rewrite by, each in one word -/
theorem nf : (∀ (l : List Value) (ds : List Deferred) (t : Tmp), (Act.mk l.toArray ds).eval (.tmp t) = l.getD t undef) ∧ (∀ (a : Act) (v : Value), a.eval (.const v) = v) ∧
  (∀ (l : List Value) (ds : List Deferred) (t : Tmp) (v : Value), (Act.mk l.toArray ds).put (some t) v = Act.mk (l.set t v).toArray ds) ∧ (∀ (a : Act) (v : Value), a.put none v = a) ∧
  (∀ (α : Type) (x : α) (xs : List α) (d : α), (x :: xs).getD 0 d = x) ∧ (∀ (α : Type) (x : α) (xs : List α) (n : Nat) (d : α), (x :: xs).getD (n + 1) d = xs.getD n d) ∧
  (∀ (α : Type) (x : α) (xs : List α) (a : α), (x :: xs).set 0 a = a :: xs) ∧ (∀ (α : Type) (x : α) (xs : List α) (n : Nat) (a : α), (x :: xs).set (n + 1) a = x :: xs.set n a) ∧
  (∀ n : Nat, 0 + n = n) ∧ (∀ n : Nat, n + 0 = n) ∧ (∀ n : Nat, n * 1 = n) ∧ (∀ n : Nat, 0 * n = 0) ∧
  (∀ (α : Type) (xs : List α) (i : Nat) (h : i < xs.toArray.size), xs.toArray[i] = xs[i]'(by simpa using h)) ∧ (∀ (α : Type) (x : α) (xs : List α) (h : 0 < (x :: xs).length), (x :: xs)[0] = x) ∧
  (∀ (α : Type) (x : α) (xs : List α) (i : Nat) (h : i + 1 < (x :: xs).length), (x :: xs)[i + 1] = xs[i]'(Nat.lt_of_succ_lt_succ h)) :=
  ⟨eval_tmp, fun _ _ => rfl, put_some, fun _ _ => rfl, fun _ _ _ _ => rfl, fun _ _ _ _ _ => rfl, fun _ _ _ _ => rfl, fun _ _ _ _ _ => rfl, Nat.zero_add, Nat.add_zero, Nat.mul_one, Nat.zero_mul, fun _ _ _ h => List.getElem_toArray h, fun _ _ _ _ => rfl, fun _ _ _ _ _ => rfl⟩
theorem nh : (∀ (α : Type) (x : α) (xs ys : List α), (x :: xs) ++ ys = x :: (xs ++ ys)) ∧ (∀ (α : Type) (ys : List α), [] ++ ys = ys) ∧ (∀ (α : Type) (xs : List α) (i : Nat) (a : α), xs.toArray.setIfInBounds i a = (xs.set i a).toArray) ∧
  (∀ (n : Nat) (f : Nat → UInt8) (k : Nat) (v : UInt8), (arr8 n f).setIfInBounds k (V8 v) = arr8 n (upd f k v)) ∧ (∀ (n : Nat) (f : Nat → UInt32) (k : Nat) (v : UInt32), (arr32 n f).setIfInBounds k (V32 v) = arr32 n (upd f k v)) ∧ (∀ (n : Nat) (f : Nat → UInt64) (k : Nat) (v : UInt64), (arr64 n f).setIfInBounds k (V64 v) = arr64 n (upd f k v)) :=
  ⟨fun _ _ _ _ => rfl, fun _ _ => rfl, fun _ _ _ _ => List.setIfInBounds_toArray .., fun _ _ _ _ => arr8_set, fun _ _ _ _ => arr32_set, fun _ _ _ _ => arr64_set⟩
/-! ### The same in few letters -/
section
variable {P : Program} {ops : List Oper} {Q : Exit → Act → World → Prop} {r : List PStep} {a : Act} {w : World} {i : Nat} {d : Option Tmp} {ty : TypeId} {pos : String} {af : Array Edge} {x : Operand} {o : Oper} {v : Value}
theorem pp (ho : ops[i]? = some o) (hg : Region.wanted o (yielded ops.toArray a.tmps) = true) (hrun : PRun P o a v) (h : wpPlan P ops.toArray Q r (a.put o.dst v) w) : wpPlan P ops.toArray Q (.p i :: r) a w := plan_p ho hg hrun h
theorem pq (ho : ops[i]? = some o) (hg : Region.wanted o (yielded ops.toArray a.tmps) = true) (hrun : QRun P o a w v) (h : wpPlan P ops.toArray Q r (a.put o.dst v) w) : wpPlan P ops.toArray Q (.q i :: r) a w := plan_q ho hg hrun h
theorem pm (h : wpPlan P ops.toArray Q r (a.put d (a.eval x)) w) (ho : ops[i]? = some ⟨d, .move x, ty, pos, af, none⟩ := by rfl) : wpPlan P ops.toArray Q (.p i :: r) a w := plan_p ho rfl pr_move h
theorem pa (h : wpPlan P ops.toArray Q r (a.put d (a.eval x)) w) (ho : ops[i]? = some ⟨d, .assign x, ty, pos, af, none⟩ := by rfl) : wpPlan P ops.toArray Q (.p i :: r) a w := plan_p ho rfl pr_assign h
theorem pk (n : Nat) {m : Int} (h : wpPlan P ops.toArray Q r (a.put d (I64 (n : Nat))) w) (ho : ops[i]? = some ⟨d, .move (.const (.int .i64 m)), ty, pos, af, none⟩ := by rfl) (hm : m = (n : Int) := by rfl) : wpPlan P ops.toArray Q (.p i :: r) a w := plan_p ho rfl (pr_const_n n hm) h
theorem pka (n : Nat) {m : Int} (h : wpPlan P ops.toArray Q r (a.put d (I64 (n : Nat))) w) (ho : ops[i]? = some ⟨d, .assign (.const (.int .i64 m)), ty, pos, af, none⟩ := by rfl) (hm : m = (n : Int) := by rfl) : wpPlan P ops.toArray Q (.p i :: r) a w := plan_p ho rfl (pr_aconst_n n hm) h
theorem wrp {id : Nat} {l : List Oper} (pl : List PStep) (h : wpPlan P l.toArray Q pl a w) (hQ : ∀ c a d v w, Q (.panic c) (a.put d v) w → Q (.panic c) a w := by (intro _ _ _ _ _ h; first | exact h | exact BP.panic _ _ _ _ _ h))
    (hm : P.follows .mixedOrders = true := by kernel_rfl) (hsel : Region.noSelect l.toArray = true := by kernel_rfl) (hlen : (pl.length ≤ l.toArray.size : Bool) = true := by kernel_rfl) (hok : planOK (tabOf .any l.toArray) (effects pl) pl [] = true := by kernel_rfl) : (Code.region id l.toArray true).wp P Q a w :=
  wp_region_plan pl hm hsel hlen hok hQ h
theorem wrt {id : Nat} {l : List Oper} (pl : List PStep) (h : wpPlan P l.toArray Q pl a w) (hpl : pl.map PStep.idx = List.range l.toArray.size := by rfl) (hF : noR pl = true := by rfl) : (Code.region id l.toArray false).wp P Q a w := wp_region_text pl hpl h hF
end
theorem cnd : (∀ (p : Prop) [Decidable p], (decide p = true) = p) ∧ (∀ (p : Prop) [Decidable p], (decide p = false) = ¬ p) ∧ (∀ (α : Type) [BEq α] [LawfulBEq α] (a b : α), ((a == b) = true) = (a = b)) ∧ (∀ (α : Type) [BEq α] [LawfulBEq α] (a b : α), ((a != b) = true) = ¬ (a = b)) ∧
  (∀ (α : Type) [BEq α] [LawfulBEq α] (a b : α), ((a == b) = false) = ¬ (a = b)) ∧ (∀ (α : Type) [BEq α] [LawfulBEq α] (a b : α), ((a != b) = false) = (a = b)) ∧ (∀ b : Bool, ((!b) = true) = (b = false)) ∧ (∀ b : Bool, ((!b) = false) = (b = true)) ∧
  (∀ a b : Nat, (¬ a < b) = (b ≤ a)) ∧ (∀ a b : Nat, (¬ a ≤ b) = (b < a)) ∧ (∀ (α : Type) [LT α] (a b : α), (a > b) = (b < a)) ∧ (∀ (α : Type) [LE α] (a b : α), (a ≥ b) = (b ≤ a)) := by
  refine ⟨fun p _ => by simp, fun p _ => by simp, fun α _ _ a b => by simp, fun α _ _ a b => by simp, fun α _ _ a b => by simp, fun α _ _ a b => by simp, by simp, by simp, fun a b => by simp, fun a b => by simp, fun _ _ _ _ => rfl, fun _ _ _ _ => rfl⟩
theorem ga : (∀ (tm : List Value) (s : List Nat), getAll tm s = s.map fun s => tm.getD s undef) ∧ (∀ (α β : Type) (f : α → β) (x : α) (xs : List α), (x :: xs).map f = f x :: xs.map f) ∧ (∀ (α β : Type) (f : α → β), ([] : List α).map f = []) ∧
  (∀ (α : Type) (x : α) (xs : List α) (d : α), (x :: xs).getD 0 d = x) ∧ (∀ (α : Type) (x : α) (xs : List α) (n : Nat) (d : α), (x :: xs).getD (n + 1) d = xs.getD n d) := ⟨fun _ _ => rfl, fun _ _ _ _ _ => rfl, fun _ _ _ => rfl, fun _ _ _ _ => rfl, fun _ _ _ _ _ => rfl⟩
theorem fe : (∀ (α : Type) (l : List α), l.toArray.size = l.length) ∧ (∀ (α : Type) (x : α) (l : List α), (x :: l).length = l.length + 1) ∧ (∀ α : Type, ([] : List α).length = 0) ∧ (∀ (l : List Value) (n : Nat), l.toArray ++ Array.replicate n undef = (l ++ List.replicate n undef).toArray) ∧
  (∀ (α : Type) (n : Nat) (x : α), List.replicate (n + 1) x = x :: List.replicate n x) ∧ (∀ (α : Type) (x : α), List.replicate 0 x = []) ∧ (∀ (α : Type) (l : List α), [] ++ l = l) ∧ (∀ (α : Type) (x : α) (l m : List α), (x :: l) ++ m = x :: (l ++ m)) :=
  ⟨fun _ _ => List.size_toArray, fun _ _ _ => rfl, fun _ => rfl, frame_enter, fun _ _ _ => rfl, fun _ _ => rfl, fun _ _ => rfl, fun _ _ _ _ => rfl⟩
end Go.Proofs.YtmoaddicejohgaaDoor
