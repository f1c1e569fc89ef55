/- Arrays of truths; an own slice's element written; parts of known cells. -/
import Derived.Test.YtmoaddicejohgaaDoorArr
set_option linter.unusedSimpArgs false
set_option linter.unusedVariables false
namespace Go.Proofs.YtmoaddicejohgaaDoor
open Go
/-- Truths as cells. -/
def arrB (n : Nat) (f : Nat → Bool) : Array Value := tabV n (fun i => BV (f i))
@[simp] theorem arrB_size (n : Nat) (f : Nat → Bool) : (arrB n f).size = n := by simp [arrB]
theorem arrB_get {n : Nat} {f : Nat → Bool} {i : Nat} (h : i < n) : (arrB n f)[i]? = some (BV (f i)) := tabV_get h
theorem arrB_set {n : Nat} {f : Nat → Bool} {k : Nat} {v : Bool} : (arrB n f).setIfInBounds k (BV v) = arrB n (upd f k v) := by
  unfold arrB; rw [tabV_set]; congr 1; funext i; unfold upd; split <;> rfl
theorem arrB_congr {n : Nat} {f g : Nat → Bool} (h : ∀ i, i < n → f i = g i) : arrB n f = arrB n g := tabV_congr fun i hi => by rw [h i hi]
theorem one_arrB {n : Nat} {f : Nat → Bool} : ∀ v ∈ (arrB n f).toList, v.oneCell' = true := by
  intro v hv
  simp [arrB, tabV] at hv
  obtain ⟨i, _, rfl⟩ := hv; rfl
/-- A list with a byte replaced. -/
theorem OwnC.setb {o : Option Nat} {n cap i : Nat} {cs : Array Value} {l : List UInt8} (h : OwnC o n cap 1 cs (l.map V8)) (hi : i < n) (v : UInt8) : OwnC o n cap 1 (cs.setIfInBounds i (V8 v)) ((l.set i v).map V8) where
  le := h.le
  size := by rw [Array.size_setIfInBounds]; exact h.size
  nil := h.nil
  len := by rw [List.length_map, List.length_set]; have := h.len; rwa [List.length_map] at this
  at_ j hj := by
    have hs := h.size
    have hle := h.le
    have hlen : l.length = n := by have := h.len; simpa using this
    rw [Array.getElem?_setIfInBounds, List.getElem?_map, List.getElem?_set]
    by_cases e : i = j
    · subst e
      rw [if_pos rfl, if_pos rfl, if_pos (by omega), if_pos (by omega)]; rfl
    · rw [if_neg e, if_neg e, h.at_ j hj, List.getElem?_map]
theorem Sl.head {w : World} {ad : Option Addr} {n c h : Nat} {l : List UInt8} (hs : Sl w (.slice ad n c) l) (hh : h ≤ l.length) : Sl w (.slice ad h c) (l.take h) := by
  have := hs.cuth hh
  simpa [slcut, cutA_full] using this
/-- Behind a call: two blocks that were not there ahead of it. -/
theorem Hp.callnew2 {S : List Nat} {w0 w w' : World} {L : List Own} (h : Hp S w0 w L) (hc : Chg [] w w') {b b' : Nat} {t t' : TypeId} {cs cs' : Array Value} (hb : Blk w' b t cs) (hn : w.heap.size ≤ b) (hb' : Blk w' b' t' cs') (hn' : w.heap.size ≤ b') (hne : b ≠ b') :
    Hp S w0 w' (L ++ [(some b, t, cs), (some b', t', cs')]) := by
  have h1 := h.callnew hc hb hn
  have h2 := h1.add (some b', t', cs') (fun x hx => by cases hx; exact ⟨.inl (Nat.le_trans h.chg.size hn'), hb'⟩) (fun x hx y hy hxy => by
    cases hy
    rcases List.mem_append.1 hx with hx | hx
    · have := h.lt hx hxy; omega
    · simp only [List.mem_singleton] at hx; subst hx; cases hxy; exact hne rfl)
  rwa [List.append_assoc] at h2
/-- An entry's cells get a name. -/
theorem Hp.name {S : List Nat} {w0 w : World} {L : List Own} (h : Hp S w0 w L) (i : Nat) {b : Option Nat} {t : TypeId} {cs : Array Value} (hi : L[i]? = some (b, t, cs)) : ∃ z, cs = z ∧ Hp S w0 w (L.set i (b, t, z)) := ⟨cs, rfl, h.say i hi rfl⟩
section
variable {P : Program} {ops : List Oper} {Q : Exit → Act → World → Prop} {r : List PStep} {a : Act} {w : World} {i : Nat} {d : Option Tmp} {ty : TypeId} {pos : String} {af : Array Edge} {g : Option (Nat × Bool)} {x y : Operand} {t t' T : TypeId}
  {S : List Nat} {w0 : World} {L : List Own}
/-- A byte of an own slice is written. -/
theorem plan_storeO (k : Nat) {o : Option Nat} {n cap j : Nat} {cs : Array Value} {l : List UInt8} {v : UInt8} (ho : ops[i]? = some ⟨none, .store t x y, ty, pos, af, g⟩) (hg : Region.wanted ⟨none, .store t x y, ty, pos, af, g⟩ (yielded ops.toArray a.tmps) = true)
    (hH : Hp S w0 w L) (hx : a.eval x = PT (slb (own o n cap)) (slo (own o n cap) + j)) (hi : L[k]? = some (o, T, cs)) (hO : OwnC o n cap 1 cs (l.map V8)) (hy : a.eval y = V8 v) (hs : szc P t = some 1) (hj : j < n)
    (h : ∀ cs' w', OwnC o n cap 1 cs' ((l.set j v).map V8) → Hp S w0 w' (L.set k (o, T, cs')) → wpPlan P ops.toArray Q r a w') : wpPlan P ops.toArray Q (.e i :: r) a w := by
  cases o with
  | none => have := hO.nil rfl; have := hO.le; omega
  | some b =>
    refine plan_store1 k (o := 0 + j) ho hg hH hx hi hy rfl hs (by have := hO.size; have := hO.le; omega) fun w' hH' => ?_
    rw [Nat.zero_add] at hH'
    exact h _ w' (hO.setb hj v) hH'
/-- An operation that does what R says. -/
theorem plan_sk {R : World → World → Prop} {o : Oper} (hH : Hp S w0 w L) (ho : ops[i]? = some o) (hg : Region.wanted o (yielded ops.toArray a.tmps) = true) (h : ∀ w1, Hp S w0 w1 L → ∃ w', (execOp a.eval o).run P w1 = .ok .skip w' ∧ R w1 w' ∧ wpPlan P ops.toArray Q r (a.put o.dst undef) w') : wpPlan P ops.toArray Q (.s i R :: r) a w := fun w1 hw => by
  obtain ⟨w', hr, hn⟩ := h w1 (hH.call hw)
  unfold wpOp
  simp only [at_list ho, hg, if_true]
  exact .inl (by unfold Oper.wp; rw [hr]; exact hn)
theorem plan_store1s (n : Nat) {D : List Nat} {b o : Nat} {cs : Array Value} {v : Value} (ho : ops[i]? = some ⟨none, .store t x y, ty, pos, af, g⟩) (hg : Region.wanted ⟨none, .store t x y, ty, pos, af, g⟩ (yielded ops.toArray a.tmps) = true)
    (hH : Hp S w0 w L) (hx : a.eval x = PT b o) (hi : L[n]? = some (some b, T, cs)) (hy : a.eval y = v) (h1 : v.oneCell' = true) (hs : szc P t = some 1) (hlt : o < cs.size) (hD : b ∈ D)
    (h : ∀ w', Hp S w0 w' (L.set n (some b, T, cs.setIfInBounds o v)) → wpPlan P ops.toArray Q r a w') : wpPlan P ops.toArray Q (.s i (Chg D) :: r) a w := by
  refine plan_sk hH ho hg fun w hH => ?_
  have hb := hH.blk n hi
  have hc : v.cells = #[v] := by cases v <;> simp_all [Value.cells, Value.oneCell']
  refine ⟨w.setCell ⟨b, o, none⟩ v, ?_, (Chg.refl D w).setCell (.inr hD) v, h _ (hH.store n hi o v)⟩
  have hst : (store (⟨b, o, none⟩ : Addr) v).run P w = .ok () (w.setCell ⟨b, o, none⟩ v) := by
    rw [run_store P w _ v _ h1, hb.cell (Array.getElem?_eq_getElem hlt)]
    simp [hb.free hlt]
  simp [execOp, hx, hy, Instr.storeAt, Instr.sureAddr, storeVar, run_sizeOf hs, hc, storeCells, Addr.add, hst]
theorem Hp.far {S : List Nat} {w0 w w' : World} {L : List Own} (h : Hp S w0 w L) (i : Nat) {D : List Nat} {b : Nat} {t : TypeId} {cs : Array Value} (hi : L[i]? = some (some b, t, cs)) (hc : Chg D w w') (hD : b ∉ D) : Blk w' b t cs := hc.blk (h.blk i hi) hD
/-- Some cells, read as one value. -/
theorem qr_loadE {D : TypeDesc} {b o n : Nat} {cs : Array Value} (vs : Array Value) (hx : a.eval x = PT b o) (hb : Blk w b T cs) (hu : P.underlying t = some D) (hD : isAggD D = true) (hs : szc P t = some n) (hn : o + n ≤ cs.size) (he : cs.extract o (o + n) = vs) :
    QRun P ⟨d, .load t x, ty, pos, af, g⟩ a w (.agg vs) := by
  subst he
  exact qr_loadN hx hb hu hD hs hn
end
theorem ext2 (vs : List Value) (o : Nat) (a b : Value) (h : (vs.drop o).take 2 = [a, b]) : vs.toArray.extract o (o + 2) = #[a, b] := by
  rw [List.extract_toArray, List.extract_eq_take_drop, Nat.add_sub_cancel_left, h]
end Go.Proofs.YtmoaddicejohgaaDoor
