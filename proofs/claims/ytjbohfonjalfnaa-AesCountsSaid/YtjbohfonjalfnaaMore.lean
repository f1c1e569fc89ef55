/- Arrays of truths; an own slice's element written; parts of known cells. -/
import Derived.Test.YtjbohfonjalfnaaArr
set_option linter.unusedSimpArgs false
set_option linter.unusedVariables false
namespace Go.Proofs.Ytjbohfonjalfnaa
open Go
/-- Truths as cells. -/
def arrB (n : Nat) (f : Nat → Bool) : Array Value := tabV n (fun i => BV (f i))
@[simp] theorem arrB_size (n : Nat) (f : Nat → Bool) : (arrB n f).size = n := by simp [arrB]
theorem arrB_get {n : Nat} {f : Nat → Bool} {i : Nat} (h : i < n) : (arrB n f)[i]? = some (BV (f i)) := tabV_get h
theorem arrB_set {n : Nat} {f : Nat → Bool} {k : Nat} {v : Bool} : (arrB n f).setIfInBounds k (BV v) = arrB n (upd f k v) := by
  unfold arrB; rw [tabV_set]; congr 1; funext i; unfold upd; split <;> rfl
theorem arrB_congr {n : Nat} {f g : Nat → Bool} (h : ∀ i, i < n → f i = g i) : arrB n f = arrB n g := tabV_congr fun i hi => by rw [h i hi]
theorem one_arrB {n : Nat} {f : Nat → Bool} : ∀ v ∈ (arrB n f).toList, v.oneCell' = true := by
  intro v hv
  simp [arrB, tabV] at hv
  obtain ⟨i, _, rfl⟩ := hv; rfl
/-- A list with a byte replaced. -/
theorem OwnC.setb {o : Option Nat} {n cap i : Nat} {cs : Array Value} {l : List UInt8} (h : OwnC o n cap 1 cs (l.map V8)) (hi : i < n) (v : UInt8) : OwnC o n cap 1 (cs.setIfInBounds i (V8 v)) ((l.set i v).map V8) where
  le := h.le
  size := by rw [Array.size_setIfInBounds]; exact h.size
  nil := h.nil
  len := by rw [List.length_map, List.length_set]; have := h.len; rwa [List.length_map] at this
  at_ j hj := by
    have hs := h.size
    have hle := h.le
    have hlen : l.length = n := by have := h.len; simpa using this
    rw [Array.getElem?_setIfInBounds, List.getElem?_map, List.getElem?_set]
    by_cases e : i = j
    · subst e
      rw [if_pos rfl, if_pos rfl, if_pos (by omega), if_pos (by omega)]; rfl
    · rw [if_neg e, if_neg e, h.at_ j hj, List.getElem?_map]
theorem Sl.head {w : World} {ad : Option Addr} {n c h : Nat} {l : List UInt8} (hs : Sl w (.slice ad n c) l) (hh : h ≤ l.length) : Sl w (.slice ad h c) (l.take h) := by
  have := hs.cuth hh
  simpa [slcut, cutA_full] using this
/-- An entry's cells get a name. -/
theorem Hp.name {S : List Nat} {w0 w : World} {L : List Own} (h : Hp S w0 w L) (i : Nat) {b : Option Nat} {t : TypeId} {cs : Array Value} (hi : L[i]? = some (b, t, cs)) : ∃ z, cs = z ∧ Hp S w0 w (L.set i (b, t, z)) := ⟨cs, rfl, h.say i hi rfl⟩
section
variable {P : Program} {ops : List Oper} {Q : Exit → Act → World → Prop} {r : List PStep} {a : Act} {w : World} {i : Nat} {d : Option Tmp} {ty : TypeId} {pos : String} {af : Array Edge} {g : Option (Nat × Bool)} {x y : Operand} {t t' T : TypeId}
  {S : List Nat} {w0 : World} {L : List Own}
/-- A byte of an own slice is written. -/
theorem plan_storeO (k : Nat) {o : Option Nat} {n cap j : Nat} {cs : Array Value} {l : List UInt8} {v : UInt8} (ho : ops[i]? = some ⟨none, .store t x y, ty, pos, af, g⟩) (hg : Region.wanted ⟨none, .store t x y, ty, pos, af, g⟩ (yielded ops.toArray a.tmps) = true)
    (hH : Hp S w0 w L) (hx : a.eval x = PT (slb (own o n cap)) (slo (own o n cap) + j)) (hi : L[k]? = some (o, T, cs)) (hO : OwnC o n cap 1 cs (l.map V8)) (hy : a.eval y = V8 v) (hs : szc P t = some 1) (hj : j < n)
    (h : ∀ cs' w', OwnC o n cap 1 cs' ((l.set j v).map V8) → Hp S w0 w' (L.set k (o, T, cs')) → wpPlan P ops.toArray Q r a w') : wpPlan P ops.toArray Q (.e i :: r) a w := by
  cases o with
  | none => have := hO.nil rfl; have := hO.le; omega
  | some b =>
    refine plan_store1 k (o := 0 + j) ho hg hH hx hi hy rfl hs (by have := hO.size; have := hO.le; omega) fun w' hH' => ?_
    rw [Nat.zero_add] at hH'
    exact h _ w' (hO.setb hj v) hH'
/-- Some cells, read as one value. -/
theorem qr_loadE {D : TypeDesc} {b o n : Nat} {cs : Array Value} (vs : Array Value) (hx : a.eval x = PT b o) (hb : Blk w b T cs) (hu : P.underlying t = some D) (hD : isAggD D = true) (hs : szc P t = some n) (hn : o + n ≤ cs.size) (he : cs.extract o (o + n) = vs) :
    QRun P ⟨d, .load t x, ty, pos, af, g⟩ a w (.agg vs) := by
  subst he
  exact qr_loadN hx hb hu hD hs hn
end
theorem ext2 (vs : List Value) (o : Nat) (a b : Value) (h : (vs.drop o).take 2 = [a, b]) : vs.toArray.extract o (o + 2) = #[a, b] := by
  rw [List.extract_toArray, List.extract_eq_take_drop, Nat.add_sub_cancel_left, h]
end Go.Proofs.Ytjbohfonjalfnaa
