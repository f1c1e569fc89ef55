/- Slices of bytes that a call owns, which begin anywhere in their block: cut, appended to. -/
import Derived.Test.YtmoaddicejohgaaDoorFork
set_option linter.unusedSimpArgs false
set_option linter.unusedVariables false
namespace Go.Proofs.YtmoaddicejohgaaDoor
open Go
def ownO (o : Option Nat) (off n cap : Nat) : Value := .slice (o.map fun b => ⟨b, off, none⟩) n cap
structure OwnD (o : Option Nat) (off n cap : Nat) (cs : Array Value) (l : List UInt8) : Prop where
  le : n ≤ cap
  fit : off + cap ≤ cs.size
  nil : o = none → cap = 0
  len : l.length = n
  at_ : ∀ i (h : i < l.length), cs[off + i]? = some (V8 l[i])
theorem OwnD.start : OwnD none 0 0 0 #[] [] := ⟨Nat.le_refl _, by simp, fun _ => rfl, rfl, fun i h => by simp at h⟩
theorem OwnC.d {o : Option Nat} {n cap : Nat} {cs : Array Value} {l : List UInt8} (h : OwnC o n cap 1 cs (l.map V8)) : OwnD o 0 n cap cs l where
  le := h.le
  fit := by have := h.size; omega
  nil := h.nil
  len := by have := h.len; simpa using this
  at_ i hi := by
    have hl : l.length = n := by have := h.len; simpa using this
    rw [Nat.zero_add, h.at_ i (by omega)]; simp [hi]
theorem OwnD.sl {w : World} {S : List Nat} {w0 : World} {L : List Own} (hH : Hp S w0 w L) (k : Nat) {o : Option Nat} {t off n cap : Nat} {cs : Array Value} {l : List UInt8} (hk : L[k]? = some (o, t, cs)) (h : OwnD o off n cap cs l) : Sl w (ownO o off n cap) l := by
  have hl := h.len
  subst hl
  refine ⟨_, cap, rfl, h.le, fun hne => ?_⟩
  cases o with
  | none =>
    have := h.nil rfl; have := h.le
    exact absurd (List.eq_nil_of_length_eq_zero (by omega)) hne
  | some b => exact ⟨b, off, rfl, fun i hi => (hH.blk k hk).cell (h.at_ i hi)⟩
def cutO (off lo cap : Nat) : Nat := if cap = lo then off else off + lo
theorem OwnD.cutl {o : Option Nat} {off n cap : Nat} {cs : Array Value} {l : List UInt8} (h : OwnD o off n cap cs l) {lo : Nat} (h1 : lo ≤ n) : OwnD o (cutO off lo cap) (n - lo) (cap - lo) cs (l.drop lo) where
  le := by have := h.le; omega
  fit := by have := h.fit; have := h.le; unfold cutO; split <;> omega
  nil e := by have := h.nil e; omega
  len := by rw [List.length_drop, h.len]
  at_ i hi := by
    have hle := h.le
    rw [List.length_drop, h.len] at hi
    have hc : ¬ cap = lo := by omega
    unfold cutO
    rw [if_neg hc, Nat.add_assoc, h.at_ (lo + i) (by rw [h.len]; omega)]
    simp
section
variable {P : Program} {ops : List Oper} {Q : Exit → Act → World → Prop} {r : List PStep} {a : Act} {w : World} {i : Nat} {d : Option Tmp} {ty : TypeId} {pos : String} {af : Array Edge} {g : Option (Nat × Bool)} {x y : Operand} {t t' T : TypeId}
  {S : List Nat} {w0 : World} {L : List Own}
theorem pr_slice_D {k : IntKind} {e : TypeId} {o : Option Nat} {off n cap lo : Nat} {xl : Operand} (hx : a.eval x = ownO o off n cap) (hl : a.eval xl = .int k (lo : Int)) (hu : P.underlying t = some (.slice e)) (hs : szc P e = some 1) (h1 : lo ≤ n) :
    PRun P ⟨d, .slice t x (some xl) none none, ty, pos, af, g⟩ a (ownO o (cutO off lo cap) (n - lo) (cap - lo)) := by
  have := pr_slice_l (d := d) (ty := ty) (pos := pos) (af := af) (g := g) (ad := o.map fun b => ⟨b, off, none⟩) (n := n) (c := cap) hx hl hu hs h1
  have e1 : cutA (o.map fun b => (⟨b, off, none⟩ : Addr)) lo cap 1 = o.map fun b => ⟨b, cutO off lo cap, none⟩ := by
    unfold cutA cutO
    split
    · rfl
    · cases o <;> simp [addr_add]
  rw [e1] at this
  exact this
theorem own_firstD {k : Nat} {o : Option Nat} {e off n cap : Nat} {cs : Array Value} {l : List UInt8} (hH : Hp S w0 w L) (hk : L[k]? = some (o, e, cs)) (hO : OwnD o off n cap cs l) :
    (Builtin.firstCells 1 n (ownO o off n cap)).run P w = .ok (l.map V8).toArray w := by
  have := (OwnD.sl hH k hk hO).src (P := P)
  have h2 := this.2.2.2 w (.refl _ _)
  rw [hO.len] at h2
  exact h2
theorem appendD_run (k : Nat) {o : Option Nat} {off n cap m e : Nat} {cs : Array Value} {l bl : List UInt8} {D : TypeDesc} {vy : Value}
    (hH : Hp S w0 w L) (hk : L[k]? = some (o, e, cs)) (hO : OwnD o off n cap cs l) (hsrc : Src P w vy 1 m (bl.map V8)) (hu : P.underlying t = some (.slice e)) (hu' : P.underlying t' = some D) (hD : (∃ e2, D = .slice e2) ∨ D = .string)
    (hs : szc P e = some 1) (hb : bytesOf P e = some 1) (hz : zeroC P e = some #[V8 0]) (hbd : n + m ≤ 140737488355328) :
    ∃ o' off' cap' cs' w', (Builtin.append_ #[t, t'] ty #[ownO o off n cap, vy]).run P w = .ok (ownO o' off' (n + m) cap') w' ∧ OwnD o' off' (n + m) cap' cs' (l ++ bl) ∧ Hp S w0 w' (L.set k (o', e, cs')) ∧ Chg o.toList w w' ∧ ∀ b, o' = some b → o = some b ∨ w.heap.size ≤ b := by
  obtain ⟨hlen, hnl, hone, hfirst⟩ := hsrc
  have hbts : ∃ inf, P.info? e = some inf ∧ inf.bytes = 1 ∧ inf.size = 1 ∧ ∃ z, inf.zero = some z ∧ z.cells = #[V8 0] := by
    unfold bytesOf at hb
    obtain ⟨inf, hi, hb1⟩ := Option.map_eq_some_iff.1 hb
    unfold szc at hs
    rw [hi] at hs
    unfold zeroC at hz
    rw [hi] at hz
    obtain ⟨z, hz1, hz2⟩ := Option.map_eq_some_iff.1 hz
    exact ⟨inf, hi, hb1, by simpa using hs, z, by simpa using hz1, hz2⟩
  obtain ⟨inf, hinf, hib, his, z, hiz, hzc⟩ := hbts
  have hle := hO.le
  have hfit := hO.fit
  have hll := hO.len
  have hbl : bl.length = m := by simpa using hnl
  by_cases hroom : n + m ≤ cap
  · have hsz : off + n + (bl.map V8).length ≤ cs.size := by rw [List.length_map]; omega
    have hown : OwnD o off (n + m) cap (splice cs (off + n) (bl.map V8).toArray) (l ++ bl) := by
      refine ⟨hroom, by rw [splice_size (by simpa using hsz)]; exact hfit, hO.nil, by rw [List.length_append]; omega, fun j hj => ?_⟩
      rw [splice_get (by simpa using hsz)]
      simp only [List.size_toArray, List.length_map]
      by_cases hjn : j < n
      · rw [if_neg (by omega), hO.at_ j (by omega), List.getElem_append_left (by omega)]
      · rw [List.length_append] at hj
        rw [if_pos ⟨by omega, by omega⟩, List.getElem_append_right (by omega)]
        simp [show off + j - (off + n) = j - n by omega, hll, show j - n < bl.length by omega]
    have hf := hfirst w (.refl _ _)
    cases o with
    | none =>
      have hc0 := hO.nil rfl
      have hm0 : m = 0 := by omega
      have hn0 : n = 0 := by omega
      have hb0 : bl = [] := List.eq_nil_of_length_eq_zero (by omega)
      subst hb0
      subst hm0; subst hn0; subst hc0
      refine ⟨none, off, 0, cs, w, ?_, by simpa using hO, hH.say k hk rfl, .refl _ _, fun b hb => .inl hb⟩
      rcases hD with ⟨e2, rfl⟩ | rfl <;> simp [Builtin.append_, run_underlying hu, run_underlying hu', ownO, sizeOf, typeInfo, hinf, his, hlen, hroom] <;> (have hf' : (Builtin.firstCells 1 0 vy).run P w = .ok #[] w := by simpa using hf) <;> rw [hf'] <;> rfl
    | some b =>
      obtain ⟨w', hr, hB, hoth, hsz', e1, e2, e3⟩ := run_storeCells_blk (P := P) (bl.map V8) 0 (off + n) w cs (hH.blk k hk) (by simpa using hsz) hone
      refine ⟨some b, off, cap, _, w', ?_, hown, ?_, ⟨e1, e2, e3, by omega, fun k' hk' hn => hoth k' (by simpa using hn)⟩, fun b hb => .inl hb⟩
      · have hr' : (storeCells (⟨b, off + n, none⟩ : Addr) (bl.map V8)).run P w = .ok () w' := hr
        rcases hD with ⟨e2, rfl⟩ | rfl <;> simp [Builtin.append_, run_underlying hu, run_underlying hu', ownO, sizeOf, typeInfo, hinf, his, hlen, hroom, hf, addr_add] <;> rw [hr'] <;> rfl
      · refine hH.put k hk ?_ (by simpa using hB) fun k' hk' _ => hoth k' hk'
        refine hH.chg.trans' (T := [b]) ⟨e1, e2, e3, by omega, fun k' hk' hn => hoth k' (by simpa using hn)⟩ ?_
        intro z' hz' hlt
        simp only [List.mem_singleton] at hz'
        subst hz'
        rcases hH.mine k hk with h1 | h1
        · omega
        · exact h1
  · obtain ⟨c, hc, hch⟩ : ∃ c, n + m ≤ c ∧ (Question.appendCap (n + m) cap e).cut (w.tape w.drawn (.appendCap (n + m) cap e)) = c := ⟨_, by simp [Question.cut], rfl⟩
    have hfc : (Question.appendCap (n + m) cap e).forced = false := rfl
    have hd : Chg [] w w.drew := (Chg.refl _ _).drew
    have hf := hfirst w.drew hd
    have hfo := own_firstD (P := P) (hH.call hd) hk hO
    have hgs := growslice_fits (bytes := 1) (show cap < n + m by omega) (by omega)
    have h48 : ¬ (281474976710656 < Builtin.nextslicecap (n + m) cap) := by omega
    have h63 : ¬ (9223372036854775807 < ((n : Int) + (m : Int))) := by omega
    have hzl : (Builtin.zeroCells #[V8 0] (c - (n + m))).size = c - (n + m) := by simp [Builtin.zeroCells]
    refine ⟨some w.drew.heap.size, 0, c, (l.map V8).toArray ++ (bl.map V8).toArray ++ Builtin.zeroCells #[V8 0] (c - (n + m)), w.drew.alloc (.cells ((l.map V8).toArray ++ (bl.map V8).toArray ++ Builtin.zeroCells #[V8 0] (c - (n + m))) e), ?_, ⟨hc, ?_, (by intro h; cases h), by rw [List.length_append]; omega, fun j hj => ?_⟩, ?_, (hd.alloc _).weak (by simp), fun b hb => .inr (by cases hb; exact Nat.le_refl _)⟩
    · rcases hD with ⟨e2, rfl⟩ | rfl <;> simp [Builtin.append_, run_underlying hu, run_underlying hu', ownO, sizeOf, typeInfo, zeroValue, hinf, his, hib, hiz, hlen, hroom, h63, h48, hfc, hch, hzc, newRow]
      all_goals (simp only [ownO] at hfo; rw [hfo]; simp only [Result.andThen_ok]; rw [hf]; simp; congr 2; apply Array.ext'; simp)
    · simp only [Array.size_append, List.size_toArray, hzl, List.length_map]; omega
    · rw [Nat.zero_add, Array.getElem?_append_left (by simp; rw [List.length_append] at hj; omega)]
      have e3 : (l.map V8).toArray ++ (bl.map V8).toArray = ((l ++ bl).map V8).toArray := by simp
      rw [e3, List.getElem?_toArray, List.getElem?_map, List.getElem?_eq_getElem hj]; rfl
    · refine (hH.call hd).turn k hk _ ?_ ?_ ?_ ?_
      · exact hH.chg.trans' (T := []) (hd.alloc _) (by simp)
      · intro b hb'
        cases hb'
        exact ⟨.inl (by have := hH.chg.size; exact this), Blk.new _ _ _⟩
      · intro b hb'; cases hb'; exact .inr (Nat.le_refl _)
      · intro k' _ hlt
        exact RowKit.Below.heap_alloc _ _ _ hlt
theorem plan_appendD (k : Nat) {dst : Tmp} {o : Option Nat} {off n cap m e : Nat} {cs : Array Value} {l bl : List UInt8} {D : TypeDesc} {vy : Value}
    (ho : ops[i]? = some ⟨some dst, .call ⟨.builtin .append, #[x, y], #[t, t']⟩, ty, pos, af, g⟩) (hg : Region.wanted ⟨some dst, .call ⟨.builtin .append, #[x, y], #[t, t']⟩, ty, pos, af, g⟩ (yielded ops.toArray a.tmps) = true)
    (hH : Hp S w0 w L) (hk : L[k]? = some (o, e, cs)) (hO : OwnD o off n cap cs l) (hsrc : ∀ w1, Hp S w0 w1 L → Src P w1 vy 1 m (bl.map V8)) (hx : a.eval x = ownO o off n cap) (hy : a.eval y = vy) (hu : P.underlying t = some (.slice e)) (hu' : P.underlying t' = some D) (hD : (∃ e2, D = .slice e2) ∨ D = .string)
    (hs : szc P e = some 1) (hb : bytesOf P e = some 1) (hz : zeroC P e = some #[V8 0]) (hbd : n + m ≤ 140737488355328)
    (h : ∀ o' off' cap' cs' w', OwnD o' off' (n + m) cap' cs' (l ++ bl) → Hp S w0 w' (L.set k (o', e, cs')) → wpPlan P ops.toArray Q r (a.put (some dst) (ownO o' off' (n + m) cap')) w') : wpPlan P ops.toArray Q (.e i :: r) a w := by
  refine plan_ev hH ho hg fun w hH => ?_
  obtain ⟨o', off', cap', cs', w', hr, hO', hH', _, _⟩ := appendD_run (ty := ty) k hH hk hO (hsrc w hH) hu hu' hD hs hb hz hbd
  refine ⟨_, w', ?_, h o' off' cap' cs' w' hO' hH'⟩
  simp only [execOp, resolve, List.map_toArray, List.map_cons, List.map_nil, hx, hy, invoke, builtin, Sem.run_bind, Sem.run_pure, Result.andThen_ok, hr]
end
end Go.Proofs.YtmoaddicejohgaaDoor
