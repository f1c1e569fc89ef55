/- Slices of bytes: those that are read, those that a call owns; append, make, copy; strings. -/
import Derived.Test.YtmoaddicejohgaaDoorStep
import Derived.Laws.BytesArg
set_option linter.unusedSimpArgs false
set_option linter.unusedVariables false
namespace Go.Proofs.YtmoaddicejohgaaDoor
open Go

/-- The slice value v reads as the bytes l. -/
def Sl (w : World) (v : Value) (l : List UInt8) : Prop :=
  ∃ ad c, v = .slice ad l.length c ∧ l.length ≤ c ∧ (l ≠ [] → ∃ b o, ad = some ⟨b, o, none⟩ ∧ ∀ i (h : i < l.length), w.cell? ⟨b, o + i, none⟩ = some (V8 l[i]))
def slb : Value → Nat
  | .slice (some a) _ _ => a.block
  | _ => 0
def slo : Value → Nat
  | .slice (some a) _ _ => a.off
  | _ => 0
def slcap : Value → Nat
  | .slice _ _ c => c
  | _ => 0
/-- v[lo:hi]. -/
def slcut (v : Value) (lo hi : Nat) : Value :=
  match v with
  | .slice ad _ c => .slice (cutA ad lo c 1) (hi - lo) (c - lo)
  | v => v

theorem Sl.chg {w w' : World} {v : Value} {l : List UInt8} (h : Sl w v l) (hc : Chg [] w w') : Sl w' v l := by
  obtain ⟨ad, c, hv, hl, hr⟩ := h
  refine ⟨ad, c, hv, hl, fun hne => ?_⟩
  obtain ⟨b, o, ha, hcell⟩ := hr hne
  exact ⟨b, o, ha, fun i hi => hc.nil_cell (hcell i hi)⟩
theorem Sl.cell {w : World} {v : Value} {l : List UInt8} (h : Sl w v l) {i : Nat} (hi : i < l.length) : w.cell? ⟨slb v, slo v + i, none⟩ = some (V8 (l.getD i 0)) := by
  obtain ⟨ad, c, rfl, hl, hr⟩ := h
  obtain ⟨b, o, rfl, hcell⟩ := hr (by intro e; subst e; simp at hi)
  have := hcell i hi
  simpa [slb, slo, List.getD, hi] using this
theorem Sl.nil {w : World} : Sl w (.slice none 0 0) [] := ⟨none, 0, rfl, Nat.le_refl _, fun h => absurd rfl h⟩
theorem Sl.of_eq {w : World} {v : Value} {l l' : List UInt8} (h : Sl w v l) (e : l = l') : Sl w v l' := e ▸ h
theorem Sl.of_blk {w : World} {b o n c T : Nat} {cs : Array Value} {l : List UInt8} (hb : Blk w b T cs) (hl : l.length = n) (hn : n ≤ c) (h : ∀ i (h : i < l.length), cs[o + i]? = some (V8 l[i])) : Sl w (.slice (some ⟨b, o, none⟩) n c) l := by
  subst hl
  exact ⟨_, c, rfl, hn, fun _ => ⟨b, o, rfl, fun i hi => hb.cell (h i hi)⟩⟩
theorem Sl.of_arr8 {w : World} {b o n c T m : Nat} {f : Nat → UInt8} (hb : Blk w b T (arr8 m f)) (hn : n ≤ c) (hm : o + n ≤ m) : Sl w (.slice (some ⟨b, o, none⟩) n c) ((List.range n).map fun i => f (o + i)) :=
  Sl.of_blk hb (by simp) hn fun i hi => by simp at hi; rw [arr8_get (by omega)]; simp
theorem Sl.len {w : World} {v : Value} {l : List UInt8} (h : Sl w v l) : ∃ ad c, v = .slice ad l.length c ∧ l.length ≤ c := by
  obtain ⟨ad, c, hv, hl, _⟩ := h; exact ⟨ad, c, hv, hl⟩
theorem cutA_full {ad : Option Addr} {c : Nat} : cutA ad 0 c 1 = ad := by
  unfold cutA; split
  · rfl
  · cases ad <;> simp [Addr.add]
theorem Sl.cut {w : World} {v : Value} {l : List UInt8} (h : Sl w v l) {lo hi : Nat} (h1 : lo ≤ hi) (h2 : hi ≤ l.length) : Sl w (slcut v lo hi) ((l.drop lo).take (hi - lo)) := by
  obtain ⟨ad, c, rfl, hl, hr⟩ := h
  have hlen : ((l.drop lo).take (hi - lo)).length = hi - lo := by simp; omega
  refine ⟨cutA ad lo c 1, c - lo, by simp only [slcut, hlen], by rw [hlen]; omega, fun hne => ?_⟩
  have hlt : lo < hi := by
    rcases Nat.lt_or_ge lo hi with h | h
    · exact h
    · exfalso; apply hne; apply List.eq_nil_of_length_eq_zero; rw [hlen]; omega
  obtain ⟨b, o, rfl, hcell⟩ := hr (by intro e; subst e; simp at h2; omega)
  refine ⟨b, o + lo, ?_, fun i hi' => ?_⟩
  · unfold cutA; rw [if_neg (by omega)]; simp [addr_add]
  · rw [hlen] at hi'
    have := hcell (lo + i) (by omega)
    rw [show o + lo + i = o + (lo + i) by omega, this]
    simp
theorem Sl.cutl {w : World} {v : Value} {l : List UInt8} (h : Sl w v l) {lo : Nat} (h1 : lo ≤ l.length) : Sl w (slcut v lo l.length) (l.drop lo) := by
  have := h.cut h1 (Nat.le_refl _)
  rwa [List.take_of_length_le (by simp)] at this
theorem Sl.cuth {w : World} {v : Value} {l : List UInt8} (h : Sl w v l) {hi : Nat} (h1 : hi ≤ l.length) : Sl w (slcut v 0 hi) (l.take hi) := by
  have := h.cut (Nat.zero_le _) h1
  simpa using this

section
variable {P : Program} {a : Act} {w : World} {d : Option Tmp} {ty : TypeId} {pos : String} {af : Array Edge} {g : Option (Nat × Bool)} {x y : Operand} {t T : TypeId}

theorem pr_len_Sl {e : TypeId} {v : Value} {l : List UInt8} (h : Sl w v l) (hx : a.eval x = v) (hu : P.underlying t = some (.slice e)) : PRun P ⟨d, .call ⟨.builtin .len, #[x], #[t]⟩, ty, pos, af, g⟩ a (I64 (l.length : Nat)) := by
  obtain ⟨ad, c, rfl, hl⟩ := h.len
  exact pr_len_sl hx hu
theorem pr_idx_Sl {k : IntKind} {e : TypeId} {i : Nat} {v : Value} {l : List UInt8} (h : Sl w v l) (hx : a.eval x = v) (hy : a.eval y = .int k (i : Int)) (hu : P.underlying t = some (.slice e)) (hs : szc P e = some 1) (hi : i < l.length) :
    PRun P ⟨d, .indexAddr t x y, ty, pos, af, g⟩ a (PT (slb v) (slo v + i)) := by
  obtain ⟨ad, c, rfl, hl, hr⟩ := h
  obtain ⟨b, o, rfl, hcell⟩ := hr (by intro e; subst e; simp at hi)
  exact pr_idxS1 hx hy hu hs hi
theorem pr_slice_Sl_lh {k k' : IntKind} {e : TypeId} {lo hi : Nat} {xl xh : Operand} {v : Value} {l : List UInt8} (h : Sl w v l) (hx : a.eval x = v) (hl : a.eval xl = .int k (lo : Int)) (hh : a.eval xh = .int k' (hi : Int))
    (hu : P.underlying t = some (.slice e)) (hs : szc P e = some 1) (h1 : lo ≤ hi) (h2 : hi ≤ l.length) : PRun P ⟨d, .slice t x (some xl) (some xh) none, ty, pos, af, g⟩ a (slcut v lo hi) := by
  obtain ⟨ad, c, rfl, hl'⟩ := h.len
  exact pr_slice_lh hx hl hh hu hs h1 (by omega)
theorem pr_slice_Sl_h {k' : IntKind} {e : TypeId} {hi : Nat} {xh : Operand} {v : Value} {l : List UInt8} (h : Sl w v l) (hx : a.eval x = v) (hh : a.eval xh = .int k' (hi : Int))
    (hu : P.underlying t = some (.slice e)) (hs : szc P e = some 1) (h2 : hi ≤ l.length) : PRun P ⟨d, .slice t x none (some xh) none, ty, pos, af, g⟩ a (slcut v 0 hi) := by
  obtain ⟨ad, c, rfl, hl'⟩ := h.len
  have := pr_slice_h (d := d) (ty := ty) (pos := pos) (af := af) (g := g) hx hh hu hs (show hi ≤ c by omega)
  simpa [slcut, cutA_full] using this
theorem pr_slice_Sl_l {k : IntKind} {e : TypeId} {lo : Nat} {xl : Operand} {v : Value} {l : List UInt8} (h : Sl w v l) (hx : a.eval x = v) (hl : a.eval xl = .int k (lo : Int))
    (hu : P.underlying t = some (.slice e)) (hs : szc P e = some 1) (h2 : lo ≤ l.length) : PRun P ⟨d, .slice t x (some xl) none none, ty, pos, af, g⟩ a (slcut v lo l.length) := by
  obtain ⟨ad, c, rfl, hl'⟩ := h.len
  exact pr_slice_l hx hl hu hs h2
theorem pr_slice_Sl_all {e : TypeId} {v : Value} {l : List UInt8} (h : Sl w v l) (hx : a.eval x = v) (hu : P.underlying t = some (.slice e)) (hs : szc P e = some 1) : PRun P ⟨d, .slice t x none none none, ty, pos, af, g⟩ a v := by
  obtain ⟨ad, c, rfl, hl'⟩ := h.len
  exact pr_slice_all hx hu hs
/-- The array that lies under a slice. -/
theorem pr_s2ap_Sl {e : TypeId} {m : Nat} {v : Value} {l : List UInt8} (h : Sl w v l) (hx : a.eval x = v) (hu : P.underlying t = some (.array m e)) (hm : 0 < m) (hl : m ≤ l.length) : PRun P ⟨d, .sliceToArrayPointer t x, ty, pos, af, g⟩ a (PT (slb v) (slo v)) := by
  obtain ⟨ad, c, rfl, hl', hr⟩ := h
  obtain ⟨b, o, rfl, hcell⟩ := hr (by intro e; subst e; simp at hl; omega)
  exact pr_s2ap hx hu hl
theorem qr_load_Sl {D : TypeDesc} {n : Nat} {v : Value} {l : List UInt8} (h : Sl w v l) (hx : a.eval x = PT (slb v) (slo v)) (hu : P.underlying t = some D) (hD : isAggD D = true) (hs : szc P t = some n) (hn : n ≤ l.length) :
    QRun P ⟨d, .load t x, ty, pos, af, g⟩ a w (.agg (arr8 n fun i => l.getD i 0)) := .of_l fun w' hw => by
  refine run_ok_value (w := w') ?_
  have hc : ∀ j, j < n → w'.cell? ⟨slb v, slo v + j, none⟩ = some (V8 (l.getD j 0)) := fun j hj => (h.chg hw).cell (by omega)
  have hl := run_loadCells (P := P) w' ⟨slb v, slo v, none⟩ n (fun j => V8 (l.getD j 0)) (fun j hj => by rw [addr_add]; exact hc j hj)
  simp only [hx, Instr.loadAt, Instr.sureAddr, Sem.run_bind, Sem.run_pure, Result.andThen_ok, loadVar, run_isAgg hu, hD, if_true, run_sizeOf hs, hl]
  rfl
/-- string(v) of bytes. -/
theorem qr_b2s {s e : TypeId} {v : Value} {l : List UInt8} (h : Sl w v l) (hx : a.eval x = v) (hs : P.underlying s = some (.slice e)) (he : P.underlying e = some (.int .u8)) (hd : P.underlying t = some .string) :
    QRun P ⟨d, .convert s t x, ty, pos, af, g⟩ a w (.string ⟨l.toArray⟩) := .of_l fun w' hw => by
  refine run_ok_value (w := w') ?_
  have h' := h.chg hw
  obtain ⟨ad, c, rfl, hl, hr⟩ := h'
  rw [hx]
  rw [run_convert_bytes_string w' s t e ad l.length c hs he hd]
  have hcs : ∀ ad0, ad = some ad0 → (loadCells ad0 l.length).run P w' = .ok ((l.map fun z => (z.toNat : Int)).map (Value.int .u8)).toArray w' := by
    intro ad0 had
    by_cases hne : l = []
    · subst hne; rfl
    · obtain ⟨b, o, hb, hcell⟩ := hr hne
      rw [hb] at had; cases had
      have hcs := run_loadCells_list (P := P) w' ⟨b, o, none⟩ (l.map V8) (fun j v hj => by
        rw [addr_add]
        rw [List.getElem?_map] at hj
        obtain ⟨z, hz, rfl⟩ := Option.map_eq_some_iff.1 hj
        obtain ⟨hlt, rfl⟩ := List.getElem?_eq_some_iff.1 hz
        exact hcell j hlt)
      simp only [List.length_map] at hcs
      rw [hcs]
      simp [List.map_map, Function.comp_def]
  cases ad with
  | none =>
    have : l = [] := by
      apply Classical.byContradiction
      intro hne
      obtain ⟨b, o, hb, _⟩ := hr hne
      cases hb
    subst this
    rfl
  | some ad =>
    rw [run_bytesToString w' ad l.length c _ (hcs ad rfl), foldl_push_bytes]
    simp [List.map_map, Function.comp_def, ByteArray.empty, ByteArray.emptyWithCapacity]
    rfl
end

/-! ### Slices that a call owns -/

/-- Entry (o, _, cs) holds the cells xs of a slice of n elements (of s cells), of cap in all. -/
structure OwnC (o : Option Nat) (n cap s : Nat) (cs : Array Value) (xs : List Value) : Prop where
  le : n ≤ cap
  size : cs.size = cap * s
  nil : o = none → cap = 0
  len : xs.length = n * s
  at_ : ∀ i, i < n * s → cs[i]? = xs[i]?
def own (o : Option Nat) (n cap : Nat) : Value := .slice (o.map fun b => ⟨b, 0, none⟩) n cap
theorem OwnC.start (s : Nat) : OwnC none 0 0 s #[] [] := ⟨Nat.le_refl _, by simp, fun _ => rfl, by simp, by intro i hi; simp at hi⟩
theorem OwnC.sl {w : World} {S : List Nat} {w0 : World} {L : List Own} (hH : Hp S w0 w L) (k : Nat) {o : Option Nat} {t n cap : Nat} {cs : Array Value} (hk : L[k]? = some (o, t, cs)) {l : List UInt8} (h : OwnC o n cap 1 cs (l.map V8)) : Sl w (own o n cap) l := by
  have hlen : l.length = n := by have := h.len; simpa using this
  subst hlen
  refine ⟨_, cap, rfl, h.le, fun hne => ?_⟩
  cases o with
  | none =>
    have := h.nil rfl; have := h.le
    exact absurd (List.eq_nil_of_length_eq_zero (by omega)) hne
  | some b =>
    refine ⟨b, 0, rfl, fun i hi => ?_⟩
    have := h.at_ i (by omega)
    refine (hH.blk k hk).cell ?_
    rw [Nat.zero_add, this]
    simp [hi]

/-- What is appended: m elements, of the cells news. -/
def Src (P : Program) (w : World) (v : Value) (s m : Nat) (news : List Value) : Prop :=
  (∀ w', (Builtin.lenOf v).run P w' = .ok m w') ∧ news.length = m * s ∧ (∀ x ∈ news, x.oneCell' = true) ∧ ∀ w', Chg [] w w' → (Builtin.firstCells s m v).run P w' = .ok news.toArray w'
theorem Sl.src {P : Program} {w : World} {v : Value} {l : List UInt8} (h : Sl w v l) : Src P w v 1 l.length (l.map V8) := by
  refine ⟨?_, by simp, ?_, ?_⟩
  · obtain ⟨ad, c, rfl, _⟩ := h.len
    intro w'; rfl
  · intro x hx
    obtain ⟨z, _, rfl⟩ := List.mem_map.1 hx; rfl
  · intro w' hw
    obtain ⟨ad, c, rfl, hl, hr⟩ := h.chg hw
    cases ad with
    | none =>
      have : l = [] := by
        apply Classical.byContradiction
        intro hne
        obtain ⟨b, o, hb, _⟩ := hr hne
        cases hb
      subst this; rfl
    | some ad =>
      show (loadCells ad (l.length * 1)).run P w' = _
      rw [Nat.mul_one]
      by_cases hne : l = []
      · subst hne; rfl
      · obtain ⟨b, o, hb, hcell⟩ := hr hne
        cases hb
        have hcs := run_loadCells_list (P := P) w' ⟨b, o, none⟩ (l.map V8) (fun j v hj => by
          rw [addr_add]
          rw [List.getElem?_map] at hj
          obtain ⟨z, hz, rfl⟩ := Option.map_eq_some_iff.1 hj
          obtain ⟨hlt, rfl⟩ := List.getElem?_eq_some_iff.1 hz
          exact hcell j hlt)
        simp only [List.length_map] at hcs
        exact hcs
theorem src_string {P : Program} {w : World} (s : ByteArray) : Src P w (.string s) 1 s.size (s.data.toList.map V8) := by
  refine ⟨fun w' => rfl, by simp, ?_, fun w' _ => ?_⟩
  · intro x hx
    obtain ⟨z, _, rfl⟩ := List.mem_map.1 hx; rfl
  · have e : s.extract 0 s.size = s := by simp
    simp only [Builtin.firstCells, e]
    show Result.ok _ w' = _
    congr 1
    apply Array.ext'
    simp

section
variable {P : Program} {ops : List Oper} {Q : Exit → Act → World → Prop} {r : List PStep} {a : Act} {w : World} {i : Nat} {d : Option Tmp} {ty : TypeId} {pos : String} {af : Array Edge} {g : Option (Nat × Bool)} {x y : Operand} {t t' T : TypeId}
  {S : List Nat} {w0 : World} {L : List Own}

def bytesOf (P : Program) (t : TypeId) : Option Nat := (P.info? t).map (·.bytes)
theorem own_first {P : Program} {w : World} {S : List Nat} {w0 : World} {L : List Own} (hH : Hp S w0 w L) (k : Nat) {o : Option Nat} {e n cap s : Nat} {cs : Array Value} {xs : List Value} (hk : L[k]? = some (o, e, cs)) (hO : OwnC o n cap s cs xs) :
    (Builtin.firstCells s n (own o n cap)).run P w = .ok xs.toArray w := by
  cases o with
  | none =>
    have h0 := hO.nil rfl; have := hO.le
    have hn : n = 0 := by omega
    subst hn
    have : xs = [] := List.eq_nil_of_length_eq_zero (by have := hO.len; simpa using this)
    subst this; rfl
  | some b =>
    show (loadCells ⟨b, 0, none⟩ (n * s)).run P w = _
    have hcs := run_loadCells_list (P := P) w ⟨b, 0, none⟩ xs (fun j v hj => by
      rw [addr_add, Nat.zero_add]
      have hlt : j < n * s := by have := (List.getElem?_eq_some_iff.1 hj).1; have := hO.len; omega
      exact (hH.blk k hk).cell ((hO.at_ j hlt).trans hj))
    rwa [hO.len] at hcs

/-- append onto a slice of the call's own. -/
theorem plan_append (k : Nat) {dst : Tmp} {o : Option Nat} {n cap s bts m e : Nat} {cs zc : Array Value} {xs news : List Value} {D : TypeDesc} {vy : Value}
    (ho : ops[i]? = some ⟨some dst, .call ⟨.builtin .append, #[x, y], #[t, t']⟩, ty, pos, af, g⟩) (hg : Region.wanted ⟨some dst, .call ⟨.builtin .append, #[x, y], #[t, t']⟩, ty, pos, af, g⟩ (yielded ops.toArray a.tmps) = true)
    (hH : Hp S w0 w L) (hk : L[k]? = some (o, e, cs)) (hO : OwnC o n cap s cs xs) (hsrc : ∀ w1, Hp S w0 w1 L → Src P w1 vy s m news) (hx : a.eval x = own o n cap) (hy : a.eval y = vy) (hu : P.underlying t = some (.slice e)) (hu' : P.underlying t' = some D) (hD : (∃ e2, D = .slice e2) ∨ D = .string)
    (hs : szc P e = some s) (hb : bytesOf P e = some bts) (hz : zeroC P e = some zc) (hzs : zc.size = s) (hbd : (n + m) * bts ≤ 140737488355328) (hbd' : n + m < 9223372036854775808)
    (h : ∀ o' cap' cs' w', OwnC o' (n + m) cap' s cs' (xs ++ news) → Hp S w0 w' (L.set k (o', e, cs')) → wpPlan P ops.toArray Q r (a.put (some dst) (own o' (n + m) cap')) w') : wpPlan P ops.toArray Q (.e i :: r) a w := by
  refine plan_ev hH ho hg fun w hH => ?_
  obtain ⟨hlen, hnl, hone, hfirst⟩ := hsrc w hH
  have hbts : ∃ inf, P.info? e = some inf ∧ inf.bytes = bts ∧ inf.size = s ∧ ∃ z, inf.zero = some z ∧ z.cells = zc := by
    unfold bytesOf at hb
    obtain ⟨inf, hi, rfl⟩ := Option.map_eq_some_iff.1 hb
    unfold szc at hs
    rw [hi] at hs
    unfold zeroC at hz
    rw [hi] at hz
    obtain ⟨z, hz1, rfl⟩ := Option.map_eq_some_iff.1 hz
    exact ⟨inf, hi, rfl, by simpa using hs, z, by simpa using hz1, rfl⟩
  obtain ⟨inf, hinf, hib, his, z, hiz, hzc⟩ := hbts
  subst his
  have hle := hO.le
  have hexec : ∀ v w', (Builtin.append_ #[t, t'] ty #[own o n cap, vy]).run P w = .ok v w' → (execOp a.eval ⟨some dst, .call ⟨.builtin .append, #[x, y], #[t, t']⟩, ty, pos, af, g⟩).run P w = .ok (.value v) w' := by
    intro v w' hr
    simp only [execOp, resolve, List.map_toArray, List.map_cons, List.map_nil, hx, hy, invoke, builtin, Sem.run_bind, Sem.run_pure, Result.andThen_ok, hr]
  by_cases hroom : n + m ≤ cap
  · -- within the capacity
    have hsz : n * inf.size + news.length ≤ cs.size := by
      rw [hO.size, hnl, ← Nat.add_mul]; exact Nat.mul_le_mul_right _ hroom
    have hown : OwnC o (n + m) cap inf.size (splice cs (n * inf.size) news.toArray) (xs ++ news) := by
      refine ⟨hroom, by rw [splice_size (by simpa using hsz), hO.size], hO.nil, by rw [List.length_append, hO.len, hnl, Nat.add_mul], fun j hj => ?_⟩
      rw [Nat.add_mul] at hj
      rw [splice_get (by simpa using hsz)]
      simp only [List.size_toArray]
      by_cases hjn : j < n * inf.size
      · rw [if_neg (by omega), List.getElem?_append_left (by rw [hO.len]; exact hjn)]; exact hO.at_ j hjn
      · rw [if_pos ⟨by omega, by omega⟩, List.getElem?_append_right (by rw [hO.len]; omega), hO.len]; simp
    have hf := hfirst w (.refl _ _)
    cases o with
    | none =>
      have hc0 := hO.nil rfl
      have hm0 : m = 0 := by omega
      have hn0 : n = 0 := by omega
      subst hm0; subst hn0; subst hc0
      have hnews : news = [] := List.eq_nil_of_length_eq_zero (by simpa using hnl)
      subst hnews
      refine ⟨own none (0 + 0) 0, w, hexec _ _ ?_, h none 0 _ w hown ?_⟩
      · rcases hD with ⟨e2, rfl⟩ | rfl <;> simp [Builtin.append_, run_underlying hu, run_underlying hu', own, sizeOf, typeInfo, hinf, hlen, hroom, hf]
      · have hsp : splice cs (0 * inf.size) ([] : List Value).toArray = cs := by unfold splice; simp
        rw [hsp]
        exact hH.say k hk rfl
    | some b =>
      obtain ⟨w', hr, hB, hoth, hsz', e1, e2, e3⟩ := run_storeCells_blk (P := P) news 0 (n * inf.size) w cs (hH.blk k hk) (by simpa using hsz) hone
      refine ⟨own (some b) (n + m) cap, w', hexec _ _ ?_, h (some b) cap _ w' hown ?_⟩
      · rcases hD with ⟨e2, rfl⟩ | rfl <;> simp [Builtin.append_, run_underlying hu, run_underlying hu', own, sizeOf, typeInfo, hinf, hlen, hroom, hf, addr_add, hr]
      · refine hH.put k hk ?_ (by simpa using hB) fun k' hk' _ => hoth k' hk'
        refine hH.chg.trans' (T := [b]) ⟨e1, e2, e3, by omega, fun k' hk' hn => hoth k' (by simpa using hn)⟩ ?_
        intro z' hz' hlt
        simp only [List.mem_singleton] at hz'
        subst hz'
        rcases hH.mine k hk with h1 | h1
        · omega
        · exact h1
  · -- a new array
    obtain ⟨c, hc, hch⟩ : ∃ c, n + m ≤ c ∧ (Question.appendCap (n + m) cap e).cut (w.tape w.drawn (.appendCap (n + m) cap e)) = c := ⟨_, by simp [Question.cut], rfl⟩
    have hfc : (Question.appendCap (n + m) cap e).forced = false := rfl
    have hd : Chg [] w w.drew := (Chg.refl _ _).drew
    have hf := hfirst w.drew hd
    have hfo := own_first (P := P) (hH.call hd) k hk hO
    have hfit := growslice_fits (bytes := inf.bytes) (show cap < n + m by omega) (by rw [hib]; exact hbd)
    have h48 : ¬ (281474976710656 < Builtin.nextslicecap (n + m) cap * inf.bytes) := by omega
    have h63 : ¬ (9223372036854775807 < ((n : Int) + (m : Int))) := by omega
    have hzl : (Builtin.zeroCells zc (c - (n + m))).size = (c - (n + m)) * zc.size := by simp [Builtin.zeroCells]
    refine ⟨own (some w.drew.heap.size) (n + m) c, w.drew.alloc (.cells (xs.toArray ++ news.toArray ++ Builtin.zeroCells zc (c - (n + m))) e), hexec _ _ ?_, h (some w.drew.heap.size) c (xs.toArray ++ news.toArray ++ Builtin.zeroCells zc (c - (n + m))) _ ⟨hc, ?_, (by intro h; cases h), by rw [List.length_append, hO.len, hnl, Nat.add_mul], fun j hj => ?_⟩ ?_⟩
    · rcases hD with ⟨e2, rfl⟩ | rfl <;> simp [Builtin.append_, run_underlying hu, run_underlying hu', own, sizeOf, typeInfo, zeroValue, hinf, hiz, hlen, hroom, h63, h48, hfc, hch, hzc, newRow]
      all_goals (simp only [own] at hfo; rw [hfo]; simp only [Result.andThen_ok]; rw [hf]; simp; congr 2; apply Array.ext'; simp)
    · simp only [Array.size_append, List.size_toArray, hzl, hO.len, hnl, hzs]
      rw [← Nat.add_mul, ← Nat.add_mul]; congr 1; omega
    · have : j < (xs ++ news).length := by rw [List.length_append, hO.len, hnl, ← Nat.add_mul]; exact hj
      rw [Array.getElem?_append_left (by simpa using this)]
      simp
    · refine (hH.call hd).turn k hk _ ?_ ?_ ?_ ?_
      · exact hH.chg.trans' (T := []) (hd.alloc _) (by simp)
      · intro b hb'
        cases hb'
        exact ⟨.inl (by have := hH.chg.size; exact this), Blk.new _ _ _⟩
      · intro b hb'; cases hb'; exact .inr (Nat.le_refl _)
      · intro k' _ hlt
        exact RowKit.Below.heap_alloc _ _ _ hlt

/-- make([]T, 0, n), make([]T, n): n elements are there, c may be. -/
theorem plan_make {dst : Tmp} {e n c s bts : Nat} {zc : Array Value} {k k' : IntKind} (ho : ops[i]? = some ⟨some dst, .makeSlice t x y, ty, pos, af, g⟩) (hg : Region.wanted ⟨some dst, .makeSlice t x y, ty, pos, af, g⟩ (yielded ops.toArray a.tmps) = true)
    (hH : Hp S w0 w L) (hx : a.eval x = .int k (n : Int)) (hy : a.eval y = .int k' (c : Int)) (hu : P.underlying t = some (.slice e)) (hs : szc P e = some s) (hb : bytesOf P e = some bts) (hz : zeroC P e = some zc) (hzs : zc.size = s)
    (hnc : n ≤ c) (hbd : bts * c ≤ 281474976710656) (hc : c < 9223372036854775808)
    (h : ∀ b w', Hp S w0 w' (L ++ [(some b, e, madeCells zc (c * s))]) → wpPlan P ops.toArray Q r (a.put (some dst) (own (some b) n c)) w') : wpPlan P ops.toArray Q (.x i :: r) a w := by
  refine plan_xv hH ho hg fun w hH => ⟨own (some w.heap.size) n c, w.alloc (.cells (madeCells zc (c * s)) e), ?_, (Chg.refl _ _).alloc _, h _ _ (hH.alloc e _)⟩
  unfold bytesOf at hb
  obtain ⟨inf, hi, rfl⟩ := Option.map_eq_some_iff.1 hb
  unfold szc at hs
  rw [hi] at hs
  unfold zeroC at hz
  rw [hi] at hz
  obtain ⟨z, hz1, rfl⟩ := Option.map_eq_some_iff.1 hz
  have hsz : inf.size = s := by simpa using hs
  have hbd' : (inf.bytes : Int) * c ≤ 281474976710656 := by
    have e : ((inf.bytes * c : Nat) : Int) = (inf.bytes : Int) * c := by simp
    omega
  have := run_make w t e inf z hu hi (by simpa using hz1) k k' n c (by omega) (by omega) hbd' (by omega)
  simp only [execOp, hx, hy, Sem.run_bind, this, Result.andThen_ok]
  rw [hsz]
  rfl
theorem made_arr8 {n : Nat} : madeCells #[V8 0] n = arr8 n fun _ => 0 := by
  refine tabV_ext (size_madeCells _ _) fun i hi => ?_
  simp [madeCells, hi, Nat.mod_one]
theorem OwnC.made0 {b c s : Nat} {cs : Array Value} (h : cs.size = c * s) : OwnC (some b) 0 c s cs [] := ⟨Nat.zero_le _, h, (by intro h; cases h), by simp, by intro i hi; simp at hi⟩
theorem OwnC.made {b n : Nat} {f : Nat → UInt8} : OwnC (some b) n n 1 (arr8 n f) (((List.range n).map f).map V8) :=
  ⟨Nat.le_refl _, by simp, (by intro h; cases h), by simp, fun i hi => by rw [Nat.mul_one] at hi; rw [arr8_get hi]; simp [hi]⟩
theorem OwnC.of_bytes {b n : Nat} {l : List UInt8} (h : l.length = n) : OwnC (some b) n n 1 (bytes l) (l.map V8) :=
  ⟨Nat.le_refl _, by simp [h], (by intro h; cases h), by simp [h], fun i hi => by rw [bytes_get]; simp⟩

/-- []byte{..} of parts that are said one by one. -/
theorem plan_buildSlice {dst : Tmp} {e n : Nat} {cs : Array Value} {parts : List (Nat × Operand)} {vs : List (Nat × Value)} (ho : ops[i]? = some ⟨some dst, .buildSlice t n parts.toArray, ty, pos, af, g⟩) (hg : Region.wanted ⟨some dst, .buildSlice t n parts.toArray, ty, pos, af, g⟩ (yielded ops.toArray a.tmps) = true)
    (hH : Hp S w0 w L) (hu : P.underlying t = some (.slice e)) (hv : (parts.map fun p => (p.1, a.eval p.2)) = vs)
    (hrun : ∀ w, (Instr.buildSlice t n vs.toArray).run P w = .ok (.slice (some ⟨w.heap.size, 0, none⟩) n n) (w.alloc (.cells cs e)))
    (h : ∀ b w', Hp S w0 w' (L ++ [(some b, e, cs)]) → wpPlan P ops.toArray Q r (a.put (some dst) (own (some b) n n)) w') : wpPlan P ops.toArray Q (.x i :: r) a w := by
  refine plan_xv hH ho hg fun w hH => ⟨own (some w.heap.size) n n, w.alloc (.cells cs e), ?_, (Chg.refl _ _).alloc _, h _ _ (hH.alloc e _)⟩
  have hv' : (parts.toArray.map fun (p : Nat × Operand) => (p.1, a.eval p.2)) = vs.toArray := by rw [← hv]; simp
  simp only [execOp, Sem.run_bind]
  rw [show (parts.toArray.map fun x => match x with | (i, x) => (i, a.eval x)) = vs.toArray from hv', hrun w]
  rfl

/-- A text's bytes, made a slice of bytes: the block is marked. -/
theorem plan_mark (k : Nat) {dst : Tmp} {b n c e T : Nat} {cs : Array Value} (ho : ops[i]? = some ⟨some dst, .convert t t x, ty, pos, af, g⟩) (hg : Region.wanted ⟨some dst, .convert t t x, ty, pos, af, g⟩ (yielded ops.toArray a.tmps) = true)
    (hH : Hp S w0 w L) (hk : L[k]? = some (some b, T, cs)) (hx : a.eval x = own (some b) n c) (hu : P.underlying t = some (.slice e)) (he : P.underlying e = some (.int .u8))
    (h : ∀ w', Hp S w0 w' (L.set k (some b, T, cs)) → wpPlan P ops.toArray Q r (a.put (some dst) (own (some b) n c)) w') : wpPlan P ops.toArray Q (.e i :: r) a w := by
  refine plan_ev hH ho hg fun w hH => ⟨own (some b) n c, w.freeze ⟨b, cs.size, none⟩ 1, ?_, h _ (hH.mark k hk)⟩
  obtain ⟨fr, hb, _⟩ := hH.blk k hk
  have hsh : w.shape? b = some (T, cs.size) := by simp [World.shape?, hb]
  simp only [execOp, hx]
  simp [own, convert, run_underlying hu, run_underlying he, markStringish, hsh]

/-- copy into an array of bytes of the call's own. -/
theorem plan_copy (k : Nat) {e b o dl dc m : Nat} {f : Nat → UInt8} {l : List UInt8} {vy : Value} {dst : Option Tmp}
    (ho : ops[i]? = some ⟨dst, .call ⟨.builtin .copy, #[x, y], #[t, t']⟩, ty, pos, af, g⟩) (hg : Region.wanted ⟨dst, .call ⟨.builtin .copy, #[x, y], #[t, t']⟩, ty, pos, af, g⟩ (yielded ops.toArray a.tmps) = true)
    (hH : Hp S w0 w L) (hk : L[k]? = some (some b, T, arr8 m f)) (hsrc : ∀ w1, Hp S w0 w1 L → (∀ w', (Builtin.lenOf vy).run P w' = .ok l.length w') ∧ ∀ n, n ≤ l.length → (Builtin.firstCells 1 n vy).run P w1 = .ok (bytes (l.take n)) w1)
    (hx : a.eval x = .slice (some ⟨b, o, none⟩) dl dc) (hy : a.eval y = vy) (hu : P.underlying t = some (.slice e)) (hs : szc P e = some 1) (hfit : o + dl ≤ m)
    (h : ∀ w', Hp S w0 w' (L.set k (some b, T, arr8 m fun j => if o ≤ j ∧ j < o + min l.length dl then l.getD (j - o) 0 else f j)) → wpPlan P ops.toArray Q r (a.put dst (I64 (min l.length dl : Nat))) w') : wpPlan P ops.toArray Q (.e i :: r) a w := by
  refine plan_ev hH ho hg fun w hH => ?_
  obtain ⟨hlen, hfirst⟩ := hsrc w hH
  have hf := hfirst (min l.length dl) (Nat.min_le_left _ _)
  have hl2 : (bytes (l.take (min l.length dl))).toList.length = min l.length dl := by simp [bytes]
  obtain ⟨w', hr, hB, hoth, hsz, e1, e2, e3⟩ := run_storeCells_blk (P := P) (bytes (l.take (min l.length dl))).toList 0 o w _ (hH.blk k hk) (by rw [hl2]; simp; omega) (by
    intro v hv
    obtain ⟨z, _, rfl⟩ := List.mem_map.1 (show v ∈ (l.take (min l.length dl)).map V8 from hv); rfl)
  refine ⟨I64 (min l.length dl : Nat), w', ?_, h w' ?_⟩
  · simp only [execOp, resolve, List.map_toArray, List.map_cons, List.map_nil, hx, hy, invoke, builtin, Sem.run_bind, Sem.run_pure, Result.andThen_ok]
    have : (Builtin.copy_ #[t, t'] ty #[.slice (some ⟨b, o, none⟩) dl dc, vy]).run P w = .ok (I64 (min l.length dl : Nat)) w' := by
      simp only [Builtin.copy_]
      simp [run_underlying hu, hlen, run_sizeOf hs]
      have hf' : (Builtin.firstCells 1 (min l.length dl) vy).run P w = .ok (bytes (l.take (min l.length dl))) w := hf
      rw [show Nat.min l.length dl = min l.length dl from rfl, hf']
      simp [hr, goInt]
    rw [this]; rfl
  · refine hH.put k hk ?_ ?_ fun k' hk' _ => hoth k' hk'
    · refine hH.chg.trans' (T := [b]) ⟨e1, e2, e3, by omega, fun k' hk' hn => hoth k' (by simpa using hn)⟩ ?_
      intro z' hz' hlt
      simp only [List.mem_singleton] at hz'
      subst hz'
      rcases hH.mine k hk with h1 | h1
      · omega
      · exact h1
    · have hsp : splice (arr8 m f) (o + 0) (bytes (l.take (min l.length dl))).toList.toArray = arr8 m fun j => if o ≤ j ∧ j < o + min l.length dl then l.getD (j - o) 0 else f j := by
        refine tabV_ext (by rw [splice_size (by simp; omega)]; simp) fun j hj => ?_
        rw [splice_get (by simp; omega)]
        simp only [Nat.add_zero, Array.toArray_toList, bytes_size, List.length_take]
        by_cases hc : o ≤ j ∧ j < o + min (min l.length dl) l.length
        · rw [if_pos hc, if_pos ⟨hc.1, by omega⟩, bytes_get, List.getElem?_take, if_pos (by omega), List.getElem?_eq_getElem (by omega)]
          simp [List.getD, show j - o < l.length by omega]
        · rw [if_neg hc, if_neg (by omega), arr8_get hj]
      rw [← hsp]; exact hB
theorem Sl.csrc {v : Value} {l : List UInt8} (h : Sl w v l) : (∀ w', (Builtin.lenOf v).run P w' = .ok l.length w') ∧ ∀ n, n ≤ l.length → (Builtin.firstCells 1 n v).run P w = .ok (bytes (l.take n)) w := by
  refine ⟨(h.src (P := P)).1, fun n hn => ?_⟩
  have := ((h.cuth hn).src (P := P)).2.2.2 w (.refl _ _)
  obtain ⟨ad, c, rfl, hc⟩ := h.len
  have e : slcut (.slice ad l.length c) 0 n = .slice ad n c := by simp [slcut, cutA_full]
  rw [e] at this
  have hl : (l.take n).length = n := by simp; omega
  rw [hl] at this
  cases ad <;> exact this
theorem str_csrc (s : ByteArray) : (∀ w', (Builtin.lenOf (.string s)).run P w' = .ok s.data.toList.length w') ∧ ∀ n, n ≤ s.data.toList.length → (Builtin.firstCells 1 n (.string s)).run P w = .ok (bytes (s.data.toList.take n)) w := by
  refine ⟨fun w' => by simp [Builtin.lenOf], fun n hn => ?_⟩
  simp only [Builtin.firstCells]
  show Result.ok _ w = _
  congr 1
  apply Array.ext'
  simp [bytes]
end
end Go.Proofs.YtmoaddicejohgaaDoor
