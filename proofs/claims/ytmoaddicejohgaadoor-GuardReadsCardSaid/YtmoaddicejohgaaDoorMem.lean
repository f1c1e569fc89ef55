/- Memory: blocks of cells, what a call leaves alone, what it owns. -/
import Derived.Test.YtmoaddicejohgaaDoorVals
set_option linter.unusedSimpArgs false
set_option linter.unusedVariables false
namespace Go.Proofs.YtmoaddicejohgaaDoor
open Go Go.RowKit

/-- n cells, each said by a function. -/
def tabV (n : Nat) (f : Nat → Value) : Array Value := ((List.range n).map f).toArray
@[simp] theorem tabV_size (n : Nat) (f : Nat → Value) : (tabV n f).size = n := by simp [tabV]
theorem tabV_get {n : Nat} {f : Nat → Value} {i : Nat} (h : i < n) : (tabV n f)[i]? = some (f i) := by simp [tabV, h]
theorem tabV_get_none {n : Nat} {f : Nat → Value} {i : Nat} (h : n ≤ i) : (tabV n f)[i]? = none := by simp [tabV, h]
theorem tabV_congr {n : Nat} {f g : Nat → Value} (h : ∀ i, i < n → f i = g i) : tabV n f = tabV n g := by
  unfold tabV; congr 1; exact List.map_congr_left fun i hi => h i (by simpa using hi)
theorem tabV_ext {n : Nat} {f : Nat → Value} {cs : Array Value} (hn : cs.size = n) (h : ∀ i, i < n → cs[i]? = some (f i)) : cs = tabV n f := by
  apply Array.ext_getElem?
  intro i
  by_cases hi : i < n
  · rw [h i hi, tabV_get hi]
  · rw [tabV_get_none (by omega)]; simp; omega
/-- A function changed at a place. -/
def upd {α : Type} (f : Nat → α) (k : Nat) (v : α) : Nat → α := fun i => if i = k then v else f i
@[simp] theorem upd_same {α : Type} (f : Nat → α) (k : Nat) (v : α) : upd f k v k = v := by simp [upd]
theorem upd_other {α : Type} (f : Nat → α) (k : Nat) (v : α) {i : Nat} (h : i ≠ k) : upd f k v i = f i := by simp [upd, h]
theorem upd_lt {α : Type} {g z : Nat → α} {k : Nat} {v : α} (h : v = g k) (i : Nat) : upd (fun i => if i < k then g i else z i) k v i = if i < k + 1 then g i else z i := by
  subst h
  simp only [upd]
  by_cases h : i = k
  · subst h; simp
  · rw [if_neg h]; by_cases h2 : i < k
    · rw [if_pos h2, if_pos (by omega)]
    · rw [if_neg h2, if_neg (by omega)]
theorem tabV_set {n : Nat} {f : Nat → Value} {k : Nat} {v : Value} : (tabV n f).setIfInBounds k v = tabV n (upd f k v) := by
  refine tabV_ext (by simp) fun i hi => ?_
  rw [Array.getElem?_setIfInBounds]
  by_cases h : k = i
  · subst h; simp [hi]
  · rw [if_neg h, tabV_get hi, upd_other _ _ _ (fun e => h e.symm)]
theorem tabV_extract {m n o : Nat} {f : Nat → Value} (h : o + n ≤ m) : (tabV m f).extract o (o + n) = tabV n (fun j => f (o + j)) := by
  refine tabV_ext (by simp; omega) fun i hi => ?_
  rw [Array.getElem?_extract]
  rw [if_pos (by simp; omega), tabV_get (by omega)]

/-- Bytes, words: arrays of them as cells. -/
def arr8 (n : Nat) (f : Nat → UInt8) : Array Value := tabV n (fun i => V8 (f i))
def arr32 (n : Nat) (f : Nat → UInt32) : Array Value := tabV n (fun i => V32 (f i))
def arr64 (n : Nat) (f : Nat → UInt64) : Array Value := tabV n (fun i => V64 (f i))
@[simp] theorem arr8_size (n : Nat) (f : Nat → UInt8) : (arr8 n f).size = n := by simp [arr8]
@[simp] theorem arr32_size (n : Nat) (f : Nat → UInt32) : (arr32 n f).size = n := by simp [arr32]
@[simp] theorem arr64_size (n : Nat) (f : Nat → UInt64) : (arr64 n f).size = n := by simp [arr64]
theorem arr8_get {n : Nat} {f : Nat → UInt8} {i : Nat} (h : i < n) : (arr8 n f)[i]? = some (V8 (f i)) := tabV_get h
theorem arr32_get {n : Nat} {f : Nat → UInt32} {i : Nat} (h : i < n) : (arr32 n f)[i]? = some (V32 (f i)) := tabV_get h
theorem arr64_get {n : Nat} {f : Nat → UInt64} {i : Nat} (h : i < n) : (arr64 n f)[i]? = some (V64 (f i)) := tabV_get h
theorem arr8_set {n : Nat} {f : Nat → UInt8} {k : Nat} {v : UInt8} : (arr8 n f).setIfInBounds k (V8 v) = arr8 n (upd f k v) := by
  unfold arr8; rw [tabV_set]; congr 1; funext i; unfold upd; split <;> rfl
theorem arr32_set {n : Nat} {f : Nat → UInt32} {k : Nat} {v : UInt32} : (arr32 n f).setIfInBounds k (V32 v) = arr32 n (upd f k v) := by
  unfold arr32; rw [tabV_set]; congr 1; funext i; unfold upd; split <;> rfl
theorem arr64_set {n : Nat} {f : Nat → UInt64} {k : Nat} {v : UInt64} : (arr64 n f).setIfInBounds k (V64 v) = arr64 n (upd f k v) := by
  unfold arr64; rw [tabV_set]; congr 1; funext i; unfold upd; split <;> rfl
theorem arr8_congr {n : Nat} {f g : Nat → UInt8} (h : ∀ i, i < n → f i = g i) : arr8 n f = arr8 n g := tabV_congr fun i hi => by rw [h i hi]
theorem arr32_congr {n : Nat} {f g : Nat → UInt32} (h : ∀ i, i < n → f i = g i) : arr32 n f = arr32 n g := tabV_congr fun i hi => by rw [h i hi]
theorem arr64_congr {n : Nat} {f g : Nat → UInt64} (h : ∀ i, i < n → f i = g i) : arr64 n f = arr64 n g := tabV_congr fun i hi => by rw [h i hi]
theorem arr8_extract {m n o : Nat} {f : Nat → UInt8} (h : o + n ≤ m) : (arr8 m f).extract o (o + n) = arr8 n (fun j => f (o + j)) := tabV_extract h
/-- A list of bytes as cells. -/
def bytes (l : List UInt8) : Array Value := (l.map V8).toArray
@[simp] theorem bytes_size (l : List UInt8) : (bytes l).size = l.length := by simp [bytes]
theorem bytes_get {l : List UInt8} {i : Nat} : (bytes l)[i]? = l[i]?.map V8 := by simp [bytes]
theorem bytes_arr8 (l : List UInt8) : bytes l = arr8 l.length (fun i => l.getD i 0) := by
  refine tabV_ext (by simp) fun i hi => ?_
  rw [bytes_get, List.getElem?_eq_getElem hi]; simp [List.getD, hi]
theorem arr8_bytes (n : Nat) (f : Nat → UInt8) : arr8 n f = bytes ((List.range n).map f) := by
  unfold arr8 tabV bytes; rw [List.map_map]; rfl

/-! ### Blocks -/

/-- Block b holds the cells cs (of element type t), none of them frozen. -/
def Blk (w : World) (b : Nat) (t : TypeId) (cs : Array Value) : Prop := ∃ fr : Nat × Nat, w.heap[b]? = some (.cells cs t fr) ∧ (fr.1 = fr.2 ∨ cs.size ≤ fr.1)

theorem Blk.cell {w : World} {b : Nat} {t : TypeId} {cs : Array Value} (h : Blk w b t cs) {o : Nat} {v : Value} (hv : cs[o]? = some v) : w.cell? ⟨b, o, none⟩ = some v := by
  obtain ⟨fr, h, _⟩ := h
  simp [World.cell?, h, hv]
theorem Blk.free {w : World} {b : Nat} {t : TypeId} {cs : Array Value} (h : Blk w b t cs) {o : Nat} (ho : o < cs.size) : w.frozen? ⟨b, o, none⟩ = false := by
  obtain ⟨fr, h, hf⟩ := h
  have := ho
  simp only [World.frozen?, h]
  simp only [Bool.and_eq_false_iff, decide_eq_false_iff_not, Nat.not_le, Nat.not_lt]
  omega
theorem Blk.lt {w : World} {b : Nat} {t : TypeId} {cs : Array Value} (h : Blk w b t cs) : b < w.heap.size := by
  obtain ⟨fr, h, _⟩ := h
  exact (Array.getElem?_eq_some_iff.1 h).1
theorem Blk.of_heap {w w' : World} {b : Nat} {t : TypeId} {cs : Array Value} (h : Blk w b t cs) (e : w'.heap[b]? = w.heap[b]?) : Blk w' b t cs := by
  obtain ⟨fr, h, hf⟩ := h
  exact ⟨fr, by rw [e, h], hf⟩
theorem Blk.uniq {w : World} {b : Nat} {t t' : TypeId} {cs cs' : Array Value} (h : Blk w b t cs) (h' : Blk w b t' cs') : cs = cs' := by
  obtain ⟨fr, h, _⟩ := h
  obtain ⟨fr', h', _⟩ := h'
  rw [h] at h'; simp at h'; exact h'.1
theorem Blk.set {w : World} {b : Nat} {t : TypeId} {cs : Array Value} (h : Blk w b t cs) (o : Nat) (v : Value) : Blk (w.setCell ⟨b, o, none⟩ v) b t (cs.setIfInBounds o v) := by
  obtain ⟨fr, h, hf⟩ := h
  exact ⟨fr, by simp [World.setCell, Array.getElem?_modify, h], by simpa using hf⟩
/-- The mark of a text's bytes lies behind the cells. -/
theorem Blk.mark {w : World} {b : Nat} {t : TypeId} {cs : Array Value} (h : Blk w b t cs) : Blk (w.freeze ⟨b, cs.size, none⟩ 1) b t cs := by
  obtain ⟨⟨lo, hi⟩, h, hf⟩ := h
  refine ⟨if lo == hi then (cs.size, cs.size + 1) else (min lo cs.size, max hi (cs.size + 1)), by simp [World.freeze, Array.getElem?_modify, h], ?_⟩
  by_cases e : lo = hi
  · rw [if_pos (by simpa using e)]; exact .inr (Nat.le_refl _)
  · rw [if_neg (by simpa using e)]
    rcases hf with hf | hf
    · exact absurd hf e
    · refine .inr ?_
      have : cs.size ≤ lo := hf
      show cs.size ≤ min lo cs.size
      omega
theorem heap_freeze_other (w : World) (a : Addr) (n : Nat) {k : Nat} (h : k ≠ a.block) : (w.freeze a n).heap[k]? = w.heap[k]? := by
  unfold World.freeze
  split
  · rfl
  · simp only [Array.getElem?_modify]
    rw [if_neg (fun e => h e.symm)]
theorem heap_set_other (w : World) (a : Addr) (v : Value) {k : Nat} (h : k ≠ a.block) : (w.setCell a v).heap[k]? = w.heap[k]? := heap_setCell_other w a k v h
theorem heap_set_size (w : World) (a : Addr) (v : Value) : (w.setCell a v).heap.size = w.heap.size := by simp [World.setCell]
theorem Blk.new (w : World) (t : TypeId) (cs : Array Value) : Blk (w.alloc (.cells cs t)) w.heap.size t cs := ⟨(0, 0), Go.heap_alloc_new w _, .inl rfl⟩

/-! ### What is left alone -/

/-- From w to w' the old blocks not in S are as they were. -/
structure Chg (S : List Nat) (w w' : World) : Prop where
  os : w'.os = w.os
  tape : w'.tape = w.tape
  output : w'.output = w.output
  size : w.heap.size ≤ w'.heap.size
  block : ∀ k, k < w.heap.size → k ∉ S → w'.heap[k]? = w.heap[k]?

theorem Chg.refl (S : List Nat) (w : World) : Chg S w w := ⟨rfl, rfl, rfl, Nat.le_refl _, fun _ _ _ => rfl⟩
theorem Chg.trans {S : List Nat} {a b c : World} (h : Chg S a b) (k : Chg S b c) : Chg S a c :=
  ⟨k.os.trans h.os, k.tape.trans h.tape, k.output.trans h.output, Nat.le_trans h.size k.size, fun i hi hn => (k.block i (Nat.lt_of_lt_of_le hi h.size) hn).trans (h.block i hi hn)⟩
/-- A part of the way may write to blocks that were not there at first. -/
theorem Chg.trans' {S T : List Nat} {a b c : World} (h : Chg S a b) (k : Chg T b c) (hT : ∀ x ∈ T, x < a.heap.size → x ∈ S) : Chg S a c :=
  ⟨k.os.trans h.os, k.tape.trans h.tape, k.output.trans h.output, Nat.le_trans h.size k.size, fun i hi hn => (k.block i (Nat.lt_of_lt_of_le hi h.size) (fun hm => hn (hT i hm hi))).trans (h.block i hi hn)⟩
theorem Chg.weak {S T : List Nat} {w w' : World} (h : Chg S w w') (hs : ∀ x ∈ S, x ∈ T) : Chg T w w' := ⟨h.os, h.tape, h.output, h.size, fun k hk hn => h.block k hk fun hm => hn (hs k hm)⟩
theorem Chg.drew {S : List Nat} {a w : World} (h : Chg S a w) : Chg S a w.drew := ⟨h.os, h.tape, h.output, h.size, h.block⟩
theorem Chg.alloc {S : List Nat} {a w : World} (h : Chg S a w) (o : Obj) : Chg S a (w.alloc o) :=
  h.trans ⟨rfl, rfl, rfl, by simp, fun k hk _ => Below.heap_alloc _ _ _ (by omega)⟩
theorem Chg.setCell {S : List Nat} {a w : World} (h : Chg S a w) {p : Addr} (hp : a.heap.size ≤ p.block ∨ p.block ∈ S) (u : Value) : Chg S a (w.setCell p u) where
  os := h.os
  tape := h.tape
  output := h.output
  size := by rw [heap_set_size]; exact h.size
  block k hk hn := by
    have hne : k ≠ p.block := by
      rcases hp with hp | hp
      · omega
      · intro e; exact hn (e ▸ hp)
    rw [heap_set_other _ _ _ hne]; exact h.block k hk hn
theorem Chg.of_below {w w' : World} (h : Below w.heap.size w w') : Chg [] w w' := ⟨h.os, h.tape, h.output, h.size, fun k hk _ => h.block k hk⟩
theorem Chg.below {w w' : World} (h : Chg [] w w') : Below w.heap.size w w' := ⟨h.os, h.tape, h.output, h.size, fun k hk => h.block k hk (by simp)⟩
theorem Chg.cell {S : List Nat} {w w' : World} (h : Chg S w w') {p : Addr} {v : Value} (hv : w.cell? p = some v) (hn : p.block ∉ S) : w'.cell? p = some v := by
  rw [← hv]
  exact World.cell?_of_block (w := w) (h.block p.block (block_lt_of_cell hv) hn)
theorem Chg.blk {S : List Nat} {w w' : World} (h : Chg S w w') {b : Nat} {t : TypeId} {cs : Array Value} (hb : Blk w b t cs) (hn : b ∉ S) : Blk w' b t cs := hb.of_heap (h.block b hb.lt hn)
theorem Chg.nil_blk {w w' : World} (h : Chg [] w w') {b : Nat} {t : TypeId} {cs : Array Value} (hb : Blk w b t cs) : Blk w' b t cs := h.blk hb (by simp)
theorem Chg.nil_cell {w w' : World} (h : Chg [] w w') {p : Addr} {v : Value} (hv : w.cell? p = some v) : w'.cell? p = some v := h.cell hv (by simp)

/-! ### What a call owns -/

/-- A block that is known whole (or none: a slice that is nil as yet). -/
abbrev Own := Option Nat × TypeId × Array Value
def Own.at (e : Own) : Option Nat := e.1

structure Hp (S : List Nat) (w0 w : World) (L : List Own) : Prop where
  chg : Chg S w0 w
  own : ∀ e ∈ L, ∀ b, e.1 = some b → (w0.heap.size ≤ b ∨ b ∈ S) ∧ Blk w b e.2.1 e.2.2
  apart : ∀ (i j b : Nat), (L[i]?).bind Own.at = some b → (L[j]?).bind Own.at = some b → i = j

theorem Hp.start (S : List Nat) (w : World) : Hp S w w [] := ⟨.refl _ _, by simp, by simp⟩
theorem Hp.blk {S : List Nat} {w0 w : World} {L : List Own} (h : Hp S w0 w L) (i : Nat) {b : Nat} {t : TypeId} {cs : Array Value} (hi : L[i]? = some (some b, t, cs)) : Blk w b t cs := (h.own _ (List.mem_of_getElem? hi) b rfl).2
theorem Hp.mine {S : List Nat} {w0 w : World} {L : List Own} (h : Hp S w0 w L) (i : Nat) {b : Nat} {t : TypeId} {cs : Array Value} (hi : L[i]? = some (some b, t, cs)) : w0.heap.size ≤ b ∨ b ∈ S := (h.own _ (List.mem_of_getElem? hi) b rfl).1
theorem Hp.drew {S : List Nat} {w0 w : World} {L : List Own} (h : Hp S w0 w L) : Hp S w0 w.drew L := ⟨h.chg.drew, fun e he b hb => ⟨(h.own e he b hb).1, (h.own e he b hb).2.of_heap rfl⟩, h.apart⟩
theorem Hp.lt {S : List Nat} {w0 w : World} {L : List Own} (h : Hp S w0 w L) {e : Own} (he : e ∈ L) {b : Nat} (hb : e.1 = some b) : b < w.heap.size := (h.own e he b hb).2.lt
theorem Hp.other {S : List Nat} {w0 w : World} {L : List Own} (h : Hp S w0 w L) {i : Nat} {b : Nat} {t : TypeId} {cs : Array Value} (hi : L[i]? = some (some b, t, cs)) {j : Nat} {e' : Own} (hj : L[j]? = some e') (hij : i ≠ j) {b' : Nat} (hb' : e'.1 = some b') : b' ≠ b := by
  intro he
  exact hij (h.apart i j b (by rw [hi]; rfl) (by rw [hj]; exact he ▸ hb'))

/-- One entry turns: what else is owned stays. -/
theorem Hp.turn {S : List Nat} {w0 w w' : World} {L : List Own} (h : Hp S w0 w L) (i : Nat) {e : Own} (hi : L[i]? = some e) (e' : Own) (hc : Chg S w0 w')
    (hb : ∀ b, e'.1 = some b → (w0.heap.size ≤ b ∨ b ∈ S) ∧ Blk w' b e'.2.1 e'.2.2) (hd : ∀ b, e'.1 = some b → e.1 = some b ∨ w.heap.size ≤ b)
    (ho : ∀ k, e.1 ≠ some k → k < w.heap.size → w'.heap[k]? = w.heap[k]?) : Hp S w0 w' (L.set i e') where
  chg := hc
  own x hx b hxb := by
    obtain ⟨j, hj⟩ := List.mem_iff_getElem?.1 hx
    rw [List.getElem?_set] at hj
    split at hj
    · split at hj
      · cases hj; exact hb b hxb
      · cases hj
    · rename_i hij
      have hm := List.mem_of_getElem? hj
      refine ⟨(h.own x hm b hxb).1, (h.own x hm b hxb).2.of_heap (ho b ?_ (h.lt hm hxb))⟩
      intro he
      exact hij (h.apart i j b (by rw [hi]; exact he) (by rw [hj]; exact hxb))
  apart j k b hj hk := by
    have key : ∀ m : Nat, ((L.set i e')[m]?).bind Own.at = some b → (m = i ∧ e'.1 = some b) ∨ (m ≠ i ∧ (L[m]?).bind Own.at = some b) := by
      intro m hm
      rw [List.getElem?_set] at hm
      split at hm
      · split at hm
        · rename_i h1 h2; exact .inl ⟨h1.symm, hm⟩
        · simp at hm
      · rename_i h1; exact .inr ⟨fun e => h1 e.symm, hm⟩
    have old : ∀ m : Nat, m ≠ i → (L[m]?).bind Own.at = some b → e'.1 = some b → False := by
      intro m hmi hm he
      obtain ⟨x, hx, hxb⟩ := Option.bind_eq_some_iff.1 hm
      rcases hd b he with h1 | h1
      · exact hmi (h.apart m i b hm (by rw [hi]; exact h1))
      · have := h.lt (List.mem_of_getElem? hx) hxb; omega
    rcases key j hj with ⟨hji, hj1⟩ | ⟨hji, hj1⟩ <;> rcases key k hk with ⟨hki, hk1⟩ | ⟨hki, hk1⟩
    · omega
    · exact (old k hki hk1 hj1).elim
    · exact (old j hji hj1 hk1).elim
    · exact h.apart j k b hj1 hk1

theorem Hp.put {S : List Nat} {w0 w w' : World} {L : List Own} (h : Hp S w0 w L) (i : Nat) {b : Nat} {t : TypeId} {cs cs' : Array Value} (hi : L[i]? = some (some b, t, cs))
    (hc : Chg S w0 w') (hb : Blk w' b t cs') (ho : ∀ k, k ≠ b → k < w.heap.size → w'.heap[k]? = w.heap[k]?) : Hp S w0 w' (L.set i (some b, t, cs')) :=
  h.turn i hi _ hc (fun b' hb' => by cases hb'; exact ⟨h.mine i hi, hb⟩) (fun b' hb' => .inl hb') fun k hk hlt => ho k (fun e => hk (e ▸ rfl)) hlt

theorem Hp.store {S : List Nat} {w0 w : World} {L : List Own} (h : Hp S w0 w L) (i : Nat) {b : Nat} {t : TypeId} {cs : Array Value} (hi : L[i]? = some (some b, t, cs)) (o : Nat) (v : Value) :
    Hp S w0 (w.setCell ⟨b, o, none⟩ v) (L.set i (some b, t, cs.setIfInBounds o v)) :=
  h.put i hi (h.chg.setCell (h.mine i hi) v) ((h.blk i hi).set o v) fun k hk _ => heap_set_other _ _ _ hk

/-- A call that leaves all old blocks alone. -/
theorem Hp.call {S : List Nat} {w0 w w' : World} {L : List Own} (h : Hp S w0 w L) (hc : Chg [] w w') : Hp S w0 w' L :=
  ⟨h.chg.trans' hc (by simp), fun e he b hb => ⟨(h.own e he b hb).1, hc.nil_blk (h.own e he b hb).2⟩, h.apart⟩

/-- A call that writes to one of the blocks. -/
theorem Hp.callw {S : List Nat} {w0 w w' : World} {L : List Own} (h : Hp S w0 w L) (i : Nat) {b : Nat} {t : TypeId} {cs cs' : Array Value} (hi : L[i]? = some (some b, t, cs)) (hc : Chg [b] w w') (hb : Blk w' b t cs') : Hp S w0 w' (L.set i (some b, t, cs')) := by
  refine h.put i hi (h.chg.trans' hc ?_) hb fun k hk hlt => hc.block k hlt (by simpa using hk)
  intro x hx hlt
  simp only [List.mem_singleton] at hx
  subst hx
  rcases h.mine i hi with h1 | h1
  · omega
  · exact h1

/-- One entry more. -/
theorem Hp.add {S : List Nat} {w0 w : World} {L : List Own} (h : Hp S w0 w L) (e : Own) (hb : ∀ b, e.1 = some b → (w0.heap.size ≤ b ∨ b ∈ S) ∧ Blk w b e.2.1 e.2.2) (hn : ∀ x ∈ L, ∀ b, e.1 = some b → x.1 ≠ some b) : Hp S w0 w (L ++ [e]) where
  chg := h.chg
  own x hx := by
    rcases List.mem_append.1 hx with hx | hx
    · exact h.own x hx
    · simp only [List.mem_singleton] at hx; subst hx; exact hb
  apart i j b hi hj := by
    have key : ∀ m : Nat, ((L ++ [e])[m]?).bind Own.at = some b → (m < L.length ∧ (L[m]?).bind Own.at = some b) ∨ (m = L.length ∧ e.1 = some b) := by
      intro m hm
      rw [List.getElem?_append] at hm
      split at hm
      · rename_i h1; exact .inl ⟨h1, hm⟩
      · rename_i h1
        obtain ⟨x, hx, hxb⟩ := Option.bind_eq_some_iff.1 hm
        have h0 : m - L.length = 0 := by
          cases hz : m - L.length with
          | zero => rfl
          | succ n => rw [hz] at hx; simp at hx
        rw [h0] at hx; simp at hx; subst hx
        exact .inr ⟨by omega, hxb⟩
    have old : ∀ m : Nat, (L[m]?).bind Own.at = some b → e.1 = some b → False := by
      intro m hm he
      obtain ⟨x, hx, hxb⟩ := Option.bind_eq_some_iff.1 hm
      exact hn x (List.mem_of_getElem? hx) b he hxb
    rcases key i hi with ⟨_, hi⟩ | ⟨hi', hi⟩ <;> rcases key j hj with ⟨_, hj⟩ | ⟨hj', hj⟩
    · exact h.apart i j b hi hj
    · exact (old i hi hj).elim
    · exact (old j hj hi).elim
    · omega
theorem Hp.nil {S : List Nat} {w0 w : World} {L : List Own} (h : Hp S w0 w L) (t : TypeId) : Hp S w0 w (L ++ [(none, t, #[])]) := h.add _ (fun b hb => by cases hb) (fun x _ b hb => by cases hb)
/-- Behind a call: a block that was not there ahead of it. -/
theorem Hp.callnew {S : List Nat} {w0 w w' : World} {L : List Own} (h : Hp S w0 w L) (hc : Chg [] w w') {b : Nat} {t : TypeId} {cs : Array Value} (hb : Blk w' b t cs) (hn : w.heap.size ≤ b) : Hp S w0 w' (L ++ [(some b, t, cs)]) :=
  (h.call hc).add _ (fun b' hb' => by cases hb'; exact ⟨.inl (Nat.le_trans h.chg.size hn), hb⟩) (fun x hx b' hb' hxb => by cases hb'; have := h.lt hx hxb; omega)
theorem Hp.alloc {S : List Nat} {w0 w : World} {L : List Own} (h : Hp S w0 w L) (t : TypeId) (cs : Array Value) : Hp S w0 (w.alloc (.cells cs t)) (L ++ [(some w.heap.size, t, cs)]) :=
  h.callnew ((Chg.refl [] w).alloc _) (Blk.new w t cs) (Nat.le_refl _)
theorem Hp.mark {S : List Nat} {w0 w : World} {L : List Own} (h : Hp S w0 w L) (i : Nat) {b : Nat} {t : TypeId} {cs : Array Value} (hi : L[i]? = some (some b, t, cs)) : Hp S w0 (w.freeze ⟨b, cs.size, none⟩ 1) (L.set i (some b, t, cs)) := by
  refine h.put i hi ⟨?_, ?_, ?_, ?_, ?_⟩ (h.blk i hi).mark fun k hk _ => heap_freeze_other _ _ _ hk
  · exact h.chg.os
  · exact h.chg.tape
  · exact h.chg.output
  · have : (w.freeze ⟨b, cs.size, none⟩ 1).heap.size = w.heap.size := by simp [World.freeze]
    rw [this]; exact h.chg.size
  · intro k hk hn
    rw [heap_freeze_other]
    · exact h.chg.block k hk hn
    · intro e
      have e' : k = b := e
      subst e'
      rcases h.mine i hi with h1 | h1
      · omega
      · exact hn h1
/-- Behind a call: a block that was not there ahead of it, or none. -/
theorem Hp.callown {S : List Nat} {w0 w w' : World} {L : List Own} (h : Hp S w0 w L) (hc : Chg [] w w') {o : Option Nat} {t : TypeId} {cs : Array Value} (hb : ∀ b, o = some b → w.heap.size ≤ b ∧ Blk w' b t cs) : Hp S w0 w' (L ++ [(o, t, cs)]) :=
  (h.call hc).add _ (fun b hb' => ⟨.inl (Nat.le_trans h.chg.size (hb b hb').1), (hb b hb').2⟩) (fun x hx b hb' hxb => by have := h.lt hx hxb; have := (hb b hb').1; omega)
theorem Hp.owned {w0 w : World} {L : List Own} (h : Hp [] w0 w L) (i : Nat) {o : Option Nat} {t : TypeId} {cs : Array Value} (hi : L[i]? = some (o, t, cs)) : ∀ b, o = some b → w0.heap.size ≤ b ∧ Blk w b t cs := fun b hb =>
  have := h.own _ (List.mem_of_getElem? hi) b hb
  ⟨this.1.resolve_right (by simp), this.2⟩

end Go.Proofs.YtmoaddicejohgaaDoor
