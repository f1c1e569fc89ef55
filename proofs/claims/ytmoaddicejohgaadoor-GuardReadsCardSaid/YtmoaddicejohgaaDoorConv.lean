/- A text made a slice of bytes; a slice of three; a slice that has nothing behind it. -/
import Derived.Test.YtmoaddicejohgaaDoorOwnD
import Derived.Lib.ConvBytes
set_option linter.unusedSimpArgs false
set_option linter.unusedVariables false
namespace Go.Proofs.YtmoaddicejohgaaDoor
open Go
theorem BP.retct {P : Program} {fn : Func} {Post : Value → World → Prop} {tm : List Value} {w : World} {p q : Tmp} {t T : TypeId} {D : TypeDesc} {b n : Nat} {cs : Array Value} {v2 : Value} (hr : fn.results = #[.cell p t, .tmp q]) (hp : tm.getD p undef = PT b 0) (hq : tm.getD q undef = v2) (hb : Blk w b T cs)
    (hu : P.underlying t = some D) (hD : isAggD D = true) (hs : szc P t = some n) (hn : cs.size = n) (h : Post (.tuple #[.agg cs, v2]) w) : BP P fn Post .ret ⟨tm.toArray, []⟩ w := by
  subst hq
  refine .of (v := .tuple #[.agg cs, tm.getD q undef]) ?_ rfl h
  have hl := run_loadN (P := P) (w := w) (b := b) (o := 0) (cs := cs) hu hD hs (fun j hj => by
    have hlt : 0 + j < cs.size := by omega
    rw [hb.cell (Array.getElem?_eq_getElem hlt), Array.getElem?_eq_getElem hlt]) (by omega)
  rw [show cs.extract 0 (0 + n) = cs by rw [Nat.zero_add, ← hn]; simp] at hl
  have hp' : tm[p]?.getD undef = PT b 0 := by rw [← hp, List.getD_eq_getElem?_getD]
  simp [results, hr, hp', asAddr, hl]
theorem grownCap_le (w : World) (n c : Nat) (e : TypeId) : n ≤ grownCap w n c e := by
  simp [grownCap, Question.cut]
theorem conv_own (w : World) (e b : Nat) (s : ByteArray) : OwnC (some b) s.size (grownCap w s.size 0 e) 1 (Lib.bytesCells w e s) (s.data.toList.map V8) where
  le := grownCap_le ..
  size := by
    have h1 := grownCap_le w s.size 0 e
    have h2 : s.data.size = s.size := rfl
    simp only [Lib.bytesCells, Array.size_append, Array.size_map, Array.size_replicate]; omega
  nil h := by cases h
  len := by simp
  at_ i hi := by
    have h2 : s.data.size = s.size := rfl
    have h3 : i < s.data.size := by omega
    unfold Lib.bytesCells
    rw [Array.getElem?_append_left (by simpa using h3), Array.getElem?_map, List.getElem?_map, Array.getElem?_toList]
theorem conv_chg (w : World) (e : TypeId) (s : ByteArray) : Chg [] w (Lib.bytesWorld w e s) :=
  ((((Hp.start [] w).drew.alloc e (Lib.bytesCells w e s))).mark 0 rfl).chg
theorem OwnC.cut3 {o : Option Nat} {n c : Nat} {cs : Array Value} {l : List UInt8} {m : Nat} (h : OwnC o n c 1 cs (l.map V8)) (hm : m ≤ n) : OwnD o 0 m m cs (l.take m) where
  le := Nat.le_refl _
  fit := by have := h.d.fit; have := h.le; omega
  nil e := by have := h.nil e; have := h.le; omega
  len := by have := h.d.len; rw [List.length_take]; omega
  at_ i hi := by
    rw [List.length_take] at hi
    rw [h.d.at_ i (by omega)]; simp
section
variable {P : Program} {ops : List Oper} {Q : Exit → Act → World → Prop} {r : List PStep} {a : Act} {w : World} {i : Nat} {d : Option Tmp} {ty : TypeId} {pos : String} {af : Array Edge} {g : Option (Nat × Bool)} {x y : Operand} {t t' T : TypeId}
  {S : List Nat} {w0 : World} {L : List Own}
theorem plan_s2b {dst : Tmp} {e : TypeId} {s : ByteArray} (ho : ops[i]? = some ⟨some dst, .convert t t' x, ty, pos, af, g⟩) (hg : Region.wanted ⟨some dst, .convert t t' x, ty, pos, af, g⟩ (yielded ops.toArray a.tmps) = true)
    (hH : Hp S w0 w L) (hx : a.eval x = .string s) (hu : P.underlying t = some .string) (hu' : P.underlying t' = some (.slice e)) (he : P.underlying e = some (.int .u8))
    (h : ∀ b cap cs w', OwnC (some b) s.size cap 1 cs (s.data.toList.map V8) → Hp S w0 w' (L ++ [(some b, e, cs)]) → wpPlan P ops.toArray Q r (a.put (some dst) (own (some b) s.size cap)) w') : wpPlan P ops.toArray Q (.x i :: r) a w := by
  refine plan_xv hH ho hg fun w hH => ⟨own (some w.heap.size) s.size (grownCap w s.size 0 e), Lib.bytesWorld w e s, ?_, conv_chg w e s, h w.heap.size _ _ _ (conv_own w e _ s) ?_⟩
  · simp only [execOp, hx]
    rw [Sem.run_bind, Lib.run_convert_string_bytes w t t' e s hu hu' he]
    rfl
  · have h1 := ((hH.drew.alloc e (Lib.bytesCells w e s))).mark L.length (b := w.heap.size) (t := e) (cs := Lib.bytesCells w e s) (by simp)
    have e1 : (L ++ [(some w.drew.heap.size, e, Lib.bytesCells w e s)]).set L.length (some w.heap.size, e, Lib.bytesCells w e s) = L ++ [(some w.heap.size, e, Lib.bytesCells w e s)] := by
      rw [List.set_append_right _ _ (Nat.le_refl _), Nat.sub_self]; rfl
    rw [e1] at h1
    exact h1
theorem pr_slice_O3 {k k' : IntKind} {e : TypeId} {o : Option Nat} {n c h : Nat} {xh xm : Operand} (hx : a.eval x = own o n c) (hh : a.eval xh = .int k (h : Int)) (hm : a.eval xm = .int k' (h : Int)) (hu : P.underlying t = some (.slice e)) (hs : szc P e = some 1) (h1 : h ≤ c) :
    PRun P ⟨d, .slice t x none (some xh) (some xm), ty, pos, af, g⟩ a (ownO o 0 h h) := fun w => by
  refine run_ok_value (w := w) ?_
  have e0 : (if h = 0 then (o.map fun b => (⟨b, 0, none⟩ : Addr)) else (o.map fun b => (⟨b, 0, none⟩ : Addr)).map fun a => a.add 0) = o.map fun b => (⟨b, 0, none⟩ : Addr) := by
    split
    · rfl
    · cases o <;> simp [Addr.add]
  simp only [own, ownO] at hx ⊢
  simp [hx, hh, hm, Instr.sliceAt, Instr.slice, run_underlying hu, Instr.sliceBounds, run_bound h1, run_bound (Nat.le_refl h), run_sizeOf hs, e0]
  intro _
  cases o <;> simp [Addr.add]
end
end Go.Proofs.YtmoaddicejohgaaDoor
