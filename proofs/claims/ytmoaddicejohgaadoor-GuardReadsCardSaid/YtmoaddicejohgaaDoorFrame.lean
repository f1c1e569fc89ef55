/- The frame of a law's row, whatever the parameters' types: a law that yields true and leaves all old blocks alone fulfils its row. Arguments opened: arrays of bytes. -/
import Derived.Test.YtmoaddicejohgaaDoorArr
import Derived.Carry
import Derived.OpenShut
import Derived.Handed
import Derived.ProofKit
set_option linter.unusedSimpArgs false
set_option linter.unusedVariables false
namespace Go.Proofs.YtmoaddicejohgaaDoor
open Go Go.ChangeShapes Go.WideShapes Go.RowKit
section
variable {H : Type} {enc : TypeId × Value → H} {P : Program}

theorem trodAll_kept (hl : laidOutB P = true) {W W' : World} (hb : Below W.heap.size W W') {sp : Nat → Bool} : ∀ {ts : List TypeId} {vs : List Value} {ds : List (DataW H)} {ps : List MemPlace},
    (ts.all fun t => P.readableRec t && decide (t < P.types.size)) = true → DataW.TrodAll enc P W 0 (fun _ => true) true ts vs ds ps → (∀ x ∈ ps, x.block < W.heap.size) → (∀ x ∈ ps, sp x.block = true) →
      DataW.TrodAll enc P W' 0 sp true ts vs ds ps
  | [], _, _, _, _, h, _, _ => by
    obtain ⟨rfl, rfl, rfl⟩ := trodAll_nil h
    rfl
  | t :: ts, _, _, _, hr, h, hlt, hs => by
    obtain ⟨v, vs1, d, ds1, a, b, rfl, rfl, rfl, h1, h2⟩ := trodAll_cons h
    simp only [List.all_cons, Bool.and_eq_true, decide_eq_true_eq] at hr
    refine ⟨a, b, WideElems.Trod_stays hl hr.1.1 hr.1.2 h1 (fun x hx => hb.same (hlt x (by simp [hx]))) (fun x hx => hs x (by simp [hx])), trodAll_kept hl hb ?_ h2 (fun x hx => hlt x (by simp [hx])) (fun x hx => hs x (by simp [hx])), rfl⟩
    simpa using hr.2
theorem trodVars_nil {w : World} {sp : Nat → Bool} {gs : List (DataW H)} {ps : List MemPlace} (h : DataW.TrodVars enc P w sp [] gs ps) : gs = [] ∧ ps = [] := by
  cases gs with
  | nil => exact ⟨rfl, h⟩
  | cons d ds => simp [DataW.TrodVars] at h

theorem post_of_true {f : Func} {s : ChangeSpec} {apart handsOn again : Bool} {W W' : World} {args : Array Value} {ds gs : List (DataW H)} {before : List MemPlace} {tb : TypeId}
    (hl : laidOutB P = true) (hpar : (f.params.toList.all fun t => P.readableRec t && decide (t < P.types.size)) = true) (hrt : f.resultTypes = #[tb]) (hb : P.underlying tb = some .bool) (hv : s.vars = [])
    (hs : ∀ ds : List (DataW H), ds.length = f.params.toList.length → s.fn H ds = { results := [.lit (.bool true)], args := ds })
    (hW : DataW.Whole enc P f.params.toList s.vars apart W args.toList ds gs before) (hc : Chg [] W W') : s.post enc P f apart true handsOn again W args (BV true) W' := by
  have hlt := hW.lt
  have hW0 := hW
  obtain ⟨p, q, hA, hV, rfl, hz, hn⟩ := hW
  rw [hv] at hV
  obtain ⟨rfl, rfl⟩ := trodVars_nil hV
  have hlen : ds.length = f.params.toList.length := by
    have : ∀ {ts : List TypeId} {vs : List Value} {ds : List (DataW H)} {ps : List MemPlace}, DataW.TrodAll enc P W 0 (fun _ => true) true ts vs ds ps → ds.length = ts.length := by
      intro ts
      induction ts with
      | nil => intro vs ds ps h; obtain ⟨rfl, rfl, rfl⟩ := trodAll_nil h; rfl
      | cons t ts ih =>
        intro vs ds ps h
        obtain ⟨v, vs1, d, ds1, a, b, rfl, rfl, rfl, h1, h2⟩ := trodAll_cons h
        simp [ih h2]
    exact this hA
  have e := hs (ds ++ []) (by simpa using hlen)
  have hbel := hc.below
  have hargs : ∀ sp : Nat → Bool, (∀ x ∈ p ++ [], sp x.block = true) → DataW.TrodAll enc P W' 0 sp true f.params.toList args.toList (s.fn H (ds ++ [])).args p := fun sp hsp => by
    rw [e, List.append_nil]
    exact trodAll_kept hl hbel hpar hA (fun x hx => hlt x (by simp [hx])) (fun x hx => hsp x (by simp [hx]))
  have hres : ∀ (b : Nat) (sp : Nat → Bool) (hd : Bool), DataW.TrodAll enc P W' b sp hd f.resultTypes.toList ((BV true).resultList f.resultTypes.size) (s.fn H (ds ++ [])).results [] := fun b sp hd => by
    rw [e, hrt]
    exact ⟨[], [], shut_bool hb true, rfl, rfl⟩
  have hvars : ∀ sp : Nat → Bool, (∀ x ∈ p ++ [], sp x.block = true) → DataW.TrodVars enc P W' sp s.vars (s.fn H (ds ++ [])).vars [] := fun sp _ => by
    rw [e, hv]; rfl
  have hold : ∀ x ∈ p ++ [], (fun b => decide (b < W.heap.size)) x.block = true := fun x hx => by simpa using hlt x hx
  refine ⟨ds, [], p ++ [], [], p, [], hW0, hres _ _ _, hargs _ hold, hvars _ hold, World.keptBut_mono (fun x hx => ⟨hx, ?_⟩) (hbel.frame (· ∈ p ++ [])), fun _ => ?_⟩
  · rw [List.mem_append] at hx
    exact Or.inr hx
  · refine ⟨ok_one hrt rfl (okWide_bool_mk hb true), _, _, ([] ++ p) ++ [], ⟨[] ++ p, [], trodAll_append (hargs _ (fun _ _ => rfl)) (hres _ _ _), hvars _ (fun _ _ => rfl), rfl, ?_, ?_⟩, ?_⟩
    · intro b off hp
      have hb' : b < W.heap.size := hlt (.cell b off) (by simpa using hp)
      rw [hbel.frozen (p := ⟨b, off, none⟩) hb']
      exact hz b off (by simpa using hp)
    · intro ha
      simpa using hn ha
    · intro x hx _
      simpa using hx
end

/-- The row's step. -/
theorem law_lifted {C : Checked} {os : Os} {H : Type} {enc : TypeId × Value → H} {f : FuncId} {fn : Func} {s : ChangeSpec} {conds : List PathCond} {apart handsOn again : Bool} {tb : TypeId}
    (own : ownKnob C.prog.godebug = none) (started : os.Started) (noInit : C.prog.inits.idxOf? f = none) (hfn : C.prog.funcs[f]? = some fn)
    (witness : ∃ (w : World) (tape : Tape) (i : Input), w.os = os ∧ (w.forCall tape i).Shaped C.prog ∧ i.vars = [] ∧ Input.okWide C.prog (w.forCall tape i) .any w.heap.size f i ∧
      s.pre6 enc C.prog fn conds apart (w.forCall tape i).memory i.args ∧ ({} : Assume).holds C.prog (lone (Frame.enter C.prog f i.args .normal) [] (w.forCall tape i)))
    (hl : laidOutB C.prog = true) (hpar : (fn.params.toList.all fun t => C.prog.readableRec t && decide (t < C.prog.types.size)) = true) (hrt : fn.resultTypes = #[tb]) (hb : C.prog.underlying tb = some .bool) (hv : s.vars = [])
    (hs : ∀ ds : List (DataW H), ds.length = fn.params.toList.length → s.fn H ds = { results := [.lit (.bool true)], args := ds })
    (walk : ∀ (W : World) (base : Nat) (args : Array Value) (ds : List (DataW H)) (p : List MemPlace), (∀ (j : Nat) t v, fn.params[j]? = some t → args[j]? = some v → Value.okWide C.prog W .any base t v) →
      DataW.TrodAll enc C.prog W 0 (fun _ => true) true fn.params.toList args.toList ds p → Ret C.prog f args W fun v w' => v = BV true ∧ Chg [] W w') :
    ReturnsInHanded {} C os f .any (s.pre6 enc C.prog fn conds apart) (s.post enc C.prog fn apart true handsOn again) := by
  refine returnsInHanded_of_change own started noInit hfn witness ?_
  intro W base args ds gs before hval hW hcnd _
  have hW' := hW
  obtain ⟨p, q, hA, hV, _, _, _⟩ := hW'
  exact (walk W base args ds p hval hA).calls.mono fun e w' ⟨v, he, hv', hc⟩ => ⟨v, he, by subst hv'; exact post_of_true hl hpar hrt hb hv hs hW hc⟩

/-! ### Arguments -/
section
variable {H : Type} {enc : TypeId × Value → H} {P : Program} {w : World} {base : Nat} {spare : Nat → Bool} {held : Bool}
theorem trod_u8 {e : TypeId} {fuel : Nat} {cs : List Value} {x : DataW H × List MemPlace} (he : P.underlying e = some (.int .u8)) (h : DataW.trod enc P w base spare held fuel e cs = some x) : ∃ b : UInt8, cs = [V8 b] := by
  obtain ⟨n, rfl, _, hw⟩ := DataW.trod_int he h
  have := bounds_u8 hw
  refine ⟨UInt8.ofNat n.toNat, ?_⟩
  have e1 : ((UInt8.ofNat n.toNat).toNat : Int) = n := by
    rw [UInt8.toNat_ofNat']; omega
  rw [show V8 (UInt8.ofNat n.toNat) = .int .u8 ((UInt8.ofNat n.toNat).toNat : Int) from rfl, e1]
/-- The cells of an array of bytes. -/
theorem trod_arr8 {t e : TypeId} {n fuel : Nat} {cs : List Value} {x : DataW H × List MemPlace} (hu : P.underlying t = some (.array n e)) (he : P.underlying e = some (.int .u8)) (hse : szc P e = some 1) (hst : szc P t = some n)
    (h : DataW.trod enc P w base spare held fuel t cs = some x) : ∃ f : Nat → UInt8, cs = (arr8 n f).toList := by
  have hc : P.cellsOf e = 1 := by unfold szc at hse; unfold Program.cellsOf; rw [hse]; rfl
  have hct : P.cellsOf t = n := by unfold szc at hst; unfold Program.cellsOf; rw [hst]; rfl
  obtain ⟨xs, m, rfl, _, hlen, hxs, hall⟩ := DataW.trod_array hu h
  rw [hct] at hlen
  have hcell : ∀ i : Nat, ∃ b : UInt8, i < n → cs[i]? = some (V8 b) := fun i => by
    by_cases hi : i < n
    · have h1 := hall i hi
      rw [hc, Nat.mul_one] at h1
      have hx : ∃ y, xs[i]? = some y := ⟨xs[i]'(by omega), by rw [List.getElem?_eq_getElem]⟩
      obtain ⟨y, hy⟩ := hx
      rw [hy] at h1
      obtain ⟨b, hb⟩ := trod_u8 he h1
      refine ⟨b, fun _ => ?_⟩
      have := congrArg (·[0]?) hb
      simpa using this
    · exact ⟨0, fun h => absurd h hi⟩
  obtain ⟨f, hf⟩ := Classical.axiomOfChoice hcell
  refine ⟨f, ?_⟩
  apply List.ext_getElem?
  intro i
  by_cases hi : i < n
  · rw [hf i hi, Array.getElem?_toList, arr8_get hi]
  · rw [List.getElem?_eq_none (by omega), List.getElem?_eq_none (by simp; omega)]
theorem open_arr8 {t e : TypeId} {n : Nat} {r : Reach} {b0 : Nat} {v : Value} {d : DataW H} {ps : List MemPlace} (hu : P.underlying t = some (.array n e)) (he : P.underlying e = some (.int .u8)) (hse : szc P e = some 1) (hst : szc P t = some n)
    (hval : Value.okWide P w r b0 t v) (h : DataW.Trod enc P w base spare held t v d ps) : ∃ f : Nat → UInt8, v = .agg (arr8 n f) := by
  obtain ⟨fuel, h⟩ := h
  unfold Value.okWide at hval
  rw [hu] at hval
  obtain ⟨cs, rfl, _⟩ := hval
  obtain ⟨f, hf⟩ := trod_arr8 hu he hse hst h
  refine ⟨f, ?_⟩
  have : cs = arr8 n f := by
    apply Array.ext'
    simpa [Value.cells] using hf
  rw [this]
/-- A slice of bytes. -/
theorem trod_sl {t e : TypeId} {fuel : Nat} {cs : List Value} {x : DataW H × List MemPlace} (hu : P.underlying t = some (.slice e)) (he : P.underlying e = some (.int .u8)) (hse : szc P e = some 1)
    (h : DataW.trod enc P w base spare held fuel t cs = some x) : ∃ v l, cs = [v] ∧ Sl w v l ∧ l.length < 9223372036854775808 := by
  have hc : P.cellsOf e = 1 := by unfold szc at hse; unfold Program.cellsOf; rw [hse]; rfl
  rcases open_ints hu he hc h with ⟨rfl, _⟩ | ⟨ad, len, cap, zs, rfl, _, hle, hmax, hlen, _, hcell, hwf⟩
  · exact ⟨_, [], rfl, Sl.nil, by simp⟩
  · have hz : len ≤ zs.length := by rw [hlen]; split <;> omega
    have hl : ((zs.take len).map fun n => UInt8.ofNat n.toNat).length = len := by simp; omega
    refine ⟨_, (zs.take len).map fun n => UInt8.ofNat n.toNat, rfl, ⟨some ad, cap, by rw [hl], by rw [hl]; exact hle, fun hne => ?_⟩, by rw [hl]; have : maxLen = 9223372036854775807 := rfl; omega⟩
    have hp : 0 < len := by
      cases len with
      | zero => simp at hne
      | succ n => omega
    obtain ⟨b, off, rfl, hat⟩ := ints_at hcell (by omega)
    refine ⟨b, off, rfl, fun i hi => ?_⟩
    rw [hl] at hi
    rw [hat i (by omega)]
    have hzi : zs.getD i 0 = zs[i]'(by omega) := by simp [List.getD, show i < zs.length by omega]
    have hb := bounds_u8 (hwf _ (List.getElem_mem (by omega : i < zs.length)))
    simp only [List.getElem_map, List.getElem_take]
    rw [hzi]
    have e1 : ((UInt8.ofNat (zs[i]'(by omega)).toNat).toNat : Int) = zs[i]'(by omega) := by
      rw [UInt8.toNat_ofNat']; omega
    exact congrArg some (by show Value.int .u8 _ = Value.int .u8 _; rw [e1])
theorem open_sl {t e : TypeId} {r : Reach} {b0 : Nat} {v : Value} {d : DataW H} {ps : List MemPlace} (hu : P.underlying t = some (.slice e)) (he : P.underlying e = some (.int .u8)) (hse : szc P e = some 1)
    (hval : Value.okWide P w r b0 t v) (h : DataW.Trod enc P w base spare held t v d ps) : ∃ l, Sl w v l ∧ l.length < 9223372036854775808 := by
  obtain ⟨fuel, h⟩ := h
  obtain ⟨v', l, h1, h2, h3⟩ := trod_sl hu he hse h
  have hv : v.cells = #[v] := by
    unfold Value.okWide at hval
    rw [hu] at hval
    cases v <;> first | rfl | (simp [Cell.okWide, hu, Cell.ok] at hval)
  rw [hv] at h1
  obtain rfl : v = v' := by simpa using h1
  exact ⟨l, h2, h3⟩
/-- The cells of a key, a counter, a place and a slice. -/
def flowC (f g : Nat → UInt8) (a : Int) (v : Value) : Array Value := arr8 16 f ++ arr8 16 g ++ #[I64 a, v]
theorem flowC_size (f g : Nat → UInt8) (a : Int) (v : Value) : (flowC f g a v).size = 34 := by simp [flowC]
theorem flowC_key {f g : Nat → UInt8} {a : Int} {v : Value} {i : Nat} (h : i < 16) : (flowC f g a v)[i]? = some (V8 (f i)) := by
  unfold flowC
  rw [Array.getElem?_append_left (by simp; omega), Array.getElem?_append_left (by simpa using h), arr8_get h]
theorem flowC_ctr {f g : Nat → UInt8} {a : Int} {v : Value} {i : Nat} (h : i < 16) : (flowC f g a v)[16 + i]? = some (V8 (g i)) := by
  unfold flowC
  rw [Array.getElem?_append_left (by simp; omega), Array.getElem?_append_right (by simp), arr8_size, Nat.add_sub_cancel_left, arr8_get h]
theorem flowC_at {f g : Nat → UInt8} {a : Int} {v : Value} : (flowC f g a v)[32]? = some (I64 a) := by
  unfold flowC
  rw [Array.getElem?_append_right (by simp)]; simp
theorem flowC_bytes {f g : Nat → UInt8} {a : Int} {v : Value} : (flowC f g a v)[33]? = some v := by
  unfold flowC
  rw [Array.getElem?_append_right (by simp)]; simp
theorem flow_key {w : World} {b T : Nat} {f g : Nat → UInt8} {a : Int} {v : Value} (h : Blk w b T (flowC f g a v)) : Sl w (.slice (some ⟨b, 0, none⟩) 16 16) ((List.range 16).map fun i => f i) :=
  Sl.of_blk h (by simp) (Nat.le_refl _) fun i hi => by
    have : i < 16 := by simpa using hi
    rw [Nat.zero_add, flowC_key this]; simp
theorem flow_ctr {w : World} {b T : Nat} {f g : Nat → UInt8} {a : Int} {v : Value} (h : Blk w b T (flowC f g a v)) : Sl w (.slice (some ⟨b, 16, none⟩) 16 16) ((List.range 16).map fun i => g i) :=
  Sl.of_blk h (by simp) (Nat.le_refl _) fun i hi => by
    have : i < 16 := by simpa using hi
    rw [flowC_ctr this]; simp
theorem trod_field {t : TypeId} {fuel : Nat} {cs : List Value} {x : DataW H × List MemPlace} {fs : Array Field} (hu : P.underlying t = some (.struct fs)) (h : DataW.trod enc P w base spare held fuel t cs = some x)
    (i : Nat) {ft off m : Nat} (hf : (fs[i]?).map (fun f => (f.type, f.offset)) = some (ft, off)) (hm : szc P ft = some m) : ∃ y n, DataW.trod enc P w base spare held n ft ((cs.drop off).take m) = some y := by
  obtain ⟨xs, n, _, _, _, hl, hall⟩ := DataW.trod_struct hu h
  obtain ⟨f, hf1, hf2⟩ := Option.map_eq_some_iff.1 hf
  cases hf2
  have hc : P.cellsOf f.type = m := by unfold szc at hm; unfold Program.cellsOf; rw [hm]; rfl
  have hi := (Array.getElem?_eq_some_iff.1 hf1).1
  have := hall i f hf1
  rw [hc, List.getElem?_eq_getElem (by omega)] at this
  exact ⟨_, n, this⟩
theorem list34 (L : List Value) (h : L.length = 34) : L = (L.drop 0).take 16 ++ (L.drop 16).take 16 ++ ((L.drop 32).take 1 ++ (L.drop 33).take 1) := by
  have h1 : L = (L.drop 0).take 16 ++ L.drop 16 := by rw [List.drop_zero, List.take_append_drop]
  have h2 : L.drop 16 = (L.drop 16).take 16 ++ L.drop 32 := by
    have := (List.take_append_drop 16 (L.drop 16)).symm
    rwa [List.drop_drop] at this
  have h3 : L.drop 32 = (L.drop 32).take 1 ++ L.drop 33 := by
    have := (List.take_append_drop 1 (L.drop 32)).symm
    rwa [List.drop_drop] at this
  have h4 : L.drop 33 = (L.drop 33).take 1 := by rw [List.take_of_length_le (by rw [List.length_drop]; omega)]
  rw [← h4, ← h3, List.append_assoc, ← h2]
  exact h1
theorem open_flow {t tk ti ts e : TypeId} {fs : Array Field} {r : Reach} {b0 : Nat} {v : Value} {d : DataW H} {ps : List MemPlace} (hu : P.underlying t = some (.struct fs))
    (h0 : (fs[0]?).map (fun f => (f.type, f.offset)) = some (tk, 0)) (h1 : (fs[1]?).map (fun f => (f.type, f.offset)) = some (tk, 16)) (h2 : (fs[2]?).map (fun f => (f.type, f.offset)) = some (ti, 32)) (h3 : (fs[3]?).map (fun f => (f.type, f.offset)) = some (ts, 33))
    (hk : P.underlying tk = some (.array 16 e)) (he : P.underlying e = some (.int .u8)) (hse : szc P e = some 1) (hsk : szc P tk = some 16) (hi : P.underlying ti = some (.int .i64)) (hsi : szc P ti = some 1) (hs : P.underlying ts = some (.slice e)) (hss : szc P ts = some 1) (hst : szc P t = some 34)
    (hval : Value.okWide P w r b0 t v) (h : DataW.Trod enc P w base spare held t v d ps) : ∃ f g a sv l, v = .agg (flowC f g a sv) ∧ Sl w sv l ∧ l.length < 9223372036854775808 ∧ -9223372036854775808 ≤ a ∧ a ≤ 9223372036854775807 := by
  obtain ⟨fuel, h⟩ := h
  unfold Value.okWide at hval
  rw [hu] at hval
  obtain ⟨cs, rfl, hsz, _⟩ := hval
  have hct : P.cellsOf t = 34 := by unfold szc at hst; unfold Program.cellsOf; rw [hst]; rfl
  rw [hct] at hsz
  obtain ⟨_, _, g0⟩ := trod_field hu h 0 h0 hsk
  obtain ⟨_, _, g1⟩ := trod_field hu h 1 h1 hsk
  obtain ⟨_, _, g2⟩ := trod_field hu h 2 h2 hsi
  obtain ⟨_, _, g3⟩ := trod_field hu h 3 h3 hss
  obtain ⟨f, e0⟩ := trod_arr8 hk he hse hsk g0
  obtain ⟨g, e1⟩ := trod_arr8 hk he hse hsk g1
  obtain ⟨a, e2, _, hw⟩ := DataW.trod_int hi g2
  obtain ⟨sv, l, e3, hsl, hl⟩ := trod_sl hs he hse g3
  have hb := bounds_i64 hw
  refine ⟨f, g, a, sv, l, ?_, hsl, hl, hb.1, hb.2⟩
  refine congrArg Value.agg (Array.ext' ?_)
  have hlen : cs.toList.length = 34 := by rw [Array.length_toList]; exact hsz
  have e := list34 cs.toList hlen
  have e0' : (cs.toList.drop 0).take 16 = (arr8 16 f).toList := e0
  have e1' : (cs.toList.drop 16).take 16 = (arr8 16 g).toList := e1
  have e2' : (cs.toList.drop 32).take 1 = [I64 a] := e2
  have e3' : (cs.toList.drop 33).take 1 = [sv] := e3
  rw [e0', e1', e2', e3'] at e
  rw [e]
  unfold flowC
  rw [Array.toList_append, Array.toList_append]
  rfl
end
end Go.Proofs.YtmoaddicejohgaaDoor
