/- append(.., make(.., m)...); a law's row whose arguments' weights are known; a letter opened. -/
import Derived.Test.YtmoaddicejohgaaDoorFrame
import Derived.Test.YtmoaddicejohgaaDoorMore
import Derived.HandedShaped
set_option linter.unusedSimpArgs false
set_option linter.unusedVariables false
namespace Go.Proofs.YtmoaddicejohgaaDoor
open Go Go.ChangeShapes Go.WideShapes Go.RowKit
section
variable {P : Program} {ops : List Oper} {Q : Exit → Act → World → Prop} {r : List PStep} {a : Act} {w : World} {i : Nat} {d : Option Tmp} {ty : TypeId} {pos : String} {af : Array Edge} {g : Option (Nat × Bool)} {x y : Operand} {t t' T : TypeId}
  {S : List Nat} {w0 : World} {L : List Own}
theorem zeroCells_one (m : Nat) : Builtin.zeroCells #[V8 0] m = ((List.replicate m (0 : UInt8)).map V8).toArray := by
  apply Array.ext'
  apply List.ext_getElem?
  intro i
  simp [Builtin.zeroCells, List.getElem?_replicate, Nat.mod_one, List.getElem?_range]
  by_cases h : i < m <;> simp [h]
/-- append(.., make([]byte, m)...) onto a slice of the call's own. -/
theorem plan_appendz (k : Nat) {dst : Tmp} {o : Option Nat} {n cap m e : Nat} {cs : Array Value} {xs : List Value} {kx ky : IntKind}
    (ho : ops[i]? = some ⟨some dst, .call ⟨.builtin .append, #[x, y], #[t, t']⟩, ty, pos, af, g⟩) (hg : Region.wanted ⟨some dst, .call ⟨.builtin .append, #[x, y], #[t, t']⟩, ty, pos, af, g⟩ (yielded ops.toArray a.tmps) = true)
    (hH : Hp S w0 w L) (hk : L[k]? = some (o, e, cs)) (hO : OwnC o n cap 1 cs xs) (hx : a.eval x = own o n cap) (hy : a.eval y = .int ky (m : Int)) (hm : 0 < m) (hu : P.underlying t = some (.slice e)) (hu' : P.underlying t' = some (.int kx))
    (hs : szc P e = some 1) (hb : bytesOf P e = some 1) (hz : zeroC P e = some #[V8 0]) (hbd : n + m ≤ 140737488355328)
    (h : ∀ o' cap' cs' w', OwnC o' (n + m) cap' 1 cs' (xs ++ (List.replicate m (0 : UInt8)).map V8) → Hp S w0 w' (L.set k (o', e, cs')) → wpPlan P ops.toArray Q r (a.put (some dst) (own o' (n + m) cap')) w') : wpPlan P ops.toArray Q (.e i :: r) a w := by
  refine plan_ev hH ho hg fun w hH => ?_
  generalize hnews : (List.replicate m (0 : UInt8)).map V8 = news at h
  have hnl : news.length = m * 1 := by subst hnews; simp
  have hone : ∀ x ∈ news, x.oneCell' = true := by
    subst hnews; intro x hx
    obtain ⟨z, _, rfl⟩ := List.mem_map.1 hx; rfl
  have hbts : ∃ inf, P.info? e = some inf ∧ inf.bytes = 1 ∧ inf.size = 1 ∧ ∃ z, inf.zero = some z ∧ z.cells = #[V8 0] := by
    unfold bytesOf at hb
    obtain ⟨inf, hi, hb1⟩ := Option.map_eq_some_iff.1 hb
    unfold szc at hs
    rw [hi] at hs
    unfold zeroC at hz
    rw [hi] at hz
    obtain ⟨z, hz1, hz2⟩ := Option.map_eq_some_iff.1 hz
    exact ⟨inf, hi, hb1, by simpa using hs, z, by simpa using hz1, hz2⟩
  obtain ⟨inf, hinf, hib, his, z, hiz, hzc⟩ := hbts
  have hle := hO.le
  have hwr : IntKind.i64.wrap (m : Int) = (m : Int) := wrap_i64_in _ (by omega) (by omega)
  have hzz : Builtin.zeroCells #[V8 0] m = news.toArray := by rw [zeroCells_one, hnews]
  have hneg : ¬ ((m : Int) < 0) := by omega
  have hbig : ¬ (281474976710656 < (m : Int)) := by omega
  have hm0 : ¬ m = 0 := by omega
  have hexec : ∀ v w', (Builtin.append_ #[t, t'] ty #[own o n cap, .int ky (m : Int)]).run P w = .ok v w' → (execOp a.eval ⟨some dst, .call ⟨.builtin .append, #[x, y], #[t, t']⟩, ty, pos, af, g⟩).run P w = .ok (.value v) w' := by
    intro v w' hr
    simp only [execOp, resolve, List.map_toArray, List.map_cons, List.map_nil, hx, hy, invoke, builtin, Sem.run_bind, Sem.run_pure, Result.andThen_ok, hr]
  by_cases hroom : n + m ≤ cap
  · have hsz : n * 1 + news.length ≤ cs.size := by
      rw [hO.size, hnl]; omega
    have hown : OwnC o (n + m) cap 1 (splice cs (n * 1) news.toArray) (xs ++ news) := by
      refine ⟨hroom, by rw [splice_size (by simpa using hsz), hO.size], hO.nil, by rw [List.length_append, hO.len, hnl, Nat.add_mul], fun j hj => ?_⟩
      rw [splice_get (by simpa using hsz)]
      simp only [List.size_toArray]
      by_cases hjn : j < n * 1
      · rw [if_neg (by omega), List.getElem?_append_left (by rw [hO.len]; exact hjn)]; exact hO.at_ j hjn
      · rw [if_pos ⟨by omega, by omega⟩, List.getElem?_append_right (by rw [hO.len]; omega), hO.len]; simp
    cases o with
    | none =>
      have hc0 := hO.nil rfl
      omega
    | some b =>
      obtain ⟨w', hr, hB, hoth, hsz', e1, e2, e3⟩ := run_storeCells_blk (P := P) news 0 (n * 1) w cs (hH.blk k hk) (by simpa using hsz) hone
      refine ⟨own (some b) (n + m) cap, w', hexec _ _ ?_, h (some b) cap _ w' hown ?_⟩
      · simp [Builtin.append_, run_underlying hu, run_underlying hu', own, sizeOf, typeInfo, zeroValue, hinf, his, hib, hiz, hzc, hwr, hneg, hbig, hm0, hroom, addr_add, asInt, asIntOf, hzz]
        have hr' : (storeCells (⟨b, n, none⟩ : Addr) news).run P w = .ok () w' := by simpa using hr
        rw [hr']; rfl
      · refine hH.put k hk ?_ (by simpa using hB) fun k' hk' _ => hoth k' hk'
        refine hH.chg.trans' (T := [b]) ⟨e1, e2, e3, by omega, fun k' hk' hn => hoth k' (by simpa using hn)⟩ ?_
        intro z' hz' hlt
        simp only [List.mem_singleton] at hz'
        subst hz'
        rcases hH.mine k hk with h1 | h1
        · omega
        · exact h1
  · obtain ⟨c, hc, hch⟩ : ∃ c, n + m ≤ c ∧ (Question.appendCap (n + m) cap e).cut (w.tape w.drawn (.appendCap (n + m) cap e)) = c := ⟨_, by simp [Question.cut], rfl⟩
    have hfc : (Question.appendCap (n + m) cap e).forced = false := rfl
    have hd : Chg [] w w.drew := (Chg.refl _ _).drew
    have hfo := own_first (P := P) (hH.call hd) k hk hO
    have hfit := growslice_fits (bytes := 1) (show cap < n + m by omega) (by omega)
    have h48 : ¬ (281474976710656 < Builtin.nextslicecap (n + m) cap) := by omega
    have h63 : ¬ (9223372036854775807 < ((n : Int) + (m : Int))) := by omega
    have hzl : (Builtin.zeroCells #[V8 0] (c - (n + m))).size = c - (n + m) := by simp [Builtin.zeroCells]
    refine ⟨own (some w.drew.heap.size) (n + m) c, w.drew.alloc (.cells (xs.toArray ++ news.toArray ++ Builtin.zeroCells #[V8 0] (c - (n + m))) e), hexec _ _ ?_, h (some w.drew.heap.size) c (xs.toArray ++ news.toArray ++ Builtin.zeroCells #[V8 0] (c - (n + m))) _ ⟨hc, ?_, (by intro h; cases h), by rw [List.length_append, hO.len, hnl, Nat.add_mul], fun j hj => ?_⟩ ?_⟩
    · simp [Builtin.append_, run_underlying hu, run_underlying hu', own, sizeOf, typeInfo, zeroValue, hinf, his, hib, hiz, hzc, hwr, hneg, hbig, hm0, hroom, h63, h48, hfc, hch, newRow, asInt, asIntOf, hzz]
      simp only [own] at hfo
      rw [hfo]; simp; congr 2; apply Array.ext'; simp
    · simp only [Array.size_append, List.size_toArray, hzl, hO.len, hnl]; omega
    · have : j < (xs ++ news).length := by rw [List.length_append, hO.len, hnl, ← Nat.add_mul]; exact hj
      rw [Array.getElem?_append_left (by simpa using this)]
      simp
    · refine (hH.call hd).turn k hk _ ?_ ?_ ?_ ?_
      · exact hH.chg.trans' (T := []) (hd.alloc _) (by simp)
      · intro b hb'
        cases hb'
        exact ⟨.inl (by have := hH.chg.size; exact this), Blk.new _ _ _⟩
      · intro b hb'; cases hb'; exact .inr (Nat.le_refl _)
      · intro k' _ hlt
        exact RowKit.Below.heap_alloc _ _ _ hlt
end

/-! ### Weights -/
theorem weightsEach_at {H : Type} {P : Program} {p : Nat → Bool} : ∀ {ts : List TypeId} {ds : List (DataW H)}, (DataW.weightsEach P ts ds).all p = true → ∀ (i : Nat) (t : TypeId) (d : DataW H), ts[i]? = some t → ds[i]? = some d → (d.weights P t).all p = true
  | [], _, _, i, t, d, h1, _ => by simp at h1
  | _ :: _, [], _, i, t, d, _, h2 => by simp at h2
  | t0 :: ts, d0 :: ds, h, i, t, d, h1, h2 => by
    simp only [DataW.weightsEach, List.all_append, Bool.and_eq_true] at h
    cases i with
    | zero => simp at h1 h2; subst h1; subst h2; exact h.1
    | succ i => exact weightsEach_at h.2 i t d (by simpa using h1) (by simpa using h2)
/-- The row's step, with the weights. -/
theorem law_lifted_w {C : Checked} {os : Os} {H : Type} {enc : TypeId × Value → H} {f : FuncId} {fn : Func} {s : ChangeSpec} {conds : List PathCond} {apart handsOn again : Bool} {tb : TypeId}
    (own : ownKnob C.prog.godebug = none) (started : os.Started) (noInit : C.prog.inits.idxOf? f = none) (hfn : C.prog.funcs[f]? = some fn)
    (witness : ∃ (w : World) (tape : Tape) (i : Input), w.os = os ∧ (w.forCall tape i).Shaped C.prog ∧ i.vars = [] ∧ Input.okWide C.prog (w.forCall tape i) .any w.heap.size f i ∧
      s.pre6 enc C.prog fn conds apart (w.forCall tape i).memory i.args ∧ ({} : Assume).holds C.prog (lone (Frame.enter C.prog f i.args .normal) [] (w.forCall tape i)))
    (hl : laidOutB C.prog = true) (hpar : (fn.params.toList.all fun t => C.prog.readableRec t && decide (t < C.prog.types.size)) = true) (hrt : fn.resultTypes = #[tb]) (hb : C.prog.underlying tb = some .bool) (hv : s.vars = [])
    (hs : ∀ ds : List (DataW H), ds.length = fn.params.toList.length → s.fn H ds = { results := [.lit (.bool true)], args := ds })
    (walk : ∀ (W : World) (base : Nat) (args : Array Value) (ds : List (DataW H)) (p : List MemPlace), (∀ (j : Nat) t v, fn.params[j]? = some t → args[j]? = some v → Value.okWide C.prog W .any base t v) →
      DataW.TrodAll enc C.prog W 0 (fun _ => true) true fn.params.toList args.toList ds p → (∀ (j : Nat) t d, fn.params.toList[j]? = some t → ds[j]? = some d → (d.weights C.prog t).all (· ≤ reachBytes) = true) → Ret C.prog f args W fun v w' => v = BV true ∧ Chg [] W w') :
    ReturnsInHanded {} C os f .any (s.pre6 enc C.prog fn conds apart) (s.post enc C.prog fn apart true handsOn again) := by
  refine returnsInHanded_of_change_shaped own started noInit hfn witness ?_
  intro W base args ds gs before hval hW hcnd hwt _ _
  have hW' := hW
  obtain ⟨p, q, hA, hV, _, _, _⟩ := hW'
  have hwt' : ∀ (j : Nat) t d, fn.params.toList[j]? = some t → ds[j]? = some d → (d.weights C.prog t).all (· ≤ reachBytes) = true := fun j t d h1 h2 =>
    weightsEach_at hwt j t d (by rw [List.getElem?_append_left (List.getElem?_eq_some_iff.1 h1).1]; exact h1) (by rw [List.getElem?_append_left (List.getElem?_eq_some_iff.1 h2).1]; exact h2)
  exact (walk W base args ds p hval hA hwt').calls.mono fun e w' ⟨v, he, hv', hc⟩ => ⟨v, he, by subst hv'; exact post_of_true hl hpar hrt hb hv hs hW hc⟩
section
variable {H : Type} {enc : TypeId × Value → H} {P : Program} {w : World} {base : Nat} {spare : Nat → Bool} {held : Bool}
theorem trod_sl_w {t e : TypeId} {fuel : Nat} {cs : List Value} {x : DataW H × List MemPlace} (hu : P.underlying t = some (.slice e)) (he : P.underlying e = some (.int .u8)) (hse : szc P e = some 1) (hbe : P.bytesOf e = 1)
    (h : DataW.trod enc P w base spare held fuel t cs = some x) (hw : (x.1.weights P t).all (· ≤ reachBytes) = true) : ∃ v l, cs = [v] ∧ Sl w v l ∧ l.length ≤ reachBytes := by
  obtain ⟨v, l, h1, h2, h3⟩ := trod_sl hu he hse h
  refine ⟨v, l, h1, h2, ?_⟩
  have hc : P.cellsOf e = 1 := by unfold szc at hse; unfold Program.cellsOf; rw [hse]; rfl
  rcases open_ints hu he hc h with ⟨rfl, _⟩ | ⟨ad, len, cap, zs, rfl, _, hle, hmax, hlen, rfl, hcell, hwf⟩
  · obtain ⟨ad, c, h4, h5⟩ := h2.len
    rw [h4] at h1
    simp at h1
    omega
  · obtain ⟨ad', c, h4, h5⟩ := h2.len
    rw [h4] at h1
    simp at h1
    simp only [DataW.weights, hu, hbe, Nat.mul_one, List.all_cons, Bool.and_eq_true, decide_eq_true_eq] at hw
    have hz : len ≤ zs.length := by rw [hlen]; split <;> omega
    have h6 := hw.1
    simp only [lits, List.length_map, List.length_take, List.length_drop] at h6
    omega
/-- The cells of a letter. -/
def letterC (f : Nat → UInt8) (a b c : Value) : Array Value := arr8 16 f ++ #[a, b, c]
theorem letterC_size (f : Nat → UInt8) (a b c : Value) : (letterC f a b c).size = 19 := by simp [letterC]
theorem letterC_key {f : Nat → UInt8} {a b c : Value} {i : Nat} (h : i < 16) : (letterC f a b c)[i]? = some (V8 (f i)) := by
  unfold letterC
  rw [Array.getElem?_append_left (by simp; omega), arr8_get h]
theorem letterC_nonce {f : Nat → UInt8} {a b c : Value} : (letterC f a b c)[16]? = some a := by
  unfold letterC
  rw [Array.getElem?_append_right (by simp)]; simp
theorem letterC_side {f : Nat → UInt8} {a b c : Value} : (letterC f a b c)[17]? = some b := by
  unfold letterC
  rw [Array.getElem?_append_right (by simp)]; simp
theorem letterC_bytes {f : Nat → UInt8} {a b c : Value} : (letterC f a b c)[18]? = some c := by
  unfold letterC
  rw [Array.getElem?_append_right (by simp)]; simp
theorem letter_key {w : World} {b T : Nat} {f : Nat → UInt8} {x y z : Value} (h : Blk w b T (letterC f x y z)) : Sl w (.slice (some ⟨b, 0, none⟩) 16 16) ((List.range 16).map fun i => f i) :=
  Sl.of_blk h (by simp) (Nat.le_refl _) fun i hi => by
    have : i < 16 := by simpa using hi
    rw [Nat.zero_add, letterC_key this]; simp
theorem letterC_ext {f : Nat → UInt8} {a b c : Value} : (letterC f a b c).extract 0 (0 + 16) = arr8 16 f := by
  refine tabV_ext (by simp [letterC]) fun i hi => ?_
  rw [Array.getElem?_extract, if_pos (by simp [letterC]; omega), Nat.zero_add, letterC_key hi]
theorem trod_field_w {t : TypeId} {fuel : Nat} {cs : List Value} {x : DataW H × List MemPlace} {fs : Array Field} (hu : P.underlying t = some (.struct fs)) (h : DataW.trod enc P w base spare held fuel t cs = some x) (hw : (x.1.weights P t).all (· ≤ reachBytes) = true)
    (i : Nat) {ft off m : Nat} (hf : (fs[i]?).map (fun f => (f.type, f.offset)) = some (ft, off)) (hm : szc P ft = some m) : ∃ y n, DataW.trod enc P w base spare held n ft ((cs.drop off).take m) = some y ∧ (y.1.weights P ft).all (· ≤ reachBytes) = true := by
  obtain ⟨xs, n, _, hx, _, hl, hall⟩ := DataW.trod_struct hu h
  obtain ⟨f, hf1, hf2⟩ := Option.map_eq_some_iff.1 hf
  cases hf2
  have hc : P.cellsOf f.type = m := by unfold szc at hm; unfold Program.cellsOf; rw [hm]; rfl
  have hi := (Array.getElem?_eq_some_iff.1 hf1).1
  have := hall i f hf1
  rw [hc, List.getElem?_eq_getElem (by omega)] at this
  refine ⟨_, n, this, ?_⟩
  subst hx
  simp only [DataW.weights, hu] at hw
  exact weightsEach_at hw i f.type _ (by simp [hf1]) (by rw [List.getElem?_map, List.getElem?_eq_getElem (by omega)]; rfl)
theorem open_letter {t tk ts e : TypeId} {fs : Array Field} {r : Reach} {b0 : Nat} {v : Value} {d : DataW H} {ps : List MemPlace} (hu : P.underlying t = some (.struct fs))
    (h0 : (fs[0]?).map (fun f => (f.type, f.offset)) = some (tk, 0)) (h1 : (fs[1]?).map (fun f => (f.type, f.offset)) = some (ts, 16)) (h2 : (fs[2]?).map (fun f => (f.type, f.offset)) = some (ts, 17)) (h3 : (fs[3]?).map (fun f => (f.type, f.offset)) = some (ts, 18))
    (hk : P.underlying tk = some (.array 16 e)) (he : P.underlying e = some (.int .u8)) (hse : szc P e = some 1) (hbe : P.bytesOf e = 1) (hsk : szc P tk = some 16) (hs : P.underlying ts = some (.slice e)) (hss : szc P ts = some 1) (hst : szc P t = some 19)
    (hval : Value.okWide P w r b0 t v) (h : DataW.Trod enc P w base spare held t v d ps) (hw : (d.weights P t).all (· ≤ reachBytes) = true) :
    ∃ f nv nl sv sl bv bl, v = .agg (letterC f nv sv bv) ∧ Sl w nv nl ∧ nl.length ≤ reachBytes ∧ Sl w sv sl ∧ sl.length ≤ reachBytes ∧ Sl w bv bl ∧ bl.length ≤ reachBytes := by
  obtain ⟨fuel, h⟩ := h
  unfold Value.okWide at hval
  rw [hu] at hval
  obtain ⟨cs, rfl, hsz, _⟩ := hval
  have hct : P.cellsOf t = 19 := by unfold szc at hst; unfold Program.cellsOf; rw [hst]; rfl
  rw [hct] at hsz
  obtain ⟨_, _, g0, _⟩ := trod_field_w hu h hw 0 h0 hsk
  obtain ⟨_, _, g1, w1⟩ := trod_field_w hu h hw 1 h1 hss
  obtain ⟨_, _, g2, w2⟩ := trod_field_w hu h hw 2 h2 hss
  obtain ⟨_, _, g3, w3⟩ := trod_field_w hu h hw 3 h3 hss
  obtain ⟨f, e0⟩ := trod_arr8 hk he hse hsk g0
  obtain ⟨nv, nl, e1, hn1, hn2⟩ := trod_sl_w hs he hse hbe g1 w1
  obtain ⟨sv, sl, e2, hs1, hs2⟩ := trod_sl_w hs he hse hbe g2 w2
  obtain ⟨bv, bl, e3, hb1, hb2⟩ := trod_sl_w hs he hse hbe g3 w3
  refine ⟨f, nv, nl, sv, sl, bv, bl, ?_, hn1, hn2, hs1, hs2, hb1, hb2⟩
  refine congrArg Value.agg (Array.ext' ?_)
  have hlen : cs.toList.length = 19 := by rw [Array.length_toList]; exact hsz
  generalize hL : cs.toList = L at *
  have e0' : (L.drop 0).take 16 = (arr8 16 f).toList := by rw [← hL]; exact e0
  have e1' : (L.drop 16).take 1 = [nv] := by rw [← hL]; exact e1
  have e2' : (L.drop 17).take 1 = [sv] := by rw [← hL]; exact e2
  have e3' : (L.drop 18).take 1 = [bv] := by rw [← hL]; exact e3
  have k1 : L = (L.drop 0).take 16 ++ L.drop 16 := by rw [List.drop_zero, List.take_append_drop]
  have k2 : L.drop 16 = (L.drop 16).take 1 ++ L.drop 17 := by
    have := (List.take_append_drop 1 (L.drop 16)).symm
    rwa [List.drop_drop] at this
  have k3 : L.drop 17 = (L.drop 17).take 1 ++ L.drop 18 := by
    have := (List.take_append_drop 1 (L.drop 17)).symm
    rwa [List.drop_drop] at this
  have k4 : L.drop 18 = (L.drop 18).take 1 := by rw [List.take_of_length_le (by rw [List.length_drop]; omega)]
  rw [k1, k2, k3, k4, e0', e1', e2', e3']
  unfold letterC
  rw [Array.toList_append]; rfl
end
end Go.Proofs.YtmoaddicejohgaaDoor
