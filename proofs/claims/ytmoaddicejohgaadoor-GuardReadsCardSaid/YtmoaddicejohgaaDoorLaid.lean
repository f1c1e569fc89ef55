/- The frame of a law's row where sha's two variables hold what the program's text lays. No further conditions. -/
import Derived.Test.YtmoaddicejohgaaDoorWide
import Derived.Test.YtmoaddicejohgaaDoorSha0
import Derived.Test.YtmoaddicejohgaaDoorRows
import Derived.LaidMore
import Derived.OpenShut
import Derived.Stop.Joined
import Derived.MakeChecks
set_option linter.unusedSimpArgs false
set_option linter.unusedVariables false
set_option maxRecDepth 100000
set_option maxHeartbeats 4000000
namespace Go.Proofs.YtmoaddicejohgaaDoor
open Go
open List (getD_cons_zero getD_cons_succ set_cons_zero set_cons_succ)

open Go.ChangeShapes Go.WideShapes Go.RowKit
def laidL : List (String × DataW Unit) := [("rhyne/sha.first", Rows.laid_rhyne_sha_first), ("rhyne/sha.round", Rows.laid_rhyne_sha_round)]
theorem gFirst : Tryd.prog.globalNamed "rhyne/sha.first" = some 0 := by kernel_rfl
theorem gRound : Tryd.prog.globalNamed "rhyne/sha.round" = some 1 := by kernel_rfl
theorem tFirst : (Tryd.prog.globals[0]?).map (·.type) = some 125 := by kernel_rfl
theorem tRound : (Tryd.prog.globals[1]?).map (·.type) = some 133 := by kernel_rfl
theorem door_met (os : Os) (args : Array Value) : laidMetH Tryd.prog laidL ((World.doorLaid Tryd.prog 400 os).forCall (fun _ _ => 0) ⟨#[], args, []⟩).memory :=
  laidMetH_of_parts3 (fuel := 8) (laidMet_of_run' 8 (by kernel_rfl) (by kernel_rfl)) (by kernel_rfl) (by kernel_rfl)
theorem laid_cells {P : Program} {w : World} {sp : Nat → Bool} {hd : Bool} {enc : TypeId × Value → Unit} {t e : TypeId} {n fuel : Nat} {cs : List Value} {f : Nat → UInt32} {ds : List (DataW Unit)} {m : List MemPlace} (hu : P.underlying t = some (.array n e)) (he : P.underlying e = some (.int .u32)) (hc : P.cellsOf e = 1)
    (h : DataW.trod enc P w 0 sp hd fuel t cs = some (.agg ds, m)) (hf : ∀ i, i < n → ds[i]? = some (.lit (.int .u32 (f i).toNat))) : ∀ i, i < n → cs[i]? = some (V32 (f i)) := by
  obtain ⟨xs, k, rfl, hx, hlen, hxs, hall⟩ := DataW.trod_array hu h
  simp only [Prod.mk.injEq, DataW.agg.injEq] at hx
  intro i hi
  have h1 := hall i hi
  rw [hc, Nat.mul_one] at h1
  have hy : xs[i]? = some (xs[i]'(by omega)) := by rw [List.getElem?_eq_getElem]
  rw [hy] at h1
  obtain ⟨z, hz, hz2, _⟩ := DataW.trod_int he h1
  have hfi := hf i hi
  rw [hx.1, List.getElem?_map, hy, hz2] at hfi
  simp only [Option.map_some, Option.some.injEq, DataW.lit.injEq, Lit.int.injEq, true_and] at hfi
  subst hfi
  have := congrArg (·[0]?) hz
  simpa using this
theorem tabs_of_laid {W : World} (h : laidMetH Tryd.prog laidL W) : Tabs W := by
  rw [MakeChecks.laidMetH_plain _ _ _ (by kernel_rfl)] at h
  obtain ⟨ps, ⟨g0, t0, cs0, f0, p0, q0, hg0, ht0, hv0, hd0, ⟨g1, t1, cs1, f1, p1, q1, hg1, ht1, hv1, hd1, _, _⟩, _⟩, _, _⟩ := h
  obtain rfl := Option.some.inj (gFirst.symm.trans hg0)
  obtain rfl := Option.some.inj (gRound.symm.trans hg1)
  obtain rfl := Option.some.inj (tFirst.symm.trans ht0)
  obtain rfl := Option.some.inj (tRound.symm.trans ht1)
  have c1 : Tryd.prog.cellsOf 113 = 1 := by kernel_rfl
  refine ⟨fun i hi => ?_, fun i hi => ?_⟩
  · rw [World.var?_cell hg0 hv0 i, ← Array.getElem?_toList]
    refine laid_cells Tryd.underlying125 Tryd.underlying113 c1 hd0 (fun j hj => ?_) i hi
    have : ((List.range 8).all fun j => match (Rows.laid_rhyne_sha_first : DataW Unit) with | .agg l => (match l[j]? with | some (.lit (.int .u32 z)) => z == ((shaH j).toNat : Int) | _ => false) | _ => false) = true := by kernel_rfl
    have h2 := List.all_eq_true.1 this j (List.mem_range.2 hj)
    simp only [Rows.laid_rhyne_sha_first] at h2
    split at h2
    · rename_i z hz; rw [hz, eq_of_beq h2]
    · cases h2
  · rw [World.var?_cell hg1 hv1 i, ← Array.getElem?_toList]
    refine laid_cells Tryd.underlying133 Tryd.underlying113 c1 hd1 (fun j hj => ?_) i hi
    have : ((List.range 64).all fun j => match (Rows.laid_rhyne_sha_round : DataW Unit) with | .agg l => (match l[j]? with | some (.lit (.int .u32 z)) => z == ((shaK j).toNat : Int) | _ => false) | _ => false) = true := by kernel_rfl
    have h2 := List.all_eq_true.1 this j (List.mem_range.2 hj)
    simp only [Rows.laid_rhyne_sha_round] at h2
    split at h2
    · rename_i z hz; rw [hz, eq_of_beq h2]
    · cases h2
theorem law_lifted_laid {os : Os} {H : Type} {enc : TypeId × Value → H} {f : FuncId} {fn : Func} {s : ChangeSpec} {conds : List PathCond} {apart handsOn again : Bool} {tb : TypeId}
    (started : os.Started) (noInit : Tryd.prog.inits.idxOf? f = none) (hfn : Tryd.prog.funcs[f]? = some fn)
    (witness : ∃ (w : World) (tape : Tape) (i : Input), w.os = os ∧ (w.forCall tape i).Shaped Tryd.prog ∧ i.vars = [] ∧ Input.okWide Tryd.prog (w.forCall tape i) .any w.heap.size f i ∧
      ((s.pre enc Tryd.prog fn conds apart (w.forCall tape i).memory i.args ∧ laidMetH Tryd.prog laidL (w.forCall tape i).memory) ∧ sizedMet enc Tryd.prog fn (OpenSpec.ofChange s) apart (w.forCall tape i).memory i.args) ∧ ({} : Assume).holds Tryd.prog (lone (Frame.enter Tryd.prog f i.args .normal) [] (w.forCall tape i)))
    (hpar : (fn.params.toList.all fun t => Tryd.prog.readableRec t && decide (t < Tryd.prog.types.size)) = true) (hrt : fn.resultTypes = #[tb]) (hb : Tryd.prog.underlying tb = some .bool) (hv : s.vars = [])
    (hs : ∀ ds : List (DataW H), ds.length = fn.params.toList.length → s.fn H ds = { results := [.lit (.bool true)], args := ds })
    (walk : ∀ (W : World) (base : Nat) (args : Array Value) (ds : List (DataW H)) (p : List MemPlace), Tabs W → (∀ (j : Nat) t v, fn.params[j]? = some t → args[j]? = some v → Value.okWide Tryd.prog W .any base t v) →
      DataW.TrodAll enc Tryd.prog W 0 (fun _ => true) true fn.params.toList args.toList ds p → (∀ (j : Nat) t d, fn.params.toList[j]? = some t → ds[j]? = some d → (d.weights Tryd.prog t).all (· ≤ reachBytes) = true) → Ret Tryd.prog f args W fun v w' => v = BV true ∧ Chg [] W w') :
    ReturnsInHanded {} Tryd.checked os f .any (fun w args => (s.pre enc Tryd.prog fn conds apart w args ∧ laidMetH Tryd.prog laidL w) ∧ sizedMet enc Tryd.prog fn (OpenSpec.ofChange s) apart w args) (s.post enc Tryd.prog fn apart true handsOn again) := by
  refine returnsInHanded_of_change_and (C := Tryd.checked) (X := fun w _ => laidMetH Tryd.prog laidL w) (fun _ _ _ hh h => h.of_heap hh) (by kernel_rfl) started noInit hfn witness ?_
  intro W base args ds gs before hval hW hcnd hwt hL _
  have hW' := hW
  obtain ⟨p, q, hA, hV, _, _, _⟩ := hW'
  have hwt' : ∀ (j : Nat) t d, fn.params.toList[j]? = some t → ds[j]? = some d → (d.weights Tryd.prog t).all (· ≤ reachBytes) = true := fun j t d h1 h2 =>
    weightsEach_at hwt j t d (by rw [List.getElem?_append_left (List.getElem?_eq_some_iff.1 h1).1]; exact h1) (by rw [List.getElem?_append_left (List.getElem?_eq_some_iff.1 h2).1]; exact h2)
  exact (walk W base args ds p (tabs_of_laid hL) hval hA hwt').calls.mono fun e w' ⟨v, he, hv', hc⟩ => ⟨v, he, by subst hv'; exact post_of_true (by kernel_rfl) hpar hrt hb hv hs hW hc⟩

end Go.Proofs.YtmoaddicejohgaaDoor
