/- Packed: ShakeAgrees, ShakeAgreesCard, as far as shakeWordsCard_holds, shakeAgreesCard_holds needs them. No conditions but those that stand in the statements. -/
import Derived.Test.YtomjbepgbnbgmaaDoorSw5
import Derived.ChangeMaps5
import Derived.Test.YtomjbepgbnbgmaaDoorCards
import Derived.Test.YtomjbepgbnbgmaaDoorTie
import Derived.SevenTiedAt
set_option linter.unusedSimpArgs false
set_option linter.unusedVariables false
set_option maxRecDepth 100000
set_option maxHeartbeats 4000000
namespace Go.Proofs.YtomjbepgbnbgmaaDoor
open Go
open List (getD_cons_zero getD_cons_succ set_cons_zero set_cons_succ)
open Go.ChangeShapes Go.WideShapes Go.RowKit
theorem mV (os:Os) (started:os.Started) (H:Type) (enc:TypeId×Value→H):
    ReturnsInHanded {} Tryd.checked os 4 .any (fun w args=>(Rows.shakeAgreesSpec.pre enc Tryd.prog Tryd.f4 [] false w args∧laidMetH Tryd.prog mU w)∧sizedMet enc Tryd.prog Tryd.f4 (OpenSpec.ofChange Rows.shakeAgreesSpec) false w args) (Rows.shakeAgreesSpec.post enc Tryd.prog Tryd.f4 false true false false):=by
  refine kA started (by kernel_rfl) Tryd.func4
    (ChangeSpec.witness_shaped (enc:=enc) (C:=Tryd.checked) (os:=os) (X:=fun w _=>laidMetH Tryd.prog mU w) false (World.doorLaid Tryd.prog 400 os) #[.agg (eu ⟨fun _=>0,fun _=>0,fun _=>0,⟨#[]⟩,⟨#[]⟩,0,0,0⟩)] 8 rfl (World.shaped_of_RefB (by kernel_rfl) (by kernel_rfl)) (by kernel_rfl) (by kernel_rfl) (by kernel_rfl) (si os _)) (by kernel_rfl) (by kernel_rfl) Tryd.underlying4 rfl
    (fun ds hds=>?_) ?_
  · rw[Tryd.params4]at hds
    match ds,hds with
    |[d0],_=>rfl
  · intro W base args ds p hT hval hA hwt
    have hval':∀(j:Nat) t v,Tryd.f4.params[j]? =some t→args[j]? =some v→Value.okWide Tryd.prog W .any base t v:=hval
    replace hA:DataW.TrodAll enc Tryd.prog W 0 (fun _=>true) true Tryd.f4.params.toList args.toList ds p:=hA
    rw[Tryd.params4]at hA hval' hwt
    obtain⟨v0,vs0,d0,ds0,p0,q0,hargs,rfl,rfl,h0,r0⟩:=ChangeShapes.trodAll_cons hA
    obtain⟨rfl,rfl,rfl⟩:=ChangeShapes.trodAll_nil r0
    obtain rfl:args= #[v0]:=by cases args;simp_all
    obtain⟨x,rfl,hbx,hbs,hba⟩:=qU (hval' 0 24 v0 rfl rfl) h0
    exact mK x W hT.1 hT.2
theorem oz:Rows.ShakeAgreesSaid:=
  OpenClaim.holds_of_wide 4 Tryd.f4 rfl rfl rfl rfl rfl rfl rfl ⟨rfl,rfl,rfl,rfl,rfl⟩ rfl rfl rfl rfl rfl (by kernel_rfl) Tryd.func4 (by kernel_rfl)
    (of_decide_eq_true (by kernel_rfl)) (by unfold Func.isWrapper;(rw[if_neg (by decide+kernel)];exact⟨rfl,rfl⟩))
    (fun os started H enc _=>mV os started H enc)
end Go.Proofs.YtomjbepgbnbgmaaDoor
namespace Go.Proofs.YtomjbepgbnbgmaaDoor
open Go
open List (getD_cons_zero getD_cons_succ set_cons_zero set_cons_succ)
theorem shakeAgreesCard_holds:Rows.ShakeAgreesCardSaid:=
  Claim7.holds_tied_plain_at .later [] [.data,.data,.data,.data] true (true, "bb73425516c348210e61c1eb4af78778f11ddcfcddf4574f2c8c29e3da0b66c6") false
    oz (fun _ h=>by cases h) (by kernel_rfl) (fun _ h=>by cases h) shakeAgrees_row_tie rfl ⟨rfl,rfl⟩ (by kernel_rfl) rfl
    (fun f fn hf hfn => by
      obtain rfl:f=4:=Option.some.inj ((show Tryd.prog.funcNamed "rhyne/rhynelaw15.ShakeAgrees" =some 4 by kernel_rfl).symm.trans hf)|>.symm
      obtain rfl:fn=Tryd.f4:=(Option.some.inj (Tryd.func4.symm.trans hfn)).symm
      exact ⟨by kernel_rfl, fun j t ht => by
        rw[Tryd.params4]at ht;match j,ht with
        |0,ht=>cases ht;exact(show Tryd.prog.wantsStandIn 24=false by kernel_rfl)
        | j + 1, ht => simp at ht⟩)
    (by kernel_rfl)
end Go.Proofs.YtomjbepgbnbgmaaDoor
#print axioms Go.Proofs.YtomjbepgbnbgmaaDoor.shakeAgreesCard_holds
