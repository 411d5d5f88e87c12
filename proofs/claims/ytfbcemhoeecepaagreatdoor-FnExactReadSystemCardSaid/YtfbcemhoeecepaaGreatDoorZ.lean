/- FnExactReadSystem, called with any text, returns true: fnExactReadSystem_card. -/
import Derived.Test.YtfbcemhoeecepaaGreatDoorY
import Derived.Test.YtfbcemhoeecepaaGreatDoorRows
import Derived.Test.YtfbcemhoeecepaaGreatDoorTie
import Derived.Test.YtfbcemhoeecepaaGreatDoorCards
import Derived.ProofKit
import Derived.LaidMore
import Derived.LaidLaws
import Derived.LaidHandle
import Derived.LaidSub
import Derived.OpenShut
import Derived.OpenVars
import Derived.SevenTiedAt
import Derived.Stop.Joined
import Derived.Stop.LaidErr
import Derived.Lib.LaidTab
import Derived.Lib.LaidU8
set_option linter.all false
set_option maxRecDepth 100000
set_option maxHeartbeats 4000000
namespace Go.Proofs.YtfbcemhoeecepaaGreatDoor
open Go Go.ChangeShapes Go.WideShapes Go.ChangeAt Go.RowKit Go.ChangeMaps
set_option maxRecDepth 100000 in
theorem lifted (os:Os) (started:os.Started) (H:Type) (enc:TypeId×Value→H) :
    ReturnsInHanded {} Tryz.checked os 3 .any (fun w args=>(Rows.fnExactReadSystemSpec.pre enc Tryz.prog Tryz.f3 [] false w args∧laidMetH Tryz.prog lst w)∧sizedMet enc Tryz.prog Tryz.f3 (OpenSpec.ofChange Rows.fnExactReadSystemSpec) false w args)
      (Rows.fnExactReadSystemSpec.post enc Tryz.prog Tryz.f3 false true false false):=by
  refine returnsInHanded_of_change_and (C:=Tryz.checked) (X:=fun w _=>laidMetH Tryz.prog lst w) (fun _ _ _ hh h=>h.of_heap hh) own started (by kernel_rfl) Tryz.func3
    (ChangeSpec.witness_shaped (enc:=enc) (C:=Tryz.checked) (os:=os) (X:=fun w _=>laidMetH Tryz.prog lst w) false (World.doorLaid Tryz.prog 400 os) #[.string ⟨#[]⟩] 8 rfl (World.shaped_of_RefB (by kernel_rfl) (by kernel_rfl)) (by kernel_rfl) (by kernel_rfl) (by kernel_rfl)
      (laidMetH_of_parts3 (fuel:=8) (laidMet_of_run' 8 (by kernel_rfl) (by kernel_rfl)) (by kernel_rfl) (by kernel_rfl))) ?_
  intro W base args ds gs before hval0 hW _ _ hL _
  have hval:∀ (j:Nat) t v,Tryz.f3.params[j]?=some t→args[j]?=some v→Value.okWide Tryz.prog W .any base t v:=hval0
  have hW':=hW
  obtain ⟨p,q,hA0,hV0,rfl,hfz,hnd⟩:=hW
  have hA:DataW.TrodAll enc Tryz.prog W 0 (fun _=>true) true Tryz.f3.params.toList args.toList ds p:=hA0
  have hV:DataW.TrodVars enc Tryz.prog W (fun _=>true) ["loop.example/g01081/impl.errWhole"] gs q:=hV0
  rw [Tryz.params3] at hA hval
  obtain ⟨v0,d0,rfl,rfl,h0⟩:=trodAll_one hA
  obtain ⟨s,rfl,rfl,rfl,hz⟩:=open_string Tryz.underlying9 (hval 0 9 v0 rfl rfl) h0
  have hg:∃ g,gs=[g]:=by
    match gs,hV with
    | [g],_=>exact ⟨g,rfl⟩
    | g::g'::r,hV=>obtain ⟨_,_,_,_,_,_,_,_,_,_,h,_⟩:=hV;exact h.elim
  obtain ⟨g,rfl⟩:=hg
  refine (law_calls hL s).mono fun e W' ⟨he,hb⟩=>?_
  subst he
  have e1:Rows.fnExactReadSystemSpec.fn H ([.lit (.string s.data.toList)]++[g])={results:=[.lit (.bool true)],args:=[.lit (.string s.data.toList)],vars:=[g]}:=rfl
  refine ⟨_,rfl,_,_,_,[],[],q,hW',?_,?_,?_,hb.frame _,fun h=>by cases h⟩
  · rw [e1];exact trodAll_mk1 (shut_bool Tryz.underlying4 true)
  · rw [e1];exact trodAll_mk1 (shut_string Tryz.underlying9 hz)
  · rw [e1];exact Below.trodVars laidOut hb (by kernel_rfl) hV
theorem fnExactReadSystem_said:Rows.FnExactReadSystemSaid:=
  OpenClaim.holds_of_wide 3 Tryz.f3 rfl rfl rfl rfl rfl rfl rfl ⟨rfl,rfl,rfl,rfl,rfl⟩ rfl rfl rfl rfl rfl (by kernel_rfl) Tryz.func3 (by kernel_rfl)
    (of_decide_eq_true (by kernel_rfl)) (by unfold Func.isWrapper;rw [if_neg (of_decide_eq_false (by kernel_rfl))];exact ⟨rfl,rfl⟩)
    (fun os started H enc _=>lifted os started H enc)
theorem fnExactReadSystem_card:Rows.FnExactReadSystemCardSaid:=
  Claim7.holds_tied_plain_at .later [] [.data,.data,.data,.handle,.sentinel,.sentinel,.sentinel] true (true, "78521e6bcdeb6d60e02d03569e8e608b9cfa2fe02ceb8573687d81ff309101aa") true
    fnExactReadSystem_said (fun _ h=>by cases h) (by kernel_rfl) (fun _ h=>by cases h) fnExactReadSystem_row_tie rfl ⟨rfl,rfl⟩ (by kernel_rfl) rfl
    (fun f fn hf hfn=>by
      obtain rfl:f=3:=Option.some.inj ((show Tryz.prog.funcNamed "loop.example/g01081/laws.FnExactReadSystem" = some 3 by kernel_rfl).symm.trans hf) |>.symm
      obtain rfl:fn=Tryz.f3:=(Option.some.inj (Tryz.func3.symm.trans hfn)).symm
      exact ⟨by kernel_rfl,fun j t ht=>by
        rw [Tryz.params3] at ht
        have hm:t∈[9]:=by simpa using Array.mem_of_getElem? ht
        have hall:([9].all fun u=>!Tryz.prog.wantsStandIn u)=true:=by kernel_rfl
        exact (show Tryz.prog.wantsStandIn t=false by simpa using List.all_eq_true.1 hall t hm)⟩)
    (by kernel_rfl)
end Go.Proofs.YtfbcemhoeecepaaGreatDoor
#print axioms Go.Proofs.YtfbcemhoeecepaaGreatDoor.fnExactReadSystem_card
