/- The law FnExactLogicalLines holds of the program, for every input: its plain statement, carried over by the printed contracts; no condition. -/
import Derived.Test.YtjmojijopammjaaDoorCards
import Derived.Test.YtjmojijopammjaaDoorTie
import Derived.Test.YtjmojijopammjaaDoorYLlW4
import Derived.LaidMore
import Derived.SevenTiedAt
import Derived.Stop.Joined
import Derived.LaidHandle
import Derived.MakeChecks
import Derived.Lay
import Derived.LaidOnce
import Derived.Test.YtjmojijopammjaaDoorRows
import Derived.Test.YtjmojijopammjaaDoorYLogicalLinesO
import Derived.Test.YtjmojijopammjaaDoorYLogicalLinesPure
import Derived.WalkKit
import Derived.ProofKit
import Derived.OpenShut
import Derived.ShutString
import Derived.ChangeOld
import Derived.Below
import Derived.SizedLaws
namespace Go.Proofs.YtjmojijopammjaaDoor.fnExactLogicalLines
open Go.ChangeShapes Go.WideShapes Go.ChangeAt Go.RowKit Go.Proofs.YtjmojijopammjaaDoorG
open Go.ChangeMaps (open_string shut_string)
set_option linter.unusedVariables false
theorem own:ownKnob Tryd.prog.godebug=none:=by kernel_rfl
theorem laidOut:laidOutB Tryd.prog=true:=by kernel_rfl
theorem door_met (os:Os) (args:Array Value):laidMetH Tryd.prog Rows.fnExactLogicalLinesRow.laid ((World.laidAll Tryd.prog os Rows.fnExactLogicalLinesRow.laid).forCall (fun _ _=>0) ⟨#[],args,[]⟩).memory:=by
  rw[MakeChecks.laidMetH_plain _ _ _ (by kernel_rfl)];exact laidMet_laidAll _ (by kernel_rfl) (by kernel_rfl)
theorem env_of {W:World} (h:laidMetH Tryd.prog Rows.fnExactLogicalLinesRow.laid W) (hSh:W.ShapedOpen Tryd.prog):EnvT W:=by
  rw[MakeChecks.laidMetH_plain _ _ _ (by kernel_rfl)]at h
  refine⟨len_of hSh⟩
set_option maxRecDepth 100000 in
theorem lifted (os:Os) (started:os.Started) (H:Type) (enc:TypeId×Value→H):
    ReturnsInHanded {} Tryd.checked os 7 .any (fun w args=>(Rows.fnExactLogicalLinesSpec.pre enc Tryd.prog Tryd.f7 [] false w args∧laidMetH Tryd.prog Rows.fnExactLogicalLinesRow.laid w)∧sizedMet enc Tryd.prog Tryd.f7 (OpenSpec.ofChange Rows.fnExactLogicalLinesSpec) false w args) (Rows.fnExactLogicalLinesSpec.post enc Tryd.prog Tryd.f7 false true false false):=by
  refine returnsInHanded_and_shaped (C := Tryd.checked) (X := fun w _ => laidMetH Tryd.prog Rows.fnExactLogicalLinesRow.laid w) (fun _ _ _ hh h => h.of_heap hh) own started (by kernel_rfl) Tryd.func7
    (ChangeSpec.witness_shaped (enc:=enc) (C:=Tryd.checked) (os:=os) (X:=fun w _=>laidMetH Tryd.prog Rows.fnExactLogicalLinesRow.laid w) false (World.laidAll Tryd.prog os Rows.fnExactLogicalLinesRow.laid) #[(.string ⟨#[]⟩)] 30 (World.laidAll_os _ _ _) (World.shaped_of_ZipB (by kernel_rfl) (by kernel_rfl)) (by kernel_rfl) (by kernel_rfl) (by kernel_rfl) (door_met os _)) ?_
  intro W base args ds gs before hval0 hW hcnd _ hL hSh _
  have HT:EnvT W:=env_of hL hSh
  have hval:∀(j:Nat) t v,Tryd.f7.params[j]?=some t→args[j]?=some v→Value.okWide Tryd.prog W .any base t v:=hval0
  have hW':=hW
  obtain⟨p,q,hA0,hV,rfl,hfz,hnd⟩:=hW
  have hA:DataW.TrodAll enc Tryd.prog W 0 (fun _=>true) true Tryd.f7.params.toList args.toList ds p:=hA0
  rw[Tryd.params7]at hA hval
  obtain⟨v0,vs0,d0,ds0,p0,q0,hargs,rfl,rfl,h0,r0⟩:=trodAll_cons hA
  obtain⟨rfl,rfl,rfl⟩:=trodAll_nil r0
  obtain rfl:args= #[v0]:=by cases args;simp_all
  obtain⟨rfl,rfl⟩:=trodVars_none hV
  obtain⟨x0,rfl,rfl,rfl,y0⟩:=open_string Tryd.underlying9 (hval 0 9 v0 rfl rfl) h0
  have hw0:WStr x0:=by unfold WStr;simp only[maxLen]at y0;omega
  clear hA0 hval0
  obtain⟨k,h⟩:=Pure.FnExactLogicalLines x0 hw0
  refine(PFnExactLogicalLines.laws_FnExactLogicalLines.calls k x0 true W h HT).mono fun e W' ⟨he,hd⟩=>?_
  have bel:Below W.heap.size W W':=hd
  subst he
  exact⟨_,rfl,_,_,_,[],_,[],hW',trodAll_mk1 (shut_bool Tryd.underlying4 _),(trodAll_cons_mk (shut_string Tryd.underlying9 y0) trodAll_mk0),rfl,bel.frame _,fun h=>by cases h⟩
theorem over:Rows.fnExactLogicalLinesRow.holds Tryd.pinned (OpenSpec.ofChange Rows.fnExactLogicalLinesSpec):=
  OpenClaim.holds_of_wide 7 Tryd.f7 rfl rfl rfl rfl rfl rfl rfl ⟨rfl, rfl, rfl, rfl, rfl⟩ rfl rfl rfl rfl rfl (by kernel_rfl) Tryd.func7 (by kernel_rfl)
    (of_decide_eq_true (by kernel_rfl)) (by unfold Func.isWrapper;first|(rw[if_pos (by decide+kernel)];kernel_rfl)|(rw[if_neg (by decide+kernel)];exact⟨rfl,rfl⟩))
    (fun os started H enc _=>lifted os started H enc)
theorem proved:Rows.FnExactLogicalLinesCardSaid:=
  Claim7.holds_tied_plain_at .later [] [.data, .pinned] true (true, "009ddd125d77f3f3dc10b01a0c8816e420d40c88390cc2abf873336036509d56") true
    over (fun _ h=>by cases h) (by kernel_rfl) (fun _ h=>by cases h) fnExactLogicalLines_row_tie rfl ⟨rfl,rfl⟩ (by kernel_rfl) rfl
    (fun f fn hf hfn=>by
      obtain rfl:f=7:=Option.some.inj ((show Tryd.prog.funcNamed "loop.example/g00873/laws.FnExactLogicalLines" =some 7 by kernel_rfl).symm.trans hf)|>.symm
      obtain rfl:fn=Tryd.f7:=(Option.some.inj (Tryd.func7.symm.trans hfn)).symm
      exact⟨by kernel_rfl,fun j t ht=>by
        rw[Tryd.params7]at ht
        have hm:t∈[9]:=by simpa using Array.mem_of_getElem? ht
        have hall:([9].all fun u=> !Tryd.prog.wantsStandIn u)=true:=by kernel_rfl
        exact(show Tryd.prog.wantsStandIn t=false by simpa using List.all_eq_true.1 hall t hm)⟩)
    (by kernel_rfl)
#print axioms proved
end Go.Proofs.YtjmojijopammjaaDoor.fnExactLogicalLines
namespace Go.Proofs.YtjmojijopammjaaDoor
theorem fnExactLogicalLines_holds:Rows.FnExactLogicalLinesCardSaid:=fnExactLogicalLines.proved
end Go.Proofs.YtjmojijopammjaaDoor
