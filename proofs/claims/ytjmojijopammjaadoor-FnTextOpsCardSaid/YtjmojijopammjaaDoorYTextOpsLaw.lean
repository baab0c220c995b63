/- The law FnTextOps holds of the program, for every input: its plain statement, carried over by the printed contracts; no condition. -/
import Derived.Test.YtjmojijopammjaaDoorCards
import Derived.Test.YtjmojijopammjaaDoorTie
import Derived.Test.YtjmojijopammjaaDoorYToW4
import Derived.LaidMore
import Derived.SevenTiedAt
import Derived.Stop.Joined
import Derived.LaidHandle
import Derived.MakeChecks
import Derived.Lay
import Derived.LaidOnce
import Derived.Test.YtjmojijopammjaaDoorRows
import Derived.Test.YtjmojijopammjaaDoorYTextOpsO
import Derived.Test.YtjmojijopammjaaDoorYTextOpsPure
import Derived.WalkKit
import Derived.ProofKit
import Derived.OpenShut
import Derived.ShutString
import Derived.ChangeOld
import Derived.Below
import Derived.SizedLaws
namespace Go.Proofs.YtjmojijopammjaaDoor.fnTextOps
open Go.ChangeShapes Go.WideShapes Go.ChangeAt Go.RowKit Go.Proofs.YtjmojijopammjaaDoorG
open Go.ChangeMaps (open_string shut_string)
set_option linter.unusedVariables false
theorem own:ownKnob Tryd.prog.godebug=none:=by kernel_rfl
theorem laidOut:laidOutB Tryd.prog=true:=by kernel_rfl
theorem door_met (os:Os) (args:Array Value):laidMetH Tryd.prog Rows.fnTextOpsRow.laid ((World.laidAll Tryd.prog os Rows.fnTextOpsRow.laid).forCall (fun _ _=>0) ⟨#[],args,[]⟩).memory:=by
  rw[MakeChecks.laidMetH_plain _ _ _ (by kernel_rfl)];exact laidMet_laidAll _ (by kernel_rfl) (by kernel_rfl)
set_option maxRecDepth 100000 in
theorem lifted (os:Os) (started:os.Started) (H:Type) (enc:TypeId×Value→H):
    ReturnsInHanded {} Tryd.checked os 8 .any (fun w args=>(Rows.fnTextOpsSpec.pre enc Tryd.prog Tryd.f8 [] false w args∧laidMetH Tryd.prog Rows.fnTextOpsRow.laid w)∧sizedMet enc Tryd.prog Tryd.f8 (OpenSpec.ofChange Rows.fnTextOpsSpec) false w args) (Rows.fnTextOpsSpec.post enc Tryd.prog Tryd.f8 false true false false):=by
  refine returnsInHanded_and_shaped (C := Tryd.checked) (X := fun w _ => laidMetH Tryd.prog Rows.fnTextOpsRow.laid w) (fun _ _ _ hh h => h.of_heap hh) own started (by kernel_rfl) Tryd.func8
    (ChangeSpec.witness_shaped (enc:=enc) (C:=Tryd.checked) (os:=os) (X:=fun w _=>laidMetH Tryd.prog Rows.fnTextOpsRow.laid w) false (World.laidAll Tryd.prog os Rows.fnTextOpsRow.laid) #[(.slice none 0 0)] 30 (World.laidAll_os _ _ _) (World.shaped_of_ZipB (by kernel_rfl) (by kernel_rfl)) (by kernel_rfl) (by kernel_rfl) (by kernel_rfl) (door_met os _)) ?_
  intro W base args ds gs before hval0 hW hcnd _ hL hSh _
  have _:=hSh
  have hval:∀(j:Nat) t v,Tryd.f8.params[j]?=some t→args[j]?=some v→Value.okWide Tryd.prog W .any base t v:=hval0
  have hW':=hW
  obtain⟨p,q,hA0,hV,rfl,hfz,hnd⟩:=hW
  have hA:DataW.TrodAll enc Tryd.prog W 0 (fun _=>true) true Tryd.f8.params.toList args.toList ds p:=hA0
  rw[Tryd.params8]at hA hval
  obtain⟨v0,vs0,d0,ds0,p0,q0,hargs,rfl,rfl,h0,r0⟩:=trodAll_cons hA
  obtain⟨rfl,rfl,rfl⟩:=trodAll_nil r0
  obtain rfl:args= #[v0]:=by cases args;simp_all
  obtain⟨rfl,rfl⟩:=trodVars_none hV
  have k0:=h0
  have lt0:∀x∈p0,x.block<W.heap.size:=by obtain⟨m,hm⟩:=k0;exact DataW.trod_lt m _ _ _ hm
  obtain⟨a0,len0,cap0,rfl⟩:=okWide_slice Tryd.underlying51 (hval 0 51 v0 rfl rfl)
  obtain⟨fuel0,hf0⟩:=h0
  obtain⟨x0,hK0,hw0⟩:=(opens_slice (n:=fuel0) Tryd.underlying51 (PFnTextOps.cells5.trans rfl) (fun j hj=>(opens_int Tryd.underlying5))) H enc W _ _ hf0
  obtain⟨A0,c0,hcs0,hl0,hr0⟩:=hK0
  simp[Value.cells]at hcs0
  obtain⟨rfl,rfl,rfl⟩:=hcs0
  clear hA0 hval0
  obtain⟨k,h⟩:=Pure.FnTextOps x0 hw0
  refine(PFnTextOps.laws_FnTextOps.calls k _ _ x0 true W hr0 hl0 h).mono fun e W' ⟨he,hd⟩=>?_
  have bel:Below W.heap.size W W':=hd
  subst he
  exact⟨_,rfl,_,_,_,[],_,[],hW',trodAll_mk1 (shut_bool Tryd.underlying4 _),(trodAll_cons_mk (Below.trod laidOut (by kernel_rfl) (of_decide_eq_true (by kernel_rfl)) k0 bel lt0) trodAll_mk0),rfl,bel.frame _,fun h=>by cases h⟩
theorem over:Rows.fnTextOpsRow.holds Tryd.pinned (OpenSpec.ofChange Rows.fnTextOpsSpec):=
  OpenClaim.holds_of_wide 8 Tryd.f8 rfl rfl rfl rfl rfl rfl rfl ⟨rfl, rfl, rfl, rfl, rfl⟩ rfl rfl rfl rfl rfl (by kernel_rfl) Tryd.func8 (by kernel_rfl)
    (of_decide_eq_true (by kernel_rfl)) (by unfold Func.isWrapper;first|(rw[if_pos (by decide+kernel)];kernel_rfl)|(rw[if_neg (by decide+kernel)];exact⟨rfl,rfl⟩))
    (fun os started H enc _=>lifted os started H enc)
theorem proved:Rows.FnTextOpsCardSaid:=
  Claim7.holds_tied_plain_at .later [] [.data, .pinned] true (true, "009ddd125d77f3f3dc10b01a0c8816e420d40c88390cc2abf873336036509d56") true
    over (fun _ h=>by cases h) (by kernel_rfl) (fun _ h=>by cases h) fnTextOps_row_tie rfl ⟨rfl,rfl⟩ (by kernel_rfl) rfl
    (fun f fn hf hfn=>by
      obtain rfl:f=8:=Option.some.inj ((show Tryd.prog.funcNamed "loop.example/g00873/laws.FnTextOps" =some 8 by kernel_rfl).symm.trans hf)|>.symm
      obtain rfl:fn=Tryd.f8:=(Option.some.inj (Tryd.func8.symm.trans hfn)).symm
      exact⟨by kernel_rfl,fun j t ht=>by
        rw[Tryd.params8]at ht
        have hm:t∈[51]:=by simpa using Array.mem_of_getElem? ht
        have hall:([51].all fun u=> !Tryd.prog.wantsStandIn u)=true:=by kernel_rfl
        exact(show Tryd.prog.wantsStandIn t=false by simpa using List.all_eq_true.1 hall t hm)⟩)
    (by kernel_rfl)
#print axioms proved
end Go.Proofs.YtjmojijopammjaaDoor.fnTextOps
namespace Go.Proofs.YtjmojijopammjaaDoor
theorem fnTextOps_holds:Rows.FnTextOpsCardSaid:=fnTextOps.proved
end Go.Proofs.YtjmojijopammjaaDoor
