/- The law FnExactTraceText holds of the program, for every input: its plain statement, carried over by the printed contracts; no condition. -/
import Derived.Test.YtjmojijopammjaaDoorCards
import Derived.Test.YtjmojijopammjaaDoorTie
import Derived.Test.YtjmojijopammjaaDoorYCtW4
import Derived.LaidMore
import Derived.SevenTiedAt
import Derived.Stop.Joined
import Derived.LaidHandle
import Derived.MakeChecks
import Derived.Lay
import Derived.LaidOnce
import Derived.Test.YtjmojijopammjaaDoorRows
import Derived.Test.YtjmojijopammjaaDoorYTraceTextO
import Derived.Test.YtjmojijopammjaaDoorYTraceTextPure
import Derived.WalkKit
import Derived.ProofKit
import Derived.OpenShut
import Derived.ShutString
import Derived.ChangeOld
import Derived.Below
import Derived.SizedLaws
namespace Go.Proofs.YtjmojijopammjaaDoor.fnExactTraceText
open Go.ChangeShapes Go.WideShapes Go.ChangeAt Go.RowKit Go.Proofs.YtjmojijopammjaaDoorG
open Go.ChangeMaps (open_string shut_string)
set_option linter.unusedVariables false
theorem own:ownKnob Tryd.prog.godebug=none:=by kernel_rfl
theorem laidOut:laidOutB Tryd.prog=true:=by kernel_rfl
theorem door_met (os:Os) (args:Array Value):laidMetH Tryd.prog Rows.fnExactTraceTextRow.laid ((World.laidAll Tryd.prog os Rows.fnExactTraceTextRow.laid).forCall (fun _ _=>0) ⟨#[],args,[]⟩).memory:=by
  rw[MakeChecks.laidMetH_plain _ _ _ (by kernel_rfl)];exact laidMet_laidAll _ (by kernel_rfl) (by kernel_rfl)
theorem env_of {W:World} (h:laidMetH Tryd.prog Rows.fnExactTraceTextRow.laid W) (hSh:W.ShapedOpen Tryd.prog):EnvT W:=by
  rw[MakeChecks.laidMetH_plain _ _ _ (by kernel_rfl)]at h
  obtain⟨_,⟨_,_,_,_,_,_,_,_,_,_,⟨_,_,_,_,_,_,_,_,_,_,⟨g,t,cs,_,_,_,hg,ht,hv,hd,_⟩,_⟩,_⟩,_⟩:=h
  obtain rfl:=Option.some.inj (envG.symm.trans hg)
  obtain rfl:=Option.some.inj ((show(Tryd.prog.globals[3]?).map (·.type)=some 163 by kernel_rfl).symm.trans ht)
  refine⟨?_,len_of hSh⟩
  unfold Lib.TabIs
  rw[hv, ←Lib.cells_of_tab (n:=20) (zs:=Lib.pow10Tab) (k:= .u64) (show Tryd.prog.underlying 163=some (.array 20 82) by kernel_rfl) (show Tryd.prog.underlying 82=some (.int .u64) by kernel_rfl) (by kernel_rfl) (by kernel_rfl) hd]
set_option maxRecDepth 100000 in
theorem lifted (os:Os) (started:os.Started) (H:Type) (enc:TypeId×Value→H):
    ReturnsInHanded {} Tryd.checked os 5 .any (fun w args=>(Rows.fnExactTraceTextSpec.pre enc Tryd.prog Tryd.f5 [] false w args∧laidMetH Tryd.prog Rows.fnExactTraceTextRow.laid w)∧sizedMet enc Tryd.prog Tryd.f5 (OpenSpec.ofChange Rows.fnExactTraceTextSpec) false w args) (Rows.fnExactTraceTextSpec.post enc Tryd.prog Tryd.f5 false true false false):=by
  refine returnsInHanded_and_shaped (C := Tryd.checked) (X := fun w _ => laidMetH Tryd.prog Rows.fnExactTraceTextRow.laid w) (fun _ _ _ hh h => h.of_heap hh) own started (by kernel_rfl) Tryd.func5
    (ChangeSpec.witness_shaped (enc:=enc) (C:=Tryd.checked) (os:=os) (X:=fun w _=>laidMetH Tryd.prog Rows.fnExactTraceTextRow.laid w) false (World.laidAll Tryd.prog os Rows.fnExactTraceTextRow.laid) #[(.int .i64 0),(.int .i64 0),(.string ⟨#[]⟩),(.agg #[(.int .i64 0),(.int .i64 0),(.string ⟨#[]⟩),(.int .i64 0)])] 30 (World.laidAll_os _ _ _) (World.shaped_of_ZipB (by kernel_rfl) (by kernel_rfl)) (by kernel_rfl) (by kernel_rfl) (by kernel_rfl) (door_met os _)) ?_
  intro W base args ds gs before hval0 hW hcnd _ hL hSh _
  have HT:EnvT W:=env_of hL hSh
  have hval:∀(j:Nat) t v,Tryd.f5.params[j]?=some t→args[j]?=some v→Value.okWide Tryd.prog W .any base t v:=hval0
  have hW':=hW
  obtain⟨p,q,hA0,hV,rfl,hfz,hnd⟩:=hW
  have hA:DataW.TrodAll enc Tryd.prog W 0 (fun _=>true) true Tryd.f5.params.toList args.toList ds p:=hA0
  rw[Tryd.params5]at hA hval
  obtain⟨v0,vs0,d0,ds0,p0,q0,hargs,rfl,rfl,h0,r0⟩:=trodAll_cons hA
  obtain⟨v1,vs1,d1,ds1,p1,q1,rfl,rfl,rfl,h1,r1⟩:=trodAll_cons r0
  obtain⟨v2,vs2,d2,ds2,p2,q2,rfl,rfl,rfl,h2,r2⟩:=trodAll_cons r1
  obtain⟨v3,vs3,d3,ds3,p3,q3,rfl,rfl,rfl,h3,r3⟩:=trodAll_cons r2
  obtain⟨rfl,rfl,rfl⟩:=trodAll_nil r3
  obtain rfl:args= #[v0,v1,v2,v3]:=by cases args;simp_all
  obtain⟨rfl,rfl⟩:=trodVars_none hV
  obtain⟨x0,rfl,rfl,rfl,hw0⟩:=open_int Tryd.underlying2 (hval 0 2 v0 rfl rfl) h0
  obtain⟨x1,rfl,rfl,rfl,hw1⟩:=open_int Tryd.underlying2 (hval 1 2 v1 rfl rfl) h1
  obtain⟨x2,rfl,rfl,rfl,y2⟩:=open_string Tryd.underlying9 (hval 2 9 v2 rfl rfl) h2
  have hw2:WStr x2:=by unfold WStr;simp only[maxLen]at y2;omega
  have k3:=h3
  have lt3:∀x∈p3,x.block<W.heap.size:=by obtain⟨m,hm⟩:=k3;exact DataW.trod_lt m _ _ _ hm
  obtain⟨cs3,rfl,_⟩:=okWide_struct Tryd.underlying37 (hval 3 37 v3 rfl rfl)
  obtain⟨fuel3,hf3⟩:=h3
  obtain⟨x3,hK3,hw3⟩:=PFnExactCaptureText.opens37 fuel3 H enc W _ _ hf3
  obtain hcs3:=PFnExactCaptureText.k37_open hK3
  obtain rfl:cs3= #[.int .i64 x3.f0,.int .i64 x3.f1,.string x3.f2,.int .i64 x3.f3]:=Array.toList_inj.1 hcs3
  clear hA0 hval0
  obtain⟨k,h⟩:=Pure.FnExactTraceText x0 x1 x2 x3 hw0 hw1 hw2 hw3
  refine(PFnExactCaptureText.laws_FnExactTraceText.calls k x0 x1 x2 x3.f0 x3.f1 x3.f2 x3.f3 W h HT).mono fun e W' ⟨he,hd⟩=>?_
  have bel:Below W.heap.size W W':=hd
  subst he
  exact⟨_,rfl,_,_,_,[],_,[],hW',trodAll_mk1 (shut_bool Tryd.underlying4 _),(trodAll_cons_mk (shut_int Tryd.underlying2 hw0) (trodAll_cons_mk (shut_int Tryd.underlying2 hw1) (trodAll_cons_mk (shut_string Tryd.underlying9 y2) (trodAll_cons_mk (Below.trod laidOut (by kernel_rfl) (of_decide_eq_true (by kernel_rfl)) k3 bel lt3) trodAll_mk0)))),rfl,bel.frame _,fun h=>by cases h⟩
theorem over:Rows.fnExactTraceTextRow.holds Tryd.pinned (OpenSpec.ofChange Rows.fnExactTraceTextSpec):=
  OpenClaim.holds_of_wide 5 Tryd.f5 rfl rfl rfl rfl rfl rfl rfl ⟨rfl, rfl, rfl, rfl, rfl⟩ rfl rfl rfl rfl rfl (by kernel_rfl) Tryd.func5 (by kernel_rfl)
    (of_decide_eq_true (by kernel_rfl)) (by unfold Func.isWrapper;first|(rw[if_pos (by decide+kernel)];kernel_rfl)|(rw[if_neg (by decide+kernel)];exact⟨rfl,rfl⟩))
    (fun os started H enc _=>lifted os started H enc)
theorem proved:Rows.FnExactTraceTextCardSaid:=
  Claim7.holds_tied_plain_at .later [] [.data, .data, .data, .data, .pinned] true (true, "009ddd125d77f3f3dc10b01a0c8816e420d40c88390cc2abf873336036509d56") true
    over (fun _ h=>by cases h) (by kernel_rfl) (fun _ h=>by cases h) fnExactTraceText_row_tie rfl ⟨rfl,rfl⟩ (by kernel_rfl) rfl
    (fun f fn hf hfn=>by
      obtain rfl:f=5:=Option.some.inj ((show Tryd.prog.funcNamed "loop.example/g00873/laws.FnExactTraceText" =some 5 by kernel_rfl).symm.trans hf)|>.symm
      obtain rfl:fn=Tryd.f5:=(Option.some.inj (Tryd.func5.symm.trans hfn)).symm
      exact⟨by kernel_rfl,fun j t ht=>by
        rw[Tryd.params5]at ht
        have hm:t∈[2,2,9,37]:=by simpa using Array.mem_of_getElem? ht
        have hall:([2,2,9,37].all fun u=> !Tryd.prog.wantsStandIn u)=true:=by kernel_rfl
        exact(show Tryd.prog.wantsStandIn t=false by simpa using List.all_eq_true.1 hall t hm)⟩)
    (by kernel_rfl)
#print axioms proved
end Go.Proofs.YtjmojijopammjaaDoor.fnExactTraceText
namespace Go.Proofs.YtjmojijopammjaaDoor
theorem fnExactTraceText_holds:Rows.FnExactTraceTextCardSaid:=fnExactTraceText.proved
end Go.Proofs.YtjmojijopammjaaDoor
