/- The law FnExactEntryOf holds of the program, for every input: its plain statement, carried over by the printed contracts; no condition. -/
import Derived.Test.YtcppdkdnpmgpmaaRows
import Derived.Test.YtcppdkdnpmgpmaaYEntryOfO
import Derived.Test.YtcppdkdnpmgpmaaYEntryOfPure
import Derived.WalkKit
import Derived.ProofKit
import Derived.OpenShut
import Derived.ShutString
import Derived.ChangeOld
import Derived.Below
import Derived.SizedLaws
import Derived.Test.YtcppdkdnpmgpmaaYEoW4
namespace Go.Proofs.Ytcppdkdnpmgpmaa.fnExactEntryOf
open Go.ChangeShapes Go.WideShapes Go.ChangeAt Go.RowKit Go.Proofs.YtcppdkdnpmgpmaaG
open Go.ChangeMaps (open_string shut_string)
set_option linter.unusedVariables false
theorem own:ownKnob Try.prog.godebug=none:=by kernel_rfl
theorem laidOut:laidOutB Try.prog=true:=by kernel_rfl
set_option maxRecDepth 100000 in
theorem lifted (os:Os) (started:os.Started) (H:Type) (enc:TypeId×Value→H):
    ReturnsInHanded {} Try.checked os 3 .any (Rows.fnExactEntryOfSpec.pre6 enc Try.prog Try.f3 Rows.fnExactEntryOfRow.domain false) (Rows.fnExactEntryOfSpec.post enc Try.prog Try.f3 false true false false):=by
  refine returnsInHanded_of_change_sized (C := Try.checked) own started (by kernel_rfl) Try.func3
    (ChangeSpec.witness6 (enc:=enc) (C:=Try.checked) false ⟨#[], #[(.agg #[(.slice none 0 0),(.slice none 0 0)]),(.string ⟨#[]⟩)],[]⟩ 30 (by kernel_rfl) (by kernel_rfl) (by kernel_rfl) (by kernel_rfl)) ?_
  intro W base args ds gs before hval0 hW hcnd _ _
  have hval:∀(j:Nat) t v,Try.f3.params[j]?=some t→args[j]?=some v→Value.okWide Try.prog W .any base t v:=hval0
  have hW':=hW
  obtain⟨p,q,hA0,hV,rfl,hfz,hnd⟩:=hW
  have hA:DataW.TrodAll enc Try.prog W 0 (fun _=>true) true Try.f3.params.toList args.toList ds p:=hA0
  rw[Try.params3]at hA hval
  obtain⟨v0,vs0,d0,ds0,p0,q0,hargs,rfl,rfl,h0,r0⟩:=trodAll_cons hA
  obtain⟨v1,vs1,d1,ds1,p1,q1,rfl,rfl,rfl,h1,r1⟩:=trodAll_cons r0
  obtain⟨rfl,rfl,rfl⟩:=trodAll_nil r1
  obtain rfl:args= #[v0,v1]:=by cases args;simp_all
  obtain⟨rfl,rfl⟩:=trodVars_none hV
  have k0:=h0
  have lt0:∀x∈p0,x.block<W.heap.size:=by obtain⟨m,hm⟩:=k0;exact DataW.trod_lt m _ _ _ hm
  obtain⟨cs0,rfl,_⟩:=okWide_struct Try.underlying25 (hval 0 25 v0 rfl rfl)
  obtain⟨fuel0,hf0⟩:=h0
  obtain⟨x0,hK0,hw0⟩:=PFnExactEntryOf.opens25 fuel0 H enc W _ _ hf0
  obtain⟨A0_0,c0_0,A0_1,c0_1,hcs0,hl0_0,hr0_0,hl0_1,hr0_1⟩:=PFnExactEntryOf.k25_open hK0
  obtain rfl:cs0= #[.slice A0_0 x0.f0.length c0_0,.slice A0_1 x0.f1.length c0_1]:=Array.toList_inj.1 hcs0
  obtain⟨x1,rfl,rfl,rfl,y1⟩:=open_string Try.underlying9 (hval 1 9 v1 rfl rfl) h1
  have hw1:WStr x1:=by unfold WStr;simp only[maxLen]at y1;omega
  clear hA0 hval0
  obtain⟨k,h⟩:=Pure.FnExactEntryOf x0 x1 hw0 hw1
  refine(PFnExactEntryOf.laws_FnExactEntryOf.calls k A0_0 c0_0 x0.f0 A0_1 c0_1 x0.f1 x1 W hr0_0 hl0_0 hr0_1 hl0_1 h).mono fun e W' ⟨he,hd⟩=>?_
  have bel:Below W.heap.size W W':=hd
  subst he
  exact⟨_,rfl,_,_,_,[],_,[],hW',trodAll_mk1 (shut_bool Try.underlying4 _),(trodAll_cons_mk (Below.trod laidOut (by kernel_rfl) (of_decide_eq_true (by kernel_rfl)) k0 bel lt0) (trodAll_cons_mk (shut_string Try.underlying9 y1) trodAll_mk0)),rfl,bel.frame _,fun h=>by cases h⟩
theorem over:Rows.fnExactEntryOfRow.holds Try.pinned (OpenSpec.ofChange Rows.fnExactEntryOfSpec):=
  OpenClaim.holds_of_wide 3 Try.f3 rfl rfl rfl rfl rfl rfl rfl ⟨rfl, rfl, rfl, rfl, rfl⟩ rfl rfl rfl rfl rfl (by kernel_rfl) Try.func3 (by kernel_rfl)
    (of_decide_eq_true (by kernel_rfl)) (by unfold Func.isWrapper;first|(rw[if_pos (by decide+kernel)];kernel_rfl)|(rw[if_neg (by decide+kernel)];exact⟨rfl,rfl⟩))
    (fun os started H enc _=>lifted os started H enc)
theorem proved:Rows.FnExactEntryOfSaid:=over
#print axioms proved
end Go.Proofs.Ytcppdkdnpmgpmaa.fnExactEntryOf
namespace Go.Proofs.Ytcppdkdnpmgpmaa
theorem fnExactEntryOf_holds:Rows.FnExactEntryOfSaid:=fnExactEntryOf.proved
end Go.Proofs.Ytcppdkdnpmgpmaa
