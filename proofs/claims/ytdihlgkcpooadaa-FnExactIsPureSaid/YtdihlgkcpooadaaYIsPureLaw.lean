/- The law FnExactIsPure holds of the program, for every input: its plain statement, carried over by the printed contracts; no condition. -/
import Derived.Test.YtdihlgkcpooadaaRows
import Derived.Test.YtdihlgkcpooadaaYIsPureO
import Derived.Test.YtdihlgkcpooadaaYIsPurePure
import Derived.WalkKit
import Derived.ProofKit
import Derived.OpenShut
import Derived.ShutString
import Derived.ChangeOld
import Derived.Below
import Derived.SizedLaws
import Derived.Test.YtdihlgkcpooadaaYIpW4
namespace Go.Proofs.Ytdihlgkcpooadaa.fnExactIsPure
open Go.ChangeShapes Go.WideShapes Go.ChangeAt Go.RowKit Go.Proofs.YtdihlgkcpooadaaG
open Go.ChangeMaps (open_string shut_string)
set_option linter.unusedVariables false
theorem own:ownKnob Try.prog.godebug=none:=by kernel_rfl
theorem laidOut:laidOutB Try.prog=true:=by kernel_rfl
set_option maxRecDepth 100000 in
theorem lifted (os:Os) (started:os.Started) (H:Type) (enc:TypeId×Value→H):
    ReturnsInHanded {} Try.checked os 4 .any (Rows.fnExactIsPureSpec.pre6 enc Try.prog Try.f4 Rows.fnExactIsPureRow.domain false) (Rows.fnExactIsPureSpec.post enc Try.prog Try.f4 false true false false):=by
  refine returnsInHanded_of_change_sized (C := Try.checked) own started (by kernel_rfl) Try.func4
    (ChangeSpec.witness6 (enc:=enc) (C:=Try.checked) false ⟨#[], #[(.slice none 0 0),(.agg #[(.int .i64 0),(.int .i64 0),(.string ⟨#[]⟩),(.slice none 0 0)])],[]⟩ 30 (by kernel_rfl) (by kernel_rfl) (by kernel_rfl) (by kernel_rfl)) ?_
  intro W base args ds gs before hval0 hW hcnd _ _
  have hval:∀(j:Nat) t v,Try.f4.params[j]?=some t→args[j]?=some v→Value.okWide Try.prog W .any base t v:=hval0
  have hW':=hW
  obtain⟨p,q,hA0,hV,rfl,hfz,hnd⟩:=hW
  have hA:DataW.TrodAll enc Try.prog W 0 (fun _=>true) true Try.f4.params.toList args.toList ds p:=hA0
  rw[Try.params4]at hA hval
  obtain⟨v0,vs0,d0,ds0,p0,q0,hargs,rfl,rfl,h0,r0⟩:=trodAll_cons hA
  obtain⟨v1,vs1,d1,ds1,p1,q1,rfl,rfl,rfl,h1,r1⟩:=trodAll_cons r0
  obtain⟨rfl,rfl,rfl⟩:=trodAll_nil r1
  obtain rfl:args= #[v0,v1]:=by cases args;simp_all
  obtain⟨rfl,rfl⟩:=trodVars_none hV
  have k0:=h0
  have lt0:∀x∈p0,x.block<W.heap.size:=by obtain⟨m,hm⟩:=k0;exact DataW.trod_lt m _ _ _ hm
  obtain⟨a0,len0,cap0,rfl⟩:=okWide_slice Try.underlying22 (hval 0 22 v0 rfl rfl)
  obtain⟨fuel0,hf0⟩:=h0
  obtain⟨x0,hK0,hw0⟩:=(opens_slice (n:=fuel0) Try.underlying22 (PFnExactIsPure.cells49.trans rfl) (fun j hj=>(PFnExactIsPure.opens49 j))) H enc W _ _ hf0
  obtain⟨A0,c0,hcs0,hl0,hr0⟩:=hK0
  simp[Value.cells]at hcs0
  obtain⟨rfl,rfl,rfl⟩:=hcs0
  have k1:=h1
  have lt1:∀x∈p1,x.block<W.heap.size:=by obtain⟨m,hm⟩:=k1;exact DataW.trod_lt m _ _ _ hm
  obtain⟨cs1,rfl,_⟩:=okWide_struct Try.underlying31 (hval 1 31 v1 rfl rfl)
  obtain⟨fuel1,hf1⟩:=h1
  obtain⟨x1,hK1,hw1⟩:=PFnExactIsPure.opens31 fuel1 H enc W _ _ hf1
  obtain⟨A1_3,c1_3,hcs1,hl1_3,hr1_3⟩:=PFnExactIsPure.k31_open hK1
  obtain rfl:cs1= #[.int .i64 x1.f0,.int .i64 x1.f1,.string x1.f2,.slice A1_3 x1.f3.length c1_3]:=Array.toList_inj.1 hcs1
  clear hA0 hval0
  obtain⟨k,h⟩:=Pure.FnExactIsPure x0 x1 hw0 hw1
  refine(PFnExactIsPure.laws_FnExactIsPure.calls k _ _ x0 x1.f0 x1.f1 x1.f2 A1_3 c1_3 x1.f3 W hr0 hl0 hr1_3 hl1_3 h).mono fun e W' ⟨he,hd⟩=>?_
  have bel:Below W.heap.size W W':=hd
  subst he
  exact⟨_,rfl,_,_,_,[],_,[],hW',trodAll_mk1 (shut_bool Try.underlying4 _),(trodAll_cons_mk (Below.trod laidOut (by kernel_rfl) (of_decide_eq_true (by kernel_rfl)) k0 bel lt0) (trodAll_cons_mk (Below.trod laidOut (by kernel_rfl) (of_decide_eq_true (by kernel_rfl)) k1 bel lt1) trodAll_mk0)),rfl,bel.frame _,fun h=>by cases h⟩
theorem over:Rows.fnExactIsPureRow.holds Try.pinned (OpenSpec.ofChange Rows.fnExactIsPureSpec):=
  OpenClaim.holds_of_wide 4 Try.f4 rfl rfl rfl rfl rfl rfl rfl ⟨rfl, rfl, rfl, rfl, rfl⟩ rfl rfl rfl rfl rfl (by kernel_rfl) Try.func4 (by kernel_rfl)
    (of_decide_eq_true (by kernel_rfl)) (by unfold Func.isWrapper;first|(rw[if_pos (by decide+kernel)];kernel_rfl)|(rw[if_neg (by decide+kernel)];exact⟨rfl,rfl⟩))
    (fun os started H enc _=>lifted os started H enc)
theorem proved:Rows.FnExactIsPureSaid:=over
#print axioms proved
end Go.Proofs.Ytdihlgkcpooadaa.fnExactIsPure
namespace Go.Proofs.Ytdihlgkcpooadaa
theorem fnExactIsPure_holds:Rows.FnExactIsPureSaid:=fnExactIsPure.proved
end Go.Proofs.Ytdihlgkcpooadaa
