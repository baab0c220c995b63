/- The law FnExactSameShape holds of the program, for every input: its plain statement, carried over by the printed contracts; no condition. -/
import Derived.Test.YtpdljgieaaicpaaRows
import Derived.Test.YtpdljgieaaicpaaYSameShapeO
import Derived.Test.YtpdljgieaaicpaaYSameShapePure
import Derived.WalkKit
import Derived.ProofKit
import Derived.OpenShut
import Derived.ShutString
import Derived.ChangeOld
import Derived.Below
import Derived.SizedLaws
import Derived.Test.YtpdljgieaaicpaaYLsW4
namespace Go.Proofs.Ytpdljgieaaicpaa.fnExactSameShape
open Go.ChangeShapes Go.WideShapes Go.ChangeAt Go.RowKit Go.Proofs.YtpdljgieaaicpaaG
open Go.ChangeMaps (open_string shut_string)
set_option linter.unusedVariables false
theorem own:ownKnob Try.prog.godebug=none:=by kernel_rfl
theorem laidOut:laidOutB Try.prog=true:=by kernel_rfl
set_option maxRecDepth 100000 in
theorem lifted (os:Os) (started:os.Started) (H:Type) (enc:TypeId×Value→H):
    ReturnsInHanded {} Try.checked os 6 .any (Rows.fnExactSameShapeSpec.pre6 enc Try.prog Try.f6 Rows.fnExactSameShapeRow.domain false) (Rows.fnExactSameShapeSpec.post enc Try.prog Try.f6 false true false false):=by
  refine returnsInHanded_of_change_sized (C := Try.checked) own started (by kernel_rfl) Try.func6
    (ChangeSpec.witness6 (enc:=enc) (C:=Try.checked) false ⟨#[], #[(.agg #[(.int .i64 0),(.slice none 0 0)]),(.slice none 0 0),(.agg #[(.int .i64 0),(.slice none 0 0)]),(.slice none 0 0)],[]⟩ 30 (by kernel_rfl) (by kernel_rfl) (by kernel_rfl) (by kernel_rfl)) ?_
  intro W base args ds gs before hval0 hW hcnd _ _
  have hval:∀(j:Nat) t v,Try.f6.params[j]?=some t→args[j]?=some v→Value.okWide Try.prog W .any base t v:=hval0
  have hW':=hW
  obtain⟨p,q,hA0,hV,rfl,hfz,hnd⟩:=hW
  have hA:DataW.TrodAll enc Try.prog W 0 (fun _=>true) true Try.f6.params.toList args.toList ds p:=hA0
  rw[Try.params6]at hA hval
  obtain⟨v0,vs0,d0,ds0,p0,q0,hargs,rfl,rfl,h0,r0⟩:=trodAll_cons hA
  obtain⟨v1,vs1,d1,ds1,p1,q1,rfl,rfl,rfl,h1,r1⟩:=trodAll_cons r0
  obtain⟨v2,vs2,d2,ds2,p2,q2,rfl,rfl,rfl,h2,r2⟩:=trodAll_cons r1
  obtain⟨v3,vs3,d3,ds3,p3,q3,rfl,rfl,rfl,h3,r3⟩:=trodAll_cons r2
  obtain⟨rfl,rfl,rfl⟩:=trodAll_nil r3
  obtain rfl:args= #[v0,v1,v2,v3]:=by cases args;simp_all
  obtain⟨rfl,rfl⟩:=trodVars_none hV
  have k0:=h0
  have lt0:∀x∈p0,x.block<W.heap.size:=by obtain⟨m,hm⟩:=k0;exact DataW.trod_lt m _ _ _ hm
  obtain⟨cs0,rfl,_⟩:=okWide_struct Try.underlying24 (hval 0 24 v0 rfl rfl)
  obtain⟨fuel0,hf0⟩:=h0
  obtain⟨x0,hK0,hw0⟩:=PFnExactLiveSize.opens24 fuel0 H enc W _ _ hf0
  obtain⟨A0_1,c0_1,hcs0,hl0_1,hr0_1⟩:=PFnExactLiveSize.k24_open hK0
  obtain rfl:cs0= #[.int .i64 x0.f0,.slice A0_1 x0.f1.length c0_1]:=Array.toList_inj.1 hcs0
  have k1:=h1
  have lt1:∀x∈p1,x.block<W.heap.size:=by obtain⟨m,hm⟩:=k1;exact DataW.trod_lt m _ _ _ hm
  obtain⟨a1,len1,cap1,rfl⟩:=okWide_slice Try.underlying25 (hval 1 25 v1 rfl rfl)
  obtain⟨fuel1,hf1⟩:=h1
  obtain⟨x1,hK1,hw1⟩:=(opens_slice (n:=fuel1) Try.underlying25 (PFnExactLiveSize.cells57.trans rfl) (fun j hj=>(PFnExactLiveSize.opens57 j))) H enc W _ _ hf1
  obtain⟨A1,c1,hcs1,hl1,hr1⟩:=hK1
  simp[Value.cells]at hcs1
  obtain⟨rfl,rfl,rfl⟩:=hcs1
  have k2:=h2
  have lt2:∀x∈p2,x.block<W.heap.size:=by obtain⟨m,hm⟩:=k2;exact DataW.trod_lt m _ _ _ hm
  obtain⟨cs2,rfl,_⟩:=okWide_struct Try.underlying24 (hval 2 24 v2 rfl rfl)
  obtain⟨fuel2,hf2⟩:=h2
  obtain⟨x2,hK2,hw2⟩:=PFnExactLiveSize.opens24 fuel2 H enc W _ _ hf2
  obtain⟨A2_1,c2_1,hcs2,hl2_1,hr2_1⟩:=PFnExactLiveSize.k24_open hK2
  obtain rfl:cs2= #[.int .i64 x2.f0,.slice A2_1 x2.f1.length c2_1]:=Array.toList_inj.1 hcs2
  have k3:=h3
  have lt3:∀x∈p3,x.block<W.heap.size:=by obtain⟨m,hm⟩:=k3;exact DataW.trod_lt m _ _ _ hm
  obtain⟨a3,len3,cap3,rfl⟩:=okWide_slice Try.underlying25 (hval 3 25 v3 rfl rfl)
  obtain⟨fuel3,hf3⟩:=h3
  obtain⟨x3,hK3,hw3⟩:=(opens_slice (n:=fuel3) Try.underlying25 (PFnExactLiveSize.cells57.trans rfl) (fun j hj=>(PFnExactLiveSize.opens57 j))) H enc W _ _ hf3
  obtain⟨A3,c3,hcs3,hl3,hr3⟩:=hK3
  simp[Value.cells]at hcs3
  obtain⟨rfl,rfl,rfl⟩:=hcs3
  clear hA0 hval0
  obtain⟨k,h⟩:=Pure.FnExactSameShape x0 x1 x2 x3 hw0 hw1 hw2 hw3
  refine(PFnExactLiveSize.laws_FnExactSameShape.calls k x0.f0 A0_1 c0_1 x0.f1 _ _ x1 x2.f0 A2_1 c2_1 x2.f1 _ _ x3 W hr0_1 hl0_1 hr1 hl1 hr2_1 hl2_1 hr3 hl3 h).mono fun e W' ⟨he,hd⟩=>?_
  have bel:Below W.heap.size W W':=hd
  subst he
  exact⟨_,rfl,_,_,_,[],_,[],hW',trodAll_mk1 (shut_bool Try.underlying4 _),(trodAll_cons_mk (Below.trod laidOut (by kernel_rfl) (of_decide_eq_true (by kernel_rfl)) k0 bel lt0) (trodAll_cons_mk (Below.trod laidOut (by kernel_rfl) (of_decide_eq_true (by kernel_rfl)) k1 bel lt1) (trodAll_cons_mk (Below.trod laidOut (by kernel_rfl) (of_decide_eq_true (by kernel_rfl)) k2 bel lt2) (trodAll_cons_mk (Below.trod laidOut (by kernel_rfl) (of_decide_eq_true (by kernel_rfl)) k3 bel lt3) trodAll_mk0)))),rfl,bel.frame _,fun h=>by cases h⟩
theorem over:Rows.fnExactSameShapeRow.holds Try.pinned (OpenSpec.ofChange Rows.fnExactSameShapeSpec):=
  OpenClaim.holds_of_wide 6 Try.f6 rfl rfl rfl rfl rfl rfl rfl ⟨rfl, rfl, rfl, rfl, rfl⟩ rfl rfl rfl rfl rfl (by kernel_rfl) Try.func6 (by kernel_rfl)
    (of_decide_eq_true (by kernel_rfl)) (by unfold Func.isWrapper;first|(rw[if_pos (by decide+kernel)];kernel_rfl)|(rw[if_neg (by decide+kernel)];exact⟨rfl,rfl⟩))
    (fun os started H enc _=>lifted os started H enc)
theorem proved:Rows.FnExactSameShapeSaid:=over
#print axioms proved
end Go.Proofs.Ytpdljgieaaicpaa.fnExactSameShape
namespace Go.Proofs.Ytpdljgieaaicpaa
theorem fnExactSameShape_holds:Rows.FnExactSameShapeSaid:=fnExactSameShape.proved
end Go.Proofs.Ytpdljgieaaicpaa
