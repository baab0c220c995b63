/- The law FnExactSameMemory holds of the program, for every input: its plain statement, carried over by the printed contracts; no condition. -/
import Derived.Test.YtnneadpahjkhgaaRows
import Derived.Test.YtnneadpahjkhgaaYSameMemoryO
import Derived.Test.YtnneadpahjkhgaaYSameMemoryPure
import Derived.WalkKit
import Derived.ProofKit
import Derived.OpenShut
import Derived.ShutString
import Derived.ChangeOld
import Derived.Below
import Derived.SizedLaws
import Derived.Test.YtnneadpahjkhgaaYSmW4
namespace Go.Proofs.Ytnneadpahjkhgaa.fnExactSameMemory
open Go.ChangeShapes Go.WideShapes Go.ChangeAt Go.RowKit Go.Proofs.YtnneadpahjkhgaaG
open Go.ChangeMaps (open_string shut_string)
set_option linter.unusedVariables false
theorem own:ownKnob Try.prog.godebug=none:=by kernel_rfl
theorem laidOut:laidOutB Try.prog=true:=by kernel_rfl
set_option maxRecDepth 100000 in
theorem lifted (os:Os) (started:os.Started) (H:Type) (enc:TypeId×Value→H):
    ReturnsInHanded {} Try.checked os 7 .any (Rows.fnExactSameMemorySpec.pre6 enc Try.prog Try.f7 Rows.fnExactSameMemoryRow.domain false) (Rows.fnExactSameMemorySpec.post enc Try.prog Try.f7 false true false false):=by
  refine returnsInHanded_of_change_sized (C := Try.checked) own started (by kernel_rfl) Try.func7
    (ChangeSpec.witness6 (enc:=enc) (C:=Try.checked) false ⟨#[], #[(.agg #[(.int .i64 0),(.slice none 0 0),(.slice none 0 0),(.slice none 0 0),(.slice none 0 0),(.slice none 0 0),(.int .i64 0),(.slice none 0 0),(.slice none 0 0),(.slice none 0 0)]),(.agg #[(.int .i64 0),(.slice none 0 0),(.slice none 0 0),(.slice none 0 0),(.slice none 0 0),(.slice none 0 0),(.int .i64 0),(.slice none 0 0),(.slice none 0 0),(.slice none 0 0)])],[]⟩ 30 (by kernel_rfl) (by kernel_rfl) (by kernel_rfl) (by kernel_rfl)) ?_
  intro W base args ds gs before hval0 hW hcnd _ _
  have hval:∀(j:Nat) t v,Try.f7.params[j]?=some t→args[j]?=some v→Value.okWide Try.prog W .any base t v:=hval0
  have hW':=hW
  obtain⟨p,q,hA0,hV,rfl,hfz,hnd⟩:=hW
  have hA:DataW.TrodAll enc Try.prog W 0 (fun _=>true) true Try.f7.params.toList args.toList ds p:=hA0
  rw[Try.params7]at hA hval
  obtain⟨v0,vs0,d0,ds0,p0,q0,hargs,rfl,rfl,h0,r0⟩:=trodAll_cons hA
  obtain⟨v1,vs1,d1,ds1,p1,q1,rfl,rfl,rfl,h1,r1⟩:=trodAll_cons r0
  obtain⟨rfl,rfl,rfl⟩:=trodAll_nil r1
  obtain rfl:args= #[v0,v1]:=by cases args;simp_all
  obtain⟨rfl,rfl⟩:=trodVars_none hV
  have k0:=h0
  have lt0:∀x∈p0,x.block<W.heap.size:=by obtain⟨m,hm⟩:=k0;exact DataW.trod_lt m _ _ _ hm
  obtain⟨cs0,rfl,_⟩:=okWide_struct Try.underlying64 (hval 0 64 v0 rfl rfl)
  obtain⟨fuel0,hf0⟩:=h0
  obtain⟨x0,hK0,hw0⟩:=PFnExactSameMemory.opens64 fuel0 H enc W _ _ hf0
  obtain⟨A0_1,c0_1,A0_2,c0_2,A0_3,c0_3,A0_4,c0_4,A0_5,c0_5,A0_7,c0_7,A0_8,c0_8,A0_9,c0_9,hcs0,hl0_1,hr0_1,hl0_2,hr0_2,hl0_3,hr0_3,hl0_4,hr0_4,hl0_5,hr0_5,hl0_7,hr0_7,hl0_8,hr0_8,hl0_9,hr0_9⟩:=PFnExactSameMemory.k64_open hK0
  obtain rfl:cs0= #[.int .i64 x0.f0.f0,.slice A0_1 x0.f0.f1.length c0_1,.slice A0_2 x0.f1.f0.length c0_2,.slice A0_3 x0.f1.f1.length c0_3,.slice A0_4 x0.f1.f2.length c0_4,.slice A0_5 x0.f2.f0.length c0_5,.int .i64 x0.f2.f1,.slice A0_7 x0.f2.f2.length c0_7,.slice A0_8 x0.f2.f3.length c0_8,.slice A0_9 x0.f2.f4.length c0_9]:=Array.toList_inj.1 hcs0
  have k1:=h1
  have lt1:∀x∈p1,x.block<W.heap.size:=by obtain⟨m,hm⟩:=k1;exact DataW.trod_lt m _ _ _ hm
  obtain⟨cs1,rfl,_⟩:=okWide_struct Try.underlying64 (hval 1 64 v1 rfl rfl)
  obtain⟨fuel1,hf1⟩:=h1
  obtain⟨x1,hK1,hw1⟩:=PFnExactSameMemory.opens64 fuel1 H enc W _ _ hf1
  obtain⟨A1_1,c1_1,A1_2,c1_2,A1_3,c1_3,A1_4,c1_4,A1_5,c1_5,A1_7,c1_7,A1_8,c1_8,A1_9,c1_9,hcs1,hl1_1,hr1_1,hl1_2,hr1_2,hl1_3,hr1_3,hl1_4,hr1_4,hl1_5,hr1_5,hl1_7,hr1_7,hl1_8,hr1_8,hl1_9,hr1_9⟩:=PFnExactSameMemory.k64_open hK1
  obtain rfl:cs1= #[.int .i64 x1.f0.f0,.slice A1_1 x1.f0.f1.length c1_1,.slice A1_2 x1.f1.f0.length c1_2,.slice A1_3 x1.f1.f1.length c1_3,.slice A1_4 x1.f1.f2.length c1_4,.slice A1_5 x1.f2.f0.length c1_5,.int .i64 x1.f2.f1,.slice A1_7 x1.f2.f2.length c1_7,.slice A1_8 x1.f2.f3.length c1_8,.slice A1_9 x1.f2.f4.length c1_9]:=Array.toList_inj.1 hcs1
  clear hA0 hval0
  obtain⟨k,h⟩:=Pure.FnExactSameMemory x0 x1 hw0 hw1
  refine(PFnExactSameMemory.laws_FnExactSameMemory.calls k x0.f0.f0 A0_1 c0_1 x0.f0.f1 A0_2 c0_2 x0.f1.f0 A0_3 c0_3 x0.f1.f1 A0_4 c0_4 x0.f1.f2 A0_5 c0_5 x0.f2.f0 x0.f2.f1 A0_7 c0_7 x0.f2.f2 A0_8 c0_8 x0.f2.f3 A0_9 c0_9 x0.f2.f4 x1.f0.f0 A1_1 c1_1 x1.f0.f1 A1_2 c1_2 x1.f1.f0 A1_3 c1_3 x1.f1.f1 A1_4 c1_4 x1.f1.f2 A1_5 c1_5 x1.f2.f0 x1.f2.f1 A1_7 c1_7 x1.f2.f2 A1_8 c1_8 x1.f2.f3 A1_9 c1_9 x1.f2.f4 W hr0_1 hl0_1 hr0_2 hl0_2 hr0_3 hl0_3 hr0_4 hl0_4 hr0_5 hl0_5 hr0_7 hl0_7 hr0_8 hl0_8 hr0_9 hl0_9 hr1_1 hl1_1 hr1_2 hl1_2 hr1_3 hl1_3 hr1_4 hl1_4 hr1_5 hl1_5 hr1_7 hl1_7 hr1_8 hl1_8 hr1_9 hl1_9 h).mono fun e W' ⟨he,hd⟩=>?_
  have bel:Below W.heap.size W W':=hd
  subst he
  exact⟨_,rfl,_,_,_,[],_,[],hW',trodAll_mk1 (shut_bool Try.underlying4 _),(trodAll_cons_mk (Below.trod laidOut (by kernel_rfl) (of_decide_eq_true (by kernel_rfl)) k0 bel lt0) (trodAll_cons_mk (Below.trod laidOut (by kernel_rfl) (of_decide_eq_true (by kernel_rfl)) k1 bel lt1) trodAll_mk0)),rfl,bel.frame _,fun h=>by cases h⟩
theorem over:Rows.fnExactSameMemoryRow.holds Try.pinned (OpenSpec.ofChange Rows.fnExactSameMemorySpec):=
  OpenClaim.holds_of_wide 7 Try.f7 rfl rfl rfl rfl rfl rfl rfl ⟨rfl, rfl, rfl, rfl, rfl⟩ rfl rfl rfl rfl rfl (by kernel_rfl) Try.func7 (by kernel_rfl)
    (of_decide_eq_true (by kernel_rfl)) (by unfold Func.isWrapper;first|(rw[if_pos (by decide+kernel)];kernel_rfl)|(rw[if_neg (by decide+kernel)];exact⟨rfl,rfl⟩))
    (fun os started H enc _=>lifted os started H enc)
theorem proved:Rows.FnExactSameMemorySaid:=over
#print axioms proved
end Go.Proofs.Ytnneadpahjkhgaa.fnExactSameMemory
namespace Go.Proofs.Ytnneadpahjkhgaa
theorem fnExactSameMemory_holds:Rows.FnExactSameMemorySaid:=fnExactSameMemory.proved
end Go.Proofs.Ytnneadpahjkhgaa
