/- Printed functions: laws_markHeap. -/
import Derived.Test.YtengilknjiobiaaYPoP0
import Derived.Test.YtengilknjiobiaaYPoP28
namespace Go.Proofs.Ytengilknjiobiaa.PFnExactPairsOf
open Go.RowKit Go.Proofs.YtengilknjiobiaaG Go.Proofs.YtengilknjiobiaaW.PrintWords Go.Proofs.YtengilknjiobiaaW.PrintLast Go.Proofs.YtengilknjiobiaaW.PrintMore
attribute [local go_sem] max2_int min2_int max_two min_two max_three min_three max_four min_four
set_option linter.unusedVariables false
set_option linter.unusedSimpArgs false
def laws_markHeap.f (a0_0:Int) (l0_1:List S56) (a1:Int):Option Int:=some (laws_markObjectS.v0 l0_1 a1)
set_option maxHeartbeats 8000000 in
set_option maxRecDepth 100000 in
theorem laws_markHeap.mkMH (a0_0:Int) (P:Nat→Prop) (u:Value) (xs:List S56) (a1:Int) (r1:Int) (w0 w:World) (hB:Below w0.heap.size w0 w) (hR:Kd.R k56 56 w w0.heap.size P u xs) (h:laws_markObjectS.v0 xs a1=r1):
    Calls Try.prog 22 #[.agg #[.int .i64 a0_0,u],.int .i64 a1] w fun e w'=>e= .returned (.int .i64 r1)∧Below w0.heap.size w0 w'∧Kept w w' (fun i=>P i):=by
 have n:=Try.underlying34
 have HR:=zM hR
 have HS:=zM (laws_markObjectS.mkSt.start P hB)
 have HN:=zM h
 clear hB hR h
 obtain⟨A,c,eu⟩:=Kd.R_slice HR.out
 subst eu
 go_enter Try.func22,Try.ntmps22
 go_wp2_with (first
   |((with_reducible refine gate_dst (N:=2) rfl ?_);refine box_event ?hg (N:=2) ?hd (cs:= #[.int .i64 a0_0,.slice A xs.length c]) (t:=34) ?hr ?_;(case hd=>rfl);(case hg=>rfl);(case hr=>first|(go_simp;done)|(go_simp;rfl));intro gb hg d hbox hb;have BK:=zM hbox;have a:Aside0 (laws_markObjectS.mkSt w0 w P d):=⟨HS.out.below hb⟩;have g:Aside0 (Kd.R k56 56 d w0.heap.size P (.slice A xs.length c) xs):=⟨Kd.R_below HR.out hb⟩;clear HS HR hb hbox hg;have HS:=a;have HR:=g;clear a g;obtain⟨j,l⟩:=cells2 BK.out)
   |((with_reducible refine gate_callee (f:=59) rfl ?_);refine goesL_ (some 8) rfl rfl Try.func59 (by kernel_rfl) rfl #[.slice A xs.length c,.int .i64 a1] rfl (by(try simp only[List.map_toArray,List.map_cons,List.map_nil]);first|done|rfl) ?_;(with_reducible refine(laws_markObjectS.mkMO P _ xs a1 w0 d HS.out.b HR.out).mono ?_);rintro o m ⟨rfl,hb⟩;refine⟨_,rfl,?_⟩;have a:Aside0 (laws_markObjectS.mkSt w0 w P m):=⟨HS.out.after hb⟩;rw[HN.out];clear HS hb HR j l BK;have HS:=a;clear a))
 go_ret
 exact⟨rfl,HS.out.b,HS.out.k⟩
theorem laws_markHeap.calls (a0_0:Int) (P0_:Nat→Prop) (u:Value) (xs:List S56) (a1:Int) (r1:Int) (w0 w:World) (hB:Below w0.heap.size w0 w) (hR:Kd.R k56 56 w w0.heap.size P0_ u xs) (h:laws_markHeap.f a0_0 xs a1=some r1):
    Calls Try.prog 22 #[.agg #[.int .i64 a0_0,u],.int .i64 a1] w fun e w'=>e= .returned (.int .i64 r1)∧Below w0.heap.size w0 w'∧Kept w w' (fun a=>P0_ a∧w0.heap.size≤a∧a<w.heap.size∧∃q,q∈56::k56.E∧∃cells,w.heap[a]?=some (.cells cells q (0,0))):=laws_markHeap.mkMH a0_0 _ u xs a1 r1 w0 w hB (Kd.R_bound hR) (zI h)
end Go.Proofs.Ytengilknjiobiaa.PFnExactPairsOf
