/- Printed functions: spec_l11Literal. -/
import Derived.Test.YtjmojijopammjaaDoorYCtP0
namespace Go.Proofs.YtjmojijopammjaaDoor.PFnExactCaptureText
open Go.RowKit Go.Proofs.YtjmojijopammjaaDoorG Go.Proofs.YtjmojijopammjaaDoorW.PrintWords Go.Proofs.YtjmojijopammjaaDoorW.PrintLast Go.Proofs.YtjmojijopammjaaDoorW.PrintMore
attribute [local go_sem] max2_int min2_int max_two min_two max_three min_three max_four min_four
set_option linter.unusedVariables false
set_option linter.unusedSimpArgs false
def spec_l11Literal.l0 : Nat → ByteArray → List Int → Int → Option (ByteArray)
 |0,_,_,_=>none
 |k+1,x0,x3,x4=>if x4<(x0.size:Int)then(if 0≤x4 then(if x3.length<140737488355328 then((some (x3++[bt x0 x4]:List Int)).bind fun y121=>(if(bt x0 x4)=34 then(if y121.length<140737488355328 then(spec_l11Literal.l0 k x0 (y121++[34]) (wrap64 (x4+1)))else(none))else(spec_l11Literal.l0 k x0 y121 (wrap64 (x4+1)))))else(none))else(none))else(if x3.length<140737488355328 then(some (strOfNums (x3++[34])))else(none))
def spec_l11Literal.f (k:Nat) (a0:ByteArray):Option (ByteArray):=spec_l11Literal.l0 k a0 (([34]:List Int)) 0
set_option maxHeartbeats 8000000 in
set_option maxRecDepth 100000 in
theorem spec_l11Literal.calls (k:Nat) (a0:ByteArray) (r:ByteArray) (w:World) (h:spec_l11Literal.f k a0=some r):
  Calls Tryd.prog 36 #[.string a0] w fun e w'=>e= .returned (.string r)∧Below w.heap.size w w':=by
 have HB:=zM (Below.refl w.heap.size w)
 have H:(spec_l11Literal.l0 k a0 (([34]:List Int)) 0)=some r:=h
 clear h
 obtain⟨y118,hy118⟩:∃g:List Int,g=(([34]:List Int)):=⟨_,rfl⟩
 replace H:(spec_l11Literal.l0 k a0 y118 0)=some r:=by first|(rw[hy118];with_reducible exact H)|(have c:=(Option.bind_some _ _).symm.trans H;rw[hy118];with_reducible exact c)|(have c:=(Option.bind_some _ _).symm.trans H;with_reducible exact c)|with_reducible exact H|(rw[hy118];exact H)|exact H
 have z:=zM hy118
 clear hy118
 have H':=zM H
 clear H
 go_enter Tryd.func36,Tryd.ntmps36
 go_wp2_with (first|((with_reducible refine gate_dst (N:=5) rfl ?_);refine Kd.R_lit (Kd.int .u8) _ 5 ?hg (N:=5) ?hd (xs:=([34]:List Int)) (inner:=[.int .u8 34]) (ok:=fun _=>True) (okp:=fun _=>True) ?hr ?hp (fun _ hk=>hk) trivial (Below.refl _ _) (Nat.le_refl _) (by simp) ?_;(case hd=>rfl);(case hg=>rfl);(case hr=>first|(go_simp;done)|(go_simp;rfl));(case hp=>exact(Reps.one (show Kd.M (Kd.int .u8) _ _ _ 34 [.int .u8 34] from rfl) (Reps.none _ _)));intro V W m hb D E;clear D E;(first|rw[←z.out]at m|(simp only[Int.reduceToNat]at m;rw[←z.out]at m));have F:=zM (Kd.R_lower m (below_size (sH HB.out)));replace HB:=sB HB hb;clear hb m))
 go_loopg [3,4] k (fun kq G I w'=>∃(d:List Int) (a:Int),I= .int .i64 a∧Aside0 (spec_l11Literal.l0 kq a0 d a=some r)∧Aside0 (kq≤k)∧Aside0 (Kd.R (Kd.int .u8) 5 w' w.heap.size (fun _=>True) G d)∧Aside0 (Below w.heap.size w w'))
 case atStart=>exact⟨(y118),(0),sr,H',⟨Nat.le_refl _⟩,⟨by exact sE F.out⟩,⟨sb⟩⟩
 case round=>(
 clear H'
 obtain⟨d,a,rfl,HA,s,j,HB⟩:=hrel
 cases gk with
 |zero=>exact absurd HA.out (by simp[spec_l11Literal.l0])
 |succ k1=>(
 have H:=HA.out
 clear HA
 simp only[spec_l11Literal.l0]at H
 by_cases l:a<(a0.size:Int)
 ·(
 rw[if_pos l]at H
 have c4b0:=zT l
 clear l
 by_cases t:0≤a
 ·(
 rw[if_pos t]at H
 have c5b0:=zT t
 clear t
 by_cases u:d.length<140737488355328
 ·(
 rw[if_pos u]at H
 have A:=zM u
 clear u
 obtain⟨y121,hy121⟩:∃g:List Int,g=(d++[bt a0 a]):=⟨_,rfl⟩
 replace H:(if(bt a0 a)=34 then(if y121.length<140737488355328 then(spec_l11Literal.l0 k1 a0 (y121++[34]) (wrap64 (a+1)))else(none))else(spec_l11Literal.l0 k1 a0 y121 (wrap64 (a+1))))=some r:=by first|(rw[hy121];with_reducible exact H)|(have c:=(Option.bind_some _ _).symm.trans H;rw[hy121];with_reducible exact c)|(have c:=(Option.bind_some _ _).symm.trans H;with_reducible exact c)|with_reducible exact H|(rw[hy121];exact H)|exact H
 have B:=zM hy121
 clear hy121
 by_cases i:(bt a0 a)=34
 ·(
 rw[if_pos i]at H
 have c9b0:((bt a0 a)==34)=true:=zE i
 have c9b1:((bt a0 a) !=34)=false:=zY i
 clear i
 by_cases v:y121.length<140737488355328
 ·(
 rw[if_pos v]at H
 have J:=zM v
 clear v
 obtain⟨y124,hy124⟩:∃g:List Int,g=(y121++[34]):=⟨_,rfl⟩
 replace H:(spec_l11Literal.l0 k1 a0 y124 (wrap64 (a+1)))=some r:=by first|(rw[hy124];with_reducible exact H)|(have c:=(Option.bind_some _ _).symm.trans H;rw[hy124];with_reducible exact c)|(have c:=(Option.bind_some _ _).symm.trans H;with_reducible exact c)|with_reducible exact H|(rw[hy124];exact H)|exact H
 have K:=zM hy124
 clear hy124
 have H':=zM H
 clear H
 have n:0≤(a:Int):=zzA
 have o:a<(a0.size:Int):=zzA
 have L:=bt_at a0 a
 replace n:=eq_true n
 replace o:=eq_true o
 go_wp2_with (first|((with_reducible refine gate_builtin (b:= .append) (xs:= #[.tmp 12,.tmp 16]) rfl ?_);at_builtin;refine Kd.R_append (Kd.int .u8) (w0:=w) w.heap.size rfl (.tmp 12) (.tmp 16) 51 5 (.int .u8 0) 1 rfl Tryd.underlying51 info5 rfl (by decide) (by omega) u3 d (bt a0 a) [.int .u8 (bt a0 a)] (fun _=>True) (fun _=>False) rfl rfl ?aP (fun _ hk=>hk.elim) ?aF ?aO ?aB ?aS ?aL ?_;(case aP=>exact rfl);(case aB=>exact(sH HB.out));(case aF=>exact(fun _ _=>trivial));(case aO=>exact(sE j.out));(case aS=>exact(below_size (sH HB.out)));(case aL=>have:=A.out;omega);intro C X ho hb hg hat;rw[←B.out]at ho;replace HB:=zM (hb);have x:=zM (ho);clear j;clear ho hb hg hat;have p:0≤(a:Int):=zzA;have q:a<(a0.size:Int):=zzA;have O:=bt_at a0 a;replace p:=eq_true p;replace q:=eq_true q)|((with_reducible refine gate_builtin (b:= .append) (xs:= #[.tmp 22,.tmp 23]) rfl ?_);at_builtin;refine Kd.R_append (Kd.int .u8) (w0:=w) w.heap.size rfl (.tmp 22) (.tmp 23) 51 5 (.int .u8 0) 1 rfl Tryd.underlying51 info5 rfl (by decide) (by omega) C y121 34 [.int .u8 34] (fun _=>True) (fun _=>False) rfl rfl ?aP (fun _ hk=>hk.elim) ?aF ?aO ?aB ?aS ?aL ?_;(case aP=>exact rfl);(case aB=>exact(sH HB.out));(case aF=>exact(fun _ _=>trivial));(case aO=>exact(sE x.out));(case aS=>exact(below_size (sH HB.out)));(case aL=>have:=J.out;omega);intro Y Z ho hb hg hat;rw[←K.out]at ho;replace HB:=zM (hb);have Q:=zM (ho);clear x;clear ho hb hg hat))
 go_roundg k1
 case measure=>have:=s.out;omega
 case rel=>exact⟨(y124),(wrap64 (a+1)),sr,H',⟨by have:=s.out;omega⟩,⟨by exact sE Q.out⟩,⟨sb⟩⟩)
 rw[if_neg v]at H
 exact absurd H (by simp))
 rw[if_neg i]at H
 have c9b0:((bt a0 a)==34)=false:=zN i
 have c9b1:((bt a0 a) !=34)=true:=zX i
 have H':=zM H
 clear H
 have n:0≤(a:Int):=zzA
 have o:a<(a0.size:Int):=zzA
 have L:=bt_at a0 a
 replace n:=eq_true n
 replace o:=eq_true o
 go_wp2_with (first|((with_reducible refine gate_builtin (b:= .append) (xs:= #[.tmp 12,.tmp 16]) rfl ?_);at_builtin;refine Kd.R_append (Kd.int .u8) (w0:=w) w.heap.size rfl (.tmp 12) (.tmp 16) 51 5 (.int .u8 0) 1 rfl Tryd.underlying51 info5 rfl (by decide) (by omega) u3 d (bt a0 a) [.int .u8 (bt a0 a)] (fun _=>True) (fun _=>False) rfl rfl ?aP (fun _ hk=>hk.elim) ?aF ?aO ?aB ?aS ?aL ?_;(case aP=>exact rfl);(case aB=>exact(sH HB.out));(case aF=>exact(fun _ _=>trivial));(case aO=>exact(sE j.out));(case aS=>exact(below_size (sH HB.out)));(case aL=>have:=A.out;omega);intro C aa ho hb hg hat;rw[←B.out]at ho;replace HB:=zM (hb);have x:=zM (ho);clear j;clear ho hb hg hat;have p:0≤(a:Int):=zzA;have q:a<(a0.size:Int):=zzA;have O:=bt_at a0 a;replace p:=eq_true p;replace q:=eq_true q))
 go_roundg k1
 case measure=>have:=s.out;omega
 case rel=>exact⟨(y121),(wrap64 (a+1)),sr,H',⟨by have:=s.out;omega⟩,⟨by exact sE x.out⟩,⟨sb⟩⟩)
 rw[if_neg u]at H
 exact absurd H (by simp))
 rw[if_neg t]at H
 exact absurd H (by simp))
 rw[if_neg l]at H
 have c4b0:=zF l
 clear l
 by_cases y:d.length<140737488355328
 ·(
 rw[if_pos y]at H
 have S:=zM y
 clear y
 obtain⟨y127,hy127⟩:∃g:List Int,g=(d++[34]):=⟨_,rfl⟩
 replace H:(some (strOfNums y127))=some r:=by first|(rw[hy127];with_reducible exact H)|(have c:=(Option.bind_some _ _).symm.trans H;rw[hy127];with_reducible exact c)|(have c:=(Option.bind_some _ _).symm.trans H;with_reducible exact c)|with_reducible exact H|(rw[hy127];exact H)|exact H
 have T:=zM hy127
 clear hy127
 obtain rfl:=zI H
 go_wp2_with (first|((with_reducible refine gate_builtin (b:= .append) (xs:= #[.tmp 25,.tmp 26]) rfl ?_);at_builtin;refine Kd.R_append (Kd.int .u8) (w0:=w) w.heap.size rfl (.tmp 25) (.tmp 26) 51 5 (.int .u8 0) 1 rfl Tryd.underlying51 info5 rfl (by decide) (by omega) u3 d 34 [.int .u8 34] (fun _=>True) (fun _=>False) rfl rfl ?aP (fun _ hk=>hk.elim) ?aF ?aO ?aB ?aS ?aL ?_;(case aP=>exact rfl);(case aB=>exact(sH HB.out));(case aF=>exact(fun _ _=>trivial));(case aO=>exact(sE j.out));(case aS=>exact(below_size (sH HB.out)));(case aL=>have:=S.out;omega);intro ab ac ho hb hg hat;rw[←T.out]at ho;replace HB:=zM (hb);have U:=zM (ho);clear j;clear ho hb hg hat;have ad:=own_string (P:=Tryd.prog) Tryd.underlying51 Tryd.underlying5 Tryd.underlying9 (Kd.own_of_R U.out)))
 go_ret
 exact⟨sq,sb⟩)
 rw[if_neg y]at H
 exact absurd H (by simp)))
end Go.Proofs.YtjmojijopammjaaDoor.PFnExactCaptureText
