/- Printed functions: laws_markInt64S, laws_heldInt64S. -/
import Derived.Test.YtengilknjiobiaaYRoP0
namespace Go.Proofs.Ytengilknjiobiaa.PFnExactRefsOf
open Go.RowKit Go.Proofs.YtengilknjiobiaaG Go.Proofs.YtengilknjiobiaaW.PrintWords Go.Proofs.YtengilknjiobiaaW.PrintLast Go.Proofs.YtengilknjiobiaaW.PrintMore
attribute [local go_sem] max2_int min2_int max_two min_two max_three min_three max_four min_four
set_option linter.unusedVariables false
set_option linter.unusedSimpArgs false
def laws_markInt64S.l0 : Nat → List Int → Int → Int → Option (Int × List Int)
 |0,_,_,_=>none
 |k+1,x0,x1,x5=>if x5<(x0.length:Int)then(if 0≤x5 then(laws_markInt64S.l0 k (x0.set (x5:Int).toNat x1) (wrap64 (x1+1)) (wrap64 (x5+1)))else(none))else(some (x1,x0))
def laws_markInt64S.f (k:Nat) (l0:List Int) (a1:Int):Option (Int×List Int):=laws_markInt64S.l0 k l0 a1 0
set_option maxHeartbeats 8000000 in
set_option maxRecDepth 100000 in
theorem laws_markInt64S.calls (k:Nat) (P0_:Nat→Prop) (u9000_:Value) (l0:List Int) (a1:Int) (r1:Int) (r2:List Int) (w0 w:World) (hB:Below w0.heap.size w0 w) (ho0:Kd.R (Kd.int .i64) 2 w w0.heap.size P0_ u9000_ l0) (h:laws_markInt64S.f k l0 a1=some (r1,r2)):
  Calls Try.prog 32 #[u9000_,.int .i64 a1] w fun e w'=>e= .returned (.int .i64 r1)∧Kd.R (Kd.int .i64) 2 w' w0.heap.size (fun a=>(P0_ a∨w.heap.size≤a)) u9000_ r2∧Below w0.heap.size w0 w'∧Kept w w' (fun a=>P0_ a):=by
 have G:=zM (show Kd.R (Kd.int .i64) 2 w w0.heap.size (fun a=>(P0_ a∨w.heap.size≤a)) u9000_ l0 from Kd.R_mono ho0 (fun a hk=>(.inl hk)))
 have HK:=zM (Kept.refl w (fun a=>P0_ a))
 have W:=zM hB.size
 have HB:=zM hB
 clear hB
 have H:(laws_markInt64S.l0 k l0 a1 0)=some (r1,r2):=h
 clear h
 have H':=zM H
 clear H
 go_enter Try.func32,Try.ntmps32
 go_wp2
 go_loopg [1,5] k (fun kq I J w'=>∃(g:List Int) (d:Int) (b:Int),I= .int .i64 d∧J= .int .i64 b∧Aside0 (laws_markInt64S.l0 kq g d b=some (r1,r2))∧Aside0 (kq≤k)∧Aside0 (Kd.R (Kd.int .i64) 2 w' w0.heap.size (fun a=>(P0_ a∨w.heap.size≤a)) u9000_ g)∧Aside0 (Kept w w' (fun a=>P0_ a))∧Aside0 (Below w0.heap.size w0 w'))
 case atStart=>exact⟨(l0),(a1),(0),sr,sr,H',⟨Nat.le_refl _⟩,⟨by exact sE G.out⟩,⟨by repeat(first|(with_reducible first|exact HK.out|apply Kept.alloc|apply Kept.drewN|apply Kept.drew)|exact HK.out)⟩,⟨sb⟩⟩
 case round=>(
 clear H'
 obtain⟨g,d,b,rfl,rfl,HA,x,c,HK,HB⟩:=hrel
 cases gk with
 |zero=>exact absurd HA.out (by simp[laws_markInt64S.l0])
 |succ k1=>(
 have H:=HA.out
 clear HA
 simp only[laws_markInt64S.l0]at H
 by_cases i:b<(g.length:Int)
 ·(
 rw[if_pos i]at H
 have c3b0:=zT i
 clear i
 by_cases l:0≤b
 ·(
 rw[if_pos l]at H
 have c4b0:=zT l
 clear l
 obtain⟨y463,hy463⟩:∃K:List Int,K=(g.set (b:Int).toNat d):=⟨_,rfl⟩
 replace H:(laws_markInt64S.l0 k1 y463 (wrap64 (d+1)) (wrap64 (b+1)))=some (r1,r2):=by first|(rw[hy463];with_reducible exact H)|(have n:=(Option.bind_some _ _).symm.trans H;rw[hy463];with_reducible exact n)|(have n:=(Option.bind_some _ _).symm.trans H;with_reducible exact n)|with_reducible exact H|(rw[hy463];exact H)|exact H
 have L:=zM hy463
 clear hy463
 have H':=zM H
 clear H
 obtain⟨X,M,N⟩:=Kd.R_slice c.out
 subst N
 have o:0≤(b:Int):=zzA
 have q:(b:Int)<((g.length:Int):Int):=zzA
 obtain⟨j,Y,y,z,O,Z,A⟩:=Kd.R_form c.out (by omega)
 (first|cases y|(injection y with m P Q;(first|subst m|(injection m with m;subst m));subst Q;clear P))
 have T:=zM z
 have aa:=zM A
 clear z O A
 have ab:=zM (show(P0_ j∨w.heap.size≤j) from(c.out.1 _ rfl))
 obtain⟨ac,ad⟩:=Kd.R_celln 0 c.out (b:Int) o q
 replace o:=eq_true o
 replace q:=eq_true q
 have s:=Kd.R_putg c.out (b:Int) d
 go_wp2_with (first|((with_reducible refine gate_store (t:=2) (p:=15) rfl ?_);refine store_event (t:=2) (p:=15) (v:=?vo_w8) (w1:=(wr.setCell ⟨j,(b:Int).toNat,none⟩ (.int .i64 d))) ?hg ?ho ?hn ?hr ?_;(case ho=>rfl);(case hg=>rfl);(case hn=>rfl);(case hr=>first|(go_simp;done)|(go_simp;rfl));intro u hw;have hg:wr.grownBy u (some j):=(by rw[hw];exact s.2);have B:Kd.R (Kd.int .i64) 2 u w0.heap.size (fun a=>(P0_ a∨w.heap.size≤a)) (.slice (some ⟨j,0,none⟩) g.length M) y463:=(by rw[hw,L.out];exact s.1);clear s;have D:=zM (B);have E:=zM ((by rw[hw];exact below_set (HB.out) T.out:Below w0.heap.size w0 u));have F:=zM (Kept.of_grown (S:=(fun a=>P0_ a)) hg (by repeat(first|(with_reducible first|exact HK.out|apply Kept.alloc|apply Kept.drewN|apply Kept.drew)|exact HK.out)) (fun a U=>(c.out.1 a U)));clear c;clear HB;clear HK;have c:=D;have HB:=E;have HK:=F;clear D E F;clear hg hw B))
 go_roundg k1
 case measure=>have:=x.out;omega
 case rel=>exact⟨(y463),(wrap64 (d+1)),(wrap64 (b+1)),sr,sr,H',⟨by have:=x.out;omega⟩,⟨by exact sE c.out⟩,⟨by repeat(first|(with_reducible first|exact HK.out|apply Kept.alloc|apply Kept.drewN|apply Kept.drew)|exact HK.out)⟩,⟨sb⟩⟩)
 rw[if_neg l]at H
 exact absurd H (by simp))
 rw[if_neg i]at H
 have c3b0:=zF i
 clear i
 simp only[Option.some.injEq,Prod.mk.injEq]at H
 obtain⟨rfl,rfl⟩:=H
 obtain⟨ae,af,V⟩:=Kd.R_slice c.out
 subst V
 go_wp2
 go_ret
 exact⟨sq,by exact sE c.out,sH HB.out,by repeat(first|(with_reducible first|exact HK.out|apply Kept.alloc|apply Kept.drewN|apply Kept.drew)|exact HK.out)⟩))
def laws_heldInt64S.l0 : Nat → List Int → Int → Int → Option (Int)
 |0,_,_,_=>none
 |k+1,x0,x1,x5=>if x5<(x0.length:Int)then(if 0≤x5 then(if(rd x0 x5)=x1 then(laws_heldInt64S.l0 k x0 (wrap64 (x1+1)) (wrap64 (x5+1)))else(some (-1)))else(none))else(some x1)
def laws_heldInt64S.f (k:Nat) (l0:List Int) (a1:Int):Option (Int):=laws_heldInt64S.l0 k l0 a1 0
set_option maxHeartbeats 8000000 in
set_option maxRecDepth 100000 in
theorem laws_heldInt64S.calls (k:Nat) (A0:Option Addr) (c0:Nat) (l0:List Int) (a1:Int) (r:Int) (w:World) (hr0:Kd.C (Kd.int .i64) w A0 l0.length l0) (hc0:l0.length≤c0) (h:laws_heldInt64S.f k l0 a1=some r):
  Calls Try.prog 33 #[.slice A0 l0.length c0,.int .i64 a1] w fun e w'=>e= .returned (.int .i64 r)∧Drawn0 w w':=by
 have m:=zM hr0
 have x:=zM hc0
 clear hr0 hc0
 have H:(laws_heldInt64S.l0 k l0 a1 0)=some r:=h
 clear h
 have H':=zM H
 clear H
 go_enter Try.func33,Try.ntmps33
 go_wp2
 go_loopg [1,5] k (fun kq o q w'=>∃(b:Int) (a:Int),o= .int .i64 b∧q= .int .i64 a∧Aside0 (laws_heldInt64S.l0 kq l0 b a=some r)∧Aside0 (kq≤k)∧Drawn0 w w')
 case atStart=>exact⟨(a1),(0),sr,sr,H',⟨Nat.le_refl _⟩,by repeat(first|exact Drawn0.refl _|apply Drawn0.step)⟩
 case round=>(
 clear H'
 obtain⟨b,a,rfl,rfl,HA,n,⟨y,rfl⟩⟩:=hrel
 cases gk with
 |zero=>exact absurd HA.out (by simp[laws_heldInt64S.l0])
 |succ k1=>(
 have H:=HA.out
 clear HA
 simp only[laws_heldInt64S.l0]at H
 by_cases i:a<(l0.length:Int)
 ·(
 rw[if_pos i]at H
 have c3b0:=zT i
 clear i
 by_cases j:0≤a
 ·(
 rw[if_pos j]at H
 have c4b0:=zT j
 clear j
 by_cases c:(rd l0 a)=b
 ·(
 rw[if_pos c]at H
 have c5b0:((rd l0 a)==b)=true:=zE c
 have c5b1:((rd l0 a) !=b)=false:=zY c
 clear c
 have H':=zM H
 clear H
 have d:0≤(a:Int):=zzA
 have g:a<(l0.length:Int):=zzA
 obtain⟨s,l,u⟩:=Kd.at_int m.out a d g
 cases l
 replace d:=eq_true d
 replace g:=eq_true g
 go_wp2
 go_roundg k1
 case measure=>have:=n.out;omega
 case rel=>exact⟨(wrap64 (b+1)),(wrap64 (a+1)),sr,sr,H',⟨by have:=n.out;omega⟩,by repeat(first|exact Drawn0.refl _|apply Drawn0.step)⟩)
 rw[if_neg c]at H
 have c5b0:((rd l0 a)==b)=false:=zN c
 have c5b1:((rd l0 a) !=b)=true:=zX c
 obtain rfl:=zI H
 have d:0≤(a:Int):=zzA
 have g:a<(l0.length:Int):=zzA
 obtain⟨s,l,u⟩:=Kd.at_int m.out a d g
 cases l
 replace d:=eq_true d
 replace g:=eq_true g
 go_wp2
 go_ret
 exact⟨by first|rfl|(simp;done)|(simp[*];done),by repeat(first|exact Drawn0.refl _|apply Drawn0.step)⟩)
 rw[if_neg j]at H
 exact absurd H (by simp))
 rw[if_neg i]at H
 have c3b0:=zF i
 clear i
 obtain rfl:=zI H
 go_wp2
 go_ret
 exact⟨by first|rfl|(simp;done)|(simp[*];done),by repeat(first|exact Drawn0.refl _|apply Drawn0.step)⟩))
end Go.Proofs.Ytengilknjiobiaa.PFnExactRefsOf
