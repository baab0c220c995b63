/- Printed functions: spec_l01Printable, spec_l01Cut, spec_SplitLines, spec_ValidSource. -/
import Derived.Test.YtjmojijopammjaaDoorYLlP0
namespace Go.Proofs.YtjmojijopammjaaDoor.PFnExactLogicalLines
open Go.RowKit Go.Proofs.YtjmojijopammjaaDoorG Go.Proofs.YtjmojijopammjaaDoorW.PrintWords Go.Proofs.YtjmojijopammjaaDoorW.PrintLast Go.Proofs.YtjmojijopammjaaDoorW.PrintMore
attribute [local go_sem] max2_int min2_int max_two min_two max_three min_three max_four min_four
set_option linter.unusedVariables false
set_option linter.unusedSimpArgs false
def spec_l01Printable.l0 : Nat → ByteArray → Bool → Int → Option (Bool)
 |0,_,_,_=>none
 |k+1,x0,x1,x5=>if x5<(x0.size:Int)then(if 0≤x5 then(if(bt x0 x5)<32 then(if x1=true then(if((bt x0 x5)=10)then(spec_l01Printable.l0 k x0 x1 (wrap64 (x5+1)))else(some false))else(some false))else(if(bt x0 x5)>126 then(if x1=true then(if((bt x0 x5)=10)then(spec_l01Printable.l0 k x0 x1 (wrap64 (x5+1)))else(some false))else(some false))else(spec_l01Printable.l0 k x0 x1 (wrap64 (x5+1)))))else(none))else(some true)
def spec_l01Printable.f (k:Nat) (a0:ByteArray) (a1:Bool):Option (Bool):=spec_l01Printable.l0 k a0 a1 0
set_option maxHeartbeats 8000000 in
set_option maxRecDepth 100000 in
theorem spec_l01Printable.calls (k:Nat) (a0:ByteArray) (a1:Bool) (r:Bool) (w:World) (h:spec_l01Printable.f k a0 a1=some r):
  Calls Tryd.prog 101 #[.string a0,.bool a1] w fun e w'=>e= .returned (.bool r)∧Drawn0 w w':=by
 have H:(spec_l01Printable.l0 k a0 a1 0)=some r:=h
 clear h
 have H':=zM H
 clear H
 go_enter Tryd.func101,Tryd.ntmps101
 go_wp2
 go_loopg [5] k (fun kq C w'=>∃(a:Int),C= .int .i64 a∧Aside0 (spec_l01Printable.l0 kq a0 a1 a=some r)∧Aside0 (kq≤k)∧Drawn0 w w')
 case atStart=>exact⟨(0),sr,H',⟨Nat.le_refl _⟩,by repeat(first|exact Drawn0.refl _|apply Drawn0.step)⟩
 case round=>(
 clear H'
 obtain⟨a,rfl,HA,n,⟨F,rfl⟩⟩:=hrel
 cases gk with
 |zero=>exact absurd HA.out (by simp[spec_l01Printable.l0])
 |succ k1=>(
 have H:=HA.out
 clear HA
 simp only[spec_l01Printable.l0]at H
 by_cases o:a<(a0.size:Int)
 ·(
 rw[if_pos o]at H
 have c3b0:=zT o
 clear o
 by_cases y:0≤a
 ·(
 rw[if_pos y]at H
 have c4b0:=zT y
 clear y
 by_cases p:(bt a0 a)<32
 ·(
 rw[if_pos p]at H
 have c6b0:=zT p
 clear p
 by_cases z:a1=true
 ·(
 subst z
 rewrite[if_pos rfl]at H
 by_cases j:((bt a0 a)=10)
 ·(
 rw[if_pos j]at H
 have c9b0:((bt a0 a)==10)=true:=zE j
 have c9b1:((bt a0 a) !=10)=false:=zY j
 clear j
 have H':=zM H
 clear H
 have c:0≤(a:Int):=zzA
 have d:a<(a0.size:Int):=zzA
 have q:=bt_at a0 a
 replace c:=eq_true c
 replace d:=eq_true d
 have t:0≤(a:Int):=zzA
 have u:a<(a0.size:Int):=zzA
 have D:=bt_at a0 a
 replace t:=eq_true t
 replace u:=eq_true u
 go_wp2
 go_roundg k1
 case measure=>have:=n.out;omega
 case rel=>exact⟨(wrap64 (a+1)),sr,H',⟨by have:=n.out;omega⟩,by repeat(first|exact Drawn0.refl _|apply Drawn0.step)⟩)
 rw[if_neg j]at H
 have c9b0:((bt a0 a)==10)=false:=zN j
 have c9b1:((bt a0 a) !=10)=true:=zX j
 obtain rfl:=zI H
 have c:0≤(a:Int):=zzA
 have d:a<(a0.size:Int):=zzA
 have q:=bt_at a0 a
 replace c:=eq_true c
 replace d:=eq_true d
 have t:0≤(a:Int):=zzA
 have u:a<(a0.size:Int):=zzA
 have D:=bt_at a0 a
 replace t:=eq_true t
 replace u:=eq_true u
 go_wp2
 go_ret
 exact⟨by first|rfl|(simp;done)|(simp[*];done),by repeat(first|exact Drawn0.refl _|apply Drawn0.step)⟩)
 replace z:=zB z
 subst z
 rewrite[if_neg zQ]at H
 obtain rfl:=zI H
 have c:0≤(a:Int):=zzA
 have d:a<(a0.size:Int):=zzA
 have q:=bt_at a0 a
 replace c:=eq_true c
 replace d:=eq_true d
 go_wp2
 go_ret
 exact⟨by first|rfl|(simp;done)|(simp[*];done),by repeat(first|exact Drawn0.refl _|apply Drawn0.step)⟩)
 rw[if_neg p]at H
 have c6b0:=zF p
 clear p
 by_cases s:(bt a0 a)>126
 ·(
 rw[if_pos s]at H
 have c11b0:decide (126<(bt a0 a))=true:=zT s
 clear s
 by_cases A:a1=true
 ·(
 subst A
 rewrite[if_pos rfl]at H
 by_cases l:((bt a0 a)=10)
 ·(
 rw[if_pos l]at H
 have c14b0:((bt a0 a)==10)=true:=zE l
 have c14b1:((bt a0 a) !=10)=false:=zY l
 clear l
 have H':=zM H
 clear H
 have c:0≤(a:Int):=zzA
 have d:a<(a0.size:Int):=zzA
 have q:=bt_at a0 a
 replace c:=eq_true c
 replace d:=eq_true d
 have g:0≤(a:Int):=zzA
 have i:a<(a0.size:Int):=zzA
 have B:=bt_at a0 a
 replace g:=eq_true g
 replace i:=eq_true i
 have v:0≤(a:Int):=zzA
 have x:a<(a0.size:Int):=zzA
 have E:=bt_at a0 a
 replace v:=eq_true v
 replace x:=eq_true x
 go_wp2
 go_roundg k1
 case measure=>have:=n.out;omega
 case rel=>exact⟨(wrap64 (a+1)),sr,H',⟨by have:=n.out;omega⟩,by repeat(first|exact Drawn0.refl _|apply Drawn0.step)⟩)
 rw[if_neg l]at H
 have c14b0:((bt a0 a)==10)=false:=zN l
 have c14b1:((bt a0 a) !=10)=true:=zX l
 obtain rfl:=zI H
 have c:0≤(a:Int):=zzA
 have d:a<(a0.size:Int):=zzA
 have q:=bt_at a0 a
 replace c:=eq_true c
 replace d:=eq_true d
 have g:0≤(a:Int):=zzA
 have i:a<(a0.size:Int):=zzA
 have B:=bt_at a0 a
 replace g:=eq_true g
 replace i:=eq_true i
 have v:0≤(a:Int):=zzA
 have x:a<(a0.size:Int):=zzA
 have E:=bt_at a0 a
 replace v:=eq_true v
 replace x:=eq_true x
 go_wp2
 go_ret
 exact⟨by first|rfl|(simp;done)|(simp[*];done),by repeat(first|exact Drawn0.refl _|apply Drawn0.step)⟩)
 replace A:=zB A
 subst A
 rewrite[if_neg zQ]at H
 obtain rfl:=zI H
 have c:0≤(a:Int):=zzA
 have d:a<(a0.size:Int):=zzA
 have q:=bt_at a0 a
 replace c:=eq_true c
 replace d:=eq_true d
 have g:0≤(a:Int):=zzA
 have i:a<(a0.size:Int):=zzA
 have B:=bt_at a0 a
 replace g:=eq_true g
 replace i:=eq_true i
 go_wp2
 go_ret
 exact⟨by first|rfl|(simp;done)|(simp[*];done),by repeat(first|exact Drawn0.refl _|apply Drawn0.step)⟩)
 rw[if_neg s]at H
 have c11b0:decide (126<(bt a0 a))=false:=zF s
 clear s
 have H':=zM H
 clear H
 have c:0≤(a:Int):=zzA
 have d:a<(a0.size:Int):=zzA
 have q:=bt_at a0 a
 replace c:=eq_true c
 replace d:=eq_true d
 have g:0≤(a:Int):=zzA
 have i:a<(a0.size:Int):=zzA
 have B:=bt_at a0 a
 replace g:=eq_true g
 replace i:=eq_true i
 go_wp2
 go_roundg k1
 case measure=>have:=n.out;omega
 case rel=>exact⟨(wrap64 (a+1)),sr,H',⟨by have:=n.out;omega⟩,by repeat(first|exact Drawn0.refl _|apply Drawn0.step)⟩)
 rw[if_neg y]at H
 exact absurd H (by simp))
 rw[if_neg o]at H
 have c3b0:=zF o
 clear o
 obtain rfl:=zI H
 go_wp2
 go_ret
 exact⟨by first|rfl|(simp;done)|(simp[*];done),by repeat(first|exact Drawn0.refl _|apply Drawn0.step)⟩))
def spec_l01Cut.l0 : Nat → ByteArray → Int → List ByteArray → Int → Int → Option (List ByteArray)
 |0,_,_,_,_,_=>none
 |k+1,x0,x1,x5,x6,x7=>if x7<(x0.size:Int)then(if 0≤x7 then(if(bt x0 x7)=x1 then(if 0≤x6 then(if x6≤x7 then(if x7≤(x0.size:Int)then(if x5.length<8796093022208 then(spec_l01Cut.l0 k x0 x1 (x5++[x0.extract (x6:Int).toNat (x7:Int).toNat]) (wrap64 (x7+1)) (wrap64 (x7+1)))else(none))else(none))else(none))else(none))else(spec_l01Cut.l0 k x0 x1 x5 x6 (wrap64 (x7+1))))else(none))else(if 0≤x6 then(if x6≤(x0.size:Int)then(if x5.length<8796093022208 then(some (x5++[x0.extract (x6:Int).toNat x0.size]))else(none))else(none))else(none))
def spec_l01Cut.f (k:Nat) (a0:ByteArray) (a1:Int):Option (List ByteArray):=spec_l01Cut.l0 k a0 a1 (([]:List ByteArray)) 0 0
set_option maxHeartbeats 8000000 in
set_option maxRecDepth 100000 in
theorem spec_l01Cut.calls (k:Nat) (a0:ByteArray) (a1:Int) (r:List ByteArray) (w:World) (h:spec_l01Cut.f k a0 a1=some r):
  Calls Tryd.prog 102 #[.string a0,.int .u8 a1] w fun e w'=>∃C:Value,e= .returned (C)∧Kd.R Kd.string 9 w' w.heap.size (fun _=>True) C r∧Below w.heap.size w w':=by
 have HB:=zM (Below.refl w.heap.size w)
 have H:(spec_l01Cut.l0 k a0 a1 (([]:List ByteArray)) 0 0)=some r:=h
 clear h
 obtain⟨y101,hy101⟩:∃l:List ByteArray,l=(([]:List ByteArray)):=⟨_,rfl⟩
 replace H:(spec_l01Cut.l0 k a0 a1 y101 0 0)=some r:=by first|(rw[hy101];with_reducible exact H)|(have d:=(Option.bind_some _ _).symm.trans H;rw[hy101];with_reducible exact d)|(have d:=(Option.bind_some _ _).symm.trans H;with_reducible exact d)|with_reducible exact H|(rw[hy101];exact H)|exact H
 have D:=zM hy101
 clear hy101
 have H':=zM H
 clear H
 go_enter Tryd.func102,Tryd.ntmps102
 go_wp2_with (first|((with_reducible refine gate_dst (N:=8) rfl ?_);refine Kd.R_lit Kd.string _ 9 ?hg (N:=8) ?hd (xs:=([]:List ByteArray)) (inner:=[]) (ok:=fun _=>True) (okp:=fun _=>True) ?hr ?hp (fun _ hk=>hk) trivial (Below.refl _ _) (Nat.le_refl _) (by simp) ?_;(case hd=>rfl);(case hg=>rfl);(case hr=>first|(go_simp;done)|(go_simp;rfl));(case hp=>exact(Reps.none _ _));intro V W n hb E F;clear E F;(first|rw[←D.out]at n|(simp only[Int.reduceToNat]at n;rw[←D.out]at n));have G:=zM (Kd.R_lower n (below_size (sH HB.out)));replace HB:=sB HB hb;clear hb n))
 go_loopg [5,6,7] k (fun kq I J K w'=>∃(g:List ByteArray) (c:Int) (a:Int),J= .int .i64 c∧K= .int .i64 a∧Aside0 (spec_l01Cut.l0 kq a0 a1 g c a=some r)∧Aside0 (kq≤k)∧Aside0 (Kd.R Kd.string 9 w' w.heap.size (fun _=>True) I g)∧Aside0 (Below w.heap.size w w'))
 case atStart=>exact⟨(y101),(0),(0),sr,sr,H',⟨Nat.le_refl _⟩,⟨by exact sE G.out⟩,⟨sb⟩⟩
 case round=>(
 clear H'
 obtain⟨g,c,a,rfl,rfl,HA,y,o,HB⟩:=hrel
 cases gk with
 |zero=>exact absurd HA.out (by simp[spec_l01Cut.l0])
 |succ k1=>(
 have H:=HA.out
 clear HA
 simp only[spec_l01Cut.l0]at H
 by_cases j:a<(a0.size:Int)
 ·(
 rw[if_pos j]at H
 have c5b0:=zT j
 clear j
 by_cases z:0≤a
 ·(
 rw[if_pos z]at H
 have c6b0:=zT z
 clear z
 by_cases i:(bt a0 a)=a1
 ·(
 rw[if_pos i]at H
 have c8b0:((bt a0 a)==a1)=true:=zE i
 have c8b1:((bt a0 a) !=a1)=false:=zY i
 clear i
 by_cases p:0≤c
 ·(
 rw[if_pos p]at H
 have c9b0:=eq_true p
 have c9b1:=zT p
 clear p
 by_cases q:c≤a
 ·(
 rw[if_pos q]at H
 have c10b0:=eq_true q
 have c10b1:=zT q
 clear q
 by_cases s:a≤(a0.size:Int)
 ·(
 rw[if_pos s]at H
 have c11b0:=eq_true s
 have c11b1:=zT s
 clear s
 by_cases A:g.length<8796093022208
 ·(
 rw[if_pos A]at H
 have L:=zM A
 clear A
 obtain⟨y104,hy104⟩:∃l:List ByteArray,l=(g++[a0.extract (c:Int).toNat (a:Int).toNat]):=⟨_,rfl⟩
 replace H:(spec_l01Cut.l0 k1 a0 a1 y104 (wrap64 (a+1)) (wrap64 (a+1)))=some r:=by first|(rw[hy104];with_reducible exact H)|(have d:=(Option.bind_some _ _).symm.trans H;rw[hy104];with_reducible exact d)|(have d:=(Option.bind_some _ _).symm.trans H;with_reducible exact d)|with_reducible exact H|(rw[hy104];exact H)|exact H
 have M:=zM hy104
 clear hy104
 have H':=zM H
 clear H
 have t:0≤(a:Int):=zzA
 have u:a<(a0.size:Int):=zzA
 have O:=bt_at a0 a
 replace t:=eq_true t
 replace u:=eq_true u
 go_wp2_with (first|((with_reducible refine gate_builtin (b:= .append) (xs:= #[.tmp 20,.tmp 25]) rfl ?_);at_builtin;refine Kd.R_append Kd.string (w0:=w) w.heap.size rfl (.tmp 20) (.tmp 25) 85 9 (.string ⟨#[]⟩) 16 rfl Tryd.underlying85 info9 rfl (by decide) (by omega) u5 g (a0.extract (c:Int).toNat (a:Int).toNat) [.string (a0.extract (c:Int).toNat (a:Int).toNat)] (fun _=>True) (fun _=>False) rfl rfl ?aP (fun _ hk=>hk.elim) ?aF ?aO ?aB ?aS ?aL ?_;(case aP=>exact rfl);(case aB=>exact(sH HB.out));(case aF=>exact(fun _ _=>trivial));(case aO=>exact(sE o.out));(case aS=>exact(below_size (sH HB.out)));(case aL=>have:=L.out;omega);intro X Y ho hb hg hat;rw[←M.out]at ho;replace HB:=zM (hb);have Q:=zM (ho);clear o;clear ho hb hg hat))
 go_roundg k1
 case measure=>have:=y.out;omega
 case rel=>exact⟨(y104),(wrap64 (a+1)),(wrap64 (a+1)),sr,sr,H',⟨by have:=y.out;omega⟩,⟨by exact sE Q.out⟩,⟨sb⟩⟩)
 rw[if_neg A]at H
 exact absurd H (by simp))
 rw[if_neg s]at H
 exact absurd H (by simp))
 rw[if_neg q]at H
 exact absurd H (by simp))
 rw[if_neg p]at H
 exact absurd H (by simp))
 rw[if_neg i]at H
 have c8b0:((bt a0 a)==a1)=false:=zN i
 have c8b1:((bt a0 a) !=a1)=true:=zX i
 have H':=zM H
 clear H
 have t:0≤(a:Int):=zzA
 have u:a<(a0.size:Int):=zzA
 have O:=bt_at a0 a
 replace t:=eq_true t
 replace u:=eq_true u
 go_wp2
 go_roundg k1
 case measure=>have:=y.out;omega
 case rel=>exact⟨(g),(c),(wrap64 (a+1)),sr,sr,H',⟨by have:=y.out;omega⟩,⟨by exact sE o.out⟩,⟨sb⟩⟩)
 rw[if_neg z]at H
 exact absurd H (by simp))
 rw[if_neg j]at H
 have c5b0:=zF j
 clear j
 by_cases v:0≤c
 ·(
 rw[if_pos v]at H
 have c14b0:=eq_true v
 have c14b1:=zT v
 clear v
 by_cases x:c≤(a0.size:Int)
 ·(
 rw[if_pos x]at H
 have c15b0:=eq_true x
 have c15b1:=zT x
 clear x
 by_cases B:g.length<8796093022208
 ·(
 rw[if_pos B]at H
 have S:=zM B
 clear B
 obtain⟨y107,hy107⟩:∃l:List ByteArray,l=(g++[a0.extract (c:Int).toNat a0.size]):=⟨_,rfl⟩
 replace H:(some y107)=some r:=by first|(rw[hy107];with_reducible exact H)|(have d:=(Option.bind_some _ _).symm.trans H;rw[hy107];with_reducible exact d)|(have d:=(Option.bind_some _ _).symm.trans H;with_reducible exact d)|with_reducible exact H|(rw[hy107];exact H)|exact H
 have T:=zM hy107
 clear hy107
 obtain rfl:=zI H
 go_wp2_with (first|((with_reducible refine gate_builtin (b:= .append) (xs:= #[.tmp 29,.tmp 33]) rfl ?_);at_builtin;refine Kd.R_append Kd.string (w0:=w) w.heap.size rfl (.tmp 29) (.tmp 33) 85 9 (.string ⟨#[]⟩) 16 rfl Tryd.underlying85 info9 rfl (by decide) (by omega) u5 g (a0.extract (c:Int).toNat a0.size) [.string (a0.extract (c:Int).toNat a0.size)] (fun _=>True) (fun _=>False) rfl rfl ?aP (fun _ hk=>hk.elim) ?aF ?aO ?aB ?aS ?aL ?_;(case aP=>exact rfl);(case aB=>exact(sH HB.out));(case aF=>exact(fun _ _=>trivial));(case aO=>exact(sE o.out));(case aS=>exact(below_size (sH HB.out)));(case aL=>have:=S.out;omega);intro Z aa ho hb hg hat;rw[←T.out]at ho;replace HB:=zM (hb);have U:=zM (ho);clear o;clear ho hb hg hat))
 go_ret
 exact⟨_,sq,by exact sE U.out,sb⟩)
 rw[if_neg B]at H
 exact absurd H (by simp))
 rw[if_neg x]at H
 exact absurd H (by simp))
 rw[if_neg v]at H
 exact absurd H (by simp)))
def spec_SplitLines.f (k:Nat) (a0:ByteArray):Option (List ByteArray):=(spec_l01Cut.f k a0 10).bind fun t110=>(if 0≤(wrap64 ((t110.length:Int)- 1))then(if(wrap64 ((t110.length:Int)- 1))<(t110.length:Int)then(if(rdOf ByteArray.empty t110 (wrap64 ((t110.length:Int)- 1))).toList=([]:List UInt8)then(if(wrap64 ((t110.length:Int)- 1))≤(t110.length:Int)then(some (t110.take ((wrap64 ((t110.length:Int)- 1)):Int).toNat))else(none))else(some t110))else(none))else(none))
set_option maxHeartbeats 8000000 in
set_option maxRecDepth 100000 in
theorem spec_SplitLines.calls (k:Nat) (a0:ByteArray) (r:List ByteArray) (w:World) (h:spec_SplitLines.f k a0=some r):
  Calls Tryd.prog 63 #[.string a0] w fun e w'=>∃v:Value,e= .returned (v)∧Kd.R Kd.string 9 w' w.heap.size (fun _=>True) v r∧Below w.heap.size w w':=by
 have HB:=zM (Below.refl w.heap.size w)
 have H:((spec_l01Cut.f k a0 10).bind fun a=>(if 0≤(wrap64 ((a.length:Int)- 1))then(if(wrap64 ((a.length:Int)- 1))<(a.length:Int)then(if(rdOf ByteArray.empty a (wrap64 ((a.length:Int)- 1))).toList=([]:List UInt8)then(if(wrap64 ((a.length:Int)- 1))≤(a.length:Int)then(some (a.take ((wrap64 ((a.length:Int)- 1)):Int).toNat))else(none))else(some a))else(none))else(none)))=some r:=h
 clear h
 obtain⟨a,q,H⟩:=sO H
 obtain⟨ji3,hji3⟩:∃j_:Int,(wrap64 ((a.length:Int)- 1))=j_:=⟨_,rfl⟩
 replace H:(if 0≤(ji3)then(if(ji3)<(a.length:Int)then(if(rdOf ByteArray.empty a (ji3)).toList=([]:List UInt8)then(if(ji3)≤(a.length:Int)then(some (a.take ((ji3):Int).toNat))else(none))else(some a))else(none))else(none))=some r:=by first|(rw[hji3]at H;exact H)|(simp only[hji3]at H ⊢;exact H)
 (try rw[hji3]at q)
 have hji3w:(IntKind.i64.wrap ((a.length:Int)- 1))=ji3:=(i64_w _).trans hji3
 by_cases n:0≤(ji3)
 ·(
 rw[if_pos n]at H
 have c4b0:=zT n
 clear n
 by_cases o:(ji3)<(a.length:Int)
 ·(
 rw[if_pos o]at H
 have c5b0:=zT o
 clear o
 by_cases c:(rdOf ByteArray.empty a (ji3)).toList=([]:List UInt8)
 ·(
 rw[if_pos c]at H
 have c6b0:((rdOf ByteArray.empty a (ji3)).toList==([]:List UInt8))=true:=zE c
 have c6b1:((rdOf ByteArray.empty a (ji3)).toList !=([]:List UInt8))=false:=zY c
 have c6b2:(rdOf ByteArray.empty a (ji3)).toList.isEmpty=true:=by simpa using c
 clear c
 by_cases j:(ji3)≤(a.length:Int)
 ·(
 rw[if_pos j]at H
 have c7b0:=eq_true j
 have c7b1:=zT j
 clear j
 obtain⟨y114,hy114⟩:∃B:List ByteArray,B=(a.take ((ji3):Int).toNat):=⟨_,rfl⟩
 replace H:(some y114)=some r:=by first|(rw[hy114];with_reducible exact H)|(have s:=(Option.bind_some _ _).symm.trans H;rw[hy114];with_reducible exact s)|(have s:=(Option.bind_some _ _).symm.trans H;with_reducible exact s)|with_reducible exact H|(rw[hy114];exact H)|exact H
 have x:=zM hy114
 clear hy114
 obtain rfl:=zI H
 go_enter Tryd.func63,Tryd.ntmps63
 go_wp2_with (first|((with_reducible refine gate_callee (f:=102) rfl ?_);refine sC (some 5) Tryd.func102 #[.string a0,.int .u8 10] (spec_l01Cut.calls k a0 10 a _ q.out) ?_;rintro e L ⟨C,rfl,l,hb⟩;refine⟨_,rfl,?_⟩;have d:=zM (Kd.R_lower l (below_size (sH HB.out)));replace HB:=sB HB hb;(try clear hb);(try clear l);obtain⟨M,D,E⟩:=Kd.R_slice d.out;subst E;have g:0≤((ji3):Int):=zzA;have i:(ji3)<(a.length:Int):=zzA;obtain⟨y,t,F⟩:=Kd.at_string (Kd.R_reads' d.out).2.2 (ji3) g i;cases t;replace g:=eq_true g;replace i:=eq_true i;have u:((ji3):Int)≤((a.length:Int):Int):=zzA;obtain⟨O,z,_,G,_⟩:=info_parts info9;have I:=cut_to (P:=Tryd.prog) 85 9 .i64 Tryd.underlying85 z (some y) a.length D (ji3) (zzA) u (Kd.R_reads' d.out).2.1;have p:=Kd.R_take (m:=((ji3):Int).toNat) d.out (by omega);have A:y114.length=((ji3):Int).toNat:=(by rw[x.out,List.length_take];omega);rw[←x.out]at p;rw[←A]at p I;clear A z G d;have J:=zM p;clear p;replace u:=eq_true u))
 go_ret
 exact⟨_,by first|rfl|(simp[errW_none,errW_some]<;>rfl)|(simp only[←hji3];first|rfl|(simp[errW_none,errW_some]<;>rfl))|(simp[*,errW_none,errW_some]<;>rfl),by exact sE J.out,sb⟩)
 rw[if_neg j]at H
 exact absurd H (by simp))
 rw[if_neg c]at H
 have c6b0:((rdOf ByteArray.empty a (ji3)).toList==([]:List UInt8))=false:=zN c
 have c6b1:((rdOf ByteArray.empty a (ji3)).toList !=([]:List UInt8))=true:=zX c
 have c6b2:(rdOf ByteArray.empty a (ji3)).toList.isEmpty=false:=by simpa using c
 obtain rfl:=zI H
 go_enter Tryd.func63,Tryd.ntmps63
 go_wp2_with (first|((with_reducible refine gate_callee (f:=102) rfl ?_);refine sC (some 5) Tryd.func102 #[.string a0,.int .u8 10] (spec_l01Cut.calls k a0 10 a _ q.out) ?_;rintro e Q ⟨C,rfl,l,hb⟩;refine⟨_,rfl,?_⟩;have d:=zM (Kd.R_lower l (below_size (sH HB.out)));replace HB:=sB HB hb;(try clear hb);(try clear l);obtain⟨S,T,K⟩:=Kd.R_slice d.out;subst K;have g:0≤((ji3):Int):=zzA;have i:(ji3)<(a.length:Int):=zzA;obtain⟨y,t,F⟩:=Kd.at_string (Kd.R_reads' d.out).2.2 (ji3) g i;cases t;replace g:=eq_true g;replace i:=eq_true i))
 go_ret
 exact⟨_,by first|rfl|(simp[errW_none,errW_some]<;>rfl)|(simp only[←hji3];first|rfl|(simp[errW_none,errW_some]<;>rfl))|(simp[*,errW_none,errW_some]<;>rfl),by exact sE d.out,sb⟩)
 rw[if_neg o]at H
 exact absurd H (by simp))
 rw[if_neg n]at H
 exact absurd H (by simp)
def spec_ValidSource.f (k:Nat) (a0:ByteArray):Option (Bool):=if(a0.size:Int)≤4000 then((spec_l01Printable.f k a0 true).bind fun t117=>(if t117=true then((spec_SplitLines.f k a0).bind fun t118=>(some (decide ((t118.length:Int)≤120))))else(some false)))else(some false)
set_option maxHeartbeats 8000000 in
set_option maxRecDepth 100000 in
theorem spec_ValidSource.calls (k:Nat) (a0:ByteArray) (r:Bool) (w:World) (h:spec_ValidSource.f k a0=some r):
  Calls Tryd.prog 62 #[.string a0] w fun e w'=>e= .returned (.bool r)∧Below w.heap.size w w':=by
 have HB:=zM (Below.refl w.heap.size w)
 have H:(if(a0.size:Int)≤4000 then((spec_l01Printable.f k a0 true).bind fun d=>(if d=true then((spec_SplitLines.f k a0).bind fun g=>(some (decide ((g.length:Int)≤120))))else(some false)))else(some false))=some r:=h
 clear h
 by_cases a:(a0.size:Int)≤4000
 ·(
 rw[if_pos a]at H
 have c2b0:=zT a
 have c2b1:decide (a0.size≤4000)=true:=zT (by omega)
 clear a
 obtain⟨d,i,H⟩:=sO H
 by_cases c:d=true
 ·(
 subst c
 rewrite[if_pos rfl]at H
 obtain⟨g,l,H⟩:=sO H
 obtain rfl:=zI H
 go_enter Tryd.func62,Tryd.ntmps62
 go_wp2_with (first|(go_at_call 101;(with_reducible refine(spec_l01Printable.calls k a0 true true _ i.out).mono ?_);rintro e w' ⟨rfl,⟨nd,rfl⟩⟩)|(go_at_call 63;(with_reducible refine(spec_SplitLines.calls k a0 g _ l.out).mono ?_);rintro e p ⟨q,rfl,j,hb⟩;have n:=zM (Kd.R_lower j (below_size (sH HB.out)));replace HB:=sB HB hb;(try clear hb);(try clear j);obtain⟨s,t,o⟩:=Kd.R_slice n.out;subst o))
 go_ret
 exact⟨sq,sb⟩)
 replace c:=zB c
 subst c
 rewrite[if_neg zQ]at H
 obtain rfl:=zI H
 go_enter Tryd.func62,Tryd.ntmps62
 go_wp2_with (first|(go_at_call 101;(with_reducible refine(spec_l01Printable.calls k a0 true false _ i.out).mono ?_);rintro e w' ⟨rfl,⟨nd,rfl⟩⟩))
 go_ret
 exact⟨sq,sb⟩)
 rw[if_neg a]at H
 have c2b0:=zF a
 have c2b1:decide (a0.size≤4000)=false:=zF (by omega)
 clear a
 obtain rfl:=zI H
 go_enter Tryd.func62,Tryd.ntmps62
 go_wp2
 go_ret
 exact⟨sq,sb⟩
end Go.Proofs.YtjmojijopammjaaDoor.PFnExactLogicalLines
