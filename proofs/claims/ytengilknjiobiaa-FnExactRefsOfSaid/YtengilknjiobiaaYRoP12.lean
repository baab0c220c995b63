/- Printed functions: impl_Value, impl_Value_113, impl_areDifferent. -/
import Derived.Test.YtengilknjiobiaaYRoP0
import Derived.Test.YtengilknjiobiaaYRoPE
namespace Go.Proofs.Ytengilknjiobiaa.PFnExactRefsOf
open Go.RowKit Go.Proofs.YtengilknjiobiaaG Go.Proofs.YtengilknjiobiaaW.PrintWords Go.Proofs.YtengilknjiobiaaW.PrintLast Go.Proofs.YtengilknjiobiaaW.PrintMore
attribute [local go_sem] max2_int min2_int max_two min_two max_three min_three max_four min_four
set_option linter.unusedVariables false
set_option linter.unusedSimpArgs false
section
attribute [local go_sem high] eqA29
def impl_Value.l0 : Nat → List (S29) → Int → Int → Int → Int → ByteArray → Int → Option (Int)
 |0,_,_,_,_,_,_,_=>none
 |k+1,x0,x7,x8,x242000,x242001,x242002,x242003=>if x8<x7 then(if 0≤x8 then(if x8<(x0.length:Int)then(if(x242000==((rd_T29 x0 x8).f0)&&(x242001==((rd_T29 x0 x8).f1)&&(x242002.toList==(((rd_T29 x0 x8).f2).toList)&&(x242003==((rd_T29 x0 x8).f3)))))=true then(some x8)else(impl_Value.l0 k x0 x7 (wrap64 (x8+1)) x242000 x242001 x242002 x242003))else(none))else(none))else(some (-1))
def impl_Value.f (k:Nat) (l0:List (S29)) (a1_0:Int) (a1_1:Int) (a1_2:ByteArray) (a1_3:Int):Option (Int):=impl_Value.l0 k l0 (l0.length:Int) 0 a1_0 a1_1 a1_2 a1_3
set_option maxHeartbeats 8000000 in
set_option maxRecDepth 100000 in
theorem impl_Value.calls (k:Nat) (A0:Option Addr) (c0:Nat) (l0:List (S29)) (a1_0:Int) (a1_1:Int) (a1_2:ByteArray) (a1_3:Int) (r:Int) (w:World) (hr0:Kd.C k29 w A0 l0.length l0) (hc0:l0.length≤c0) (h:impl_Value.f k l0 a1_0 a1_1 a1_2 a1_3=some r):
  Calls Try.prog 75 #[.slice A0 l0.length c0,.agg #[.int .i64 a1_0,.int .i64 a1_1,.string a1_2,.int .i64 a1_3]] w fun e w'=>e= .returned (.int .i64 r)∧Below w.heap.size w w':=by
 have I:=Try.underlying29
 have z:=zM hr0
 have J:=zM hc0
 clear hr0 hc0
 have HB:=zM (Below.refl w.heap.size w)
 have H:(impl_Value.l0 k l0 (l0.length:Int) 0 a1_0 a1_1 a1_2 a1_3)=some r:=h
 clear h
 have H':=zM H
 clear H
 go_enter Try.func75,Try.ntmps75
 go_wp2_with (first|((with_reducible refine gate_dst (N:=3) rfl ?_);refine sV (N:=3) (cs:= #[.int .i64 a1_0,.int .i64 a1_1,.string a1_2,.int .i64 a1_3]) (t:=29) ?_;intro x hg A hbox hb;have c:=zM (hbox);have B:=sG HB hg;have D:=sG HB hg;replace HB:=sB HB hb;clear hb hbox hg))
 repeat(go_quiet (first|((with_reducible refine gate_dst (N:=3) rfl ?_);refine sV (N:=3) (cs:= #[.int .i64 a1_0,.int .i64 a1_1,.string a1_2,.int .i64 a1_3]) (t:=29) ?_;intro x hg A hbox hb;have c:=zM (hbox);have B:=sG HB hg;have D:=sG HB hg;replace HB:=sB HB hb;clear hb hbox hg));try go_wp2_with (first|((with_reducible refine gate_dst (N:=3) rfl ?_);refine sV (N:=3) (cs:= #[.int .i64 a1_0,.int .i64 a1_1,.string a1_2,.int .i64 a1_3]) (t:=29) ?_;intro x hg A hbox hb;have c:=zM (hbox);have B:=sG HB hg;have D:=sG HB hg;replace HB:=sB HB hb;clear hb hbox hg)))
 go_loopg [8] k (fun kq F w'=>∃(a:Int),F= .int .i64 a∧Aside0 (impl_Value.l0 kq l0 (l0.length:Int) a a1_0 a1_1 a1_2 a1_3=some r)∧Aside0 (kq≤k)∧Aside0 (w'.heap[x]?=some (.cells #[.int .i64 a1_0,.int .i64 a1_1,.string a1_2,.int .i64 a1_3] 29 (0,0)))∧Aside0 (Below w.heap.size w w'))
 case atStart=>exact⟨(0),sr,H',⟨Nat.le_refl _⟩,⟨by exact sT c.out⟩,⟨sb⟩⟩
 case round=>(
 clear H'
 obtain⟨a,rfl,HA,E,c,HB⟩:=hrel
 cases gk with
 |zero=>exact absurd HA.out (by simp[impl_Value.l0])
 |succ k1=>(
 have H:=HA.out
 clear HA
 simp only[impl_Value.l0]at H
 by_cases j:a<(l0.length:Int)
 ·(
 rw[if_pos j]at H
 have c4b0:=zT j
 clear j
 by_cases s:0≤a
 ·(
 rw[if_pos s]at H
 have c5b0:=zT s
 clear s
 by_cases u:a<(l0.length:Int)
 ·(
 rw[if_pos u]at H
 have c6b0:=zT u
 clear u
 by_cases b:(a1_0==((rd_T29 l0 a).f0)&&(a1_1==((rd_T29 l0 a).f1)&&(a1_2.toList==(((rd_T29 l0 a).f2).toList)&&(a1_3==((rd_T29 l0 a).f3)))))=true
 ·(
 rw[if_pos b]at H
 have c7b0:(a1_0==((rd_T29 l0 a).f0)&&(a1_1==((rd_T29 l0 a).f1)&&(a1_2.toList==(((rd_T29 l0 a).f2).toList)&&(a1_3==((rd_T29 l0 a).f3)))))=true:=b
 (try(have c7b1:decide (a1_0=((rd_T29 l0 a).f0)&&(a1_1==((rd_T29 l0 a).f1)&&(a1_2.toList==(((rd_T29 l0 a).f2).toList)&&(a1_3==((rd_T29 l0 a).f3)))))=true:=by simpa using b))
 (try(have c7b2:(a1_0==((rd_T29 l0 a).f0)&&(a1_1==((rd_T29 l0 a).f1)&&(a1_2.toList==(((rd_T29 l0 a).f2).toList)&&(a1_3==((rd_T29 l0 a).f3)))))=true:=by simpa using b))
 clear b
 obtain rfl:=zI H
 obtain⟨L,M,O,Q,R,T,U,V⟩:=cells4 c.out
 have d:0≤(a:Int):=zzA
 have g:a<(l0.length:Int):=zzA
 obtain⟨G,y,l,o,p,q⟩:=at_T29 z.out a d g
 cases y
 replace l:=sX HB l
 replace o:=sX HB o
 replace p:=sX HB p
 replace q:=sX HB q
 replace d:=eq_true d
 replace g:=eq_true g
 go_wp2
 repeat(go_quiet (fail);try go_wp2)
 go_ret
 exact⟨sq,sb⟩)
 rw[if_neg b]at H
 have c7b0:(a1_0==((rd_T29 l0 a).f0)&&(a1_1==((rd_T29 l0 a).f1)&&(a1_2.toList==(((rd_T29 l0 a).f2).toList)&&(a1_3==((rd_T29 l0 a).f3)))))=false:=by simpa using b
 (try(have c7b1:decide (a1_0=((rd_T29 l0 a).f0)&&(a1_1==((rd_T29 l0 a).f1)&&(a1_2.toList==(((rd_T29 l0 a).f2).toList)&&(a1_3==((rd_T29 l0 a).f3)))))=false:=by simpa using b))
 (try(have c7b2:(a1_0==((rd_T29 l0 a).f0)&&(a1_1==((rd_T29 l0 a).f1)&&(a1_2.toList==(((rd_T29 l0 a).f2).toList)&&(a1_3==((rd_T29 l0 a).f3)))))=false:=by simpa using b))
 (try(have c7b3:¬(a1_0=((rd_T29 l0 a).f0)&&(a1_1==((rd_T29 l0 a).f1)&&(a1_2.toList==(((rd_T29 l0 a).f2).toList)&&(a1_3==((rd_T29 l0 a).f3))))):=by simpa using b))
 clear b
 have H':=zM H
 clear H
 obtain⟨W,X,Y,Z,aa,ab,ac,ad⟩:=cells4 c.out
 have d:0≤(a:Int):=zzA
 have g:a<(l0.length:Int):=zzA
 obtain⟨G,y,l,o,p,q⟩:=at_T29 z.out a d g
 cases y
 replace l:=sX HB l
 replace o:=sX HB o
 replace p:=sX HB p
 replace q:=sX HB q
 replace d:=eq_true d
 replace g:=eq_true g
 go_wp2
 repeat(go_quiet (fail);try go_wp2)
 go_roundg k1
 case measure=>have:=E.out;omega
 case rel=>exact⟨(wrap64 (a+1)),sr,H',⟨by have:=E.out;omega⟩,⟨by exact sT c.out⟩,⟨sb⟩⟩)
 rw[if_neg u]at H
 exact absurd H (by simp))
 rw[if_neg s]at H
 exact absurd H (by simp))
 rw[if_neg j]at H
 have c4b0:=zF j
 clear j
 obtain rfl:=zI H
 go_wp2
 repeat(go_quiet (fail);try go_wp2)
 go_ret
 exact⟨sq,sb⟩))
end
section
attribute [local go_sem high] eqA29
def impl_Value_113.f (k:Nat) (l0:List (S29)) (a1_0:Int) (a1_1:Int) (a1_2:ByteArray) (a1_3:Int):Option (Bool):=(impl_Value.f k l0 a1_0 a1_1 a1_2 a1_3).bind fun t244=>(some (decide (t244≥0)))
set_option maxHeartbeats 8000000 in
set_option maxRecDepth 100000 in
theorem impl_Value_113.calls (k:Nat) (A0:Option Addr) (c0:Nat) (l0:List (S29)) (a1_0:Int) (a1_1:Int) (a1_2:ByteArray) (a1_3:Int) (r:Bool) (w:World) (hr0:Kd.C k29 w A0 l0.length l0) (hc0:l0.length≤c0) (h:impl_Value_113.f k l0 a1_0 a1_1 a1_2 a1_3=some r):
  Calls Try.prog 113 #[.slice A0 l0.length c0,.agg #[.int .i64 a1_0,.int .i64 a1_1,.string a1_2,.int .i64 a1_3]] w fun e w'=>e= .returned (.bool r)∧Below w.heap.size w w':=by
 have j:=Try.underlying29
 have c:=zM hr0
 have d:=zM hc0
 clear hr0 hc0
 have HB:=zM (Below.refl w.heap.size w)
 have H:((impl_Value.f k l0 a1_0 a1_1 a1_2 a1_3).bind fun a=>(some (decide (a≥0))))=some r:=h
 clear h
 obtain⟨a,g,H⟩:=sO H
 obtain rfl:=zI H
 go_enter Try.func113,Try.ntmps113
 go_wp2_with (first|((with_reducible refine gate_dst (N:=3) rfl ?_);refine sV (N:=3) (cs:= #[.int .i64 a1_0,.int .i64 a1_1,.string a1_2,.int .i64 a1_3]) (t:=29) ?_;intro l hg o hbox hb;have b:=zM (hbox);have p:=sG HB hg;have q:=sG HB hg;replace HB:=sB HB hb;clear hb hbox hg;obtain⟨s,u,x,y,z,A,B,D⟩:=cells4 b.out)|((with_reducible refine gate_callee (f:=75) rfl ?_);refine sC (some 7) Try.func75 #[.slice A0 l0.length c0,.agg #[.int .i64 a1_0,.int .i64 a1_1,.string a1_2,.int .i64 a1_3]] (impl_Value.calls k _ _ l0 a1_0 a1_1 a1_2 a1_3 a _ ?side1 ?side2 g.out) ?_;(case side1=>exact sD (zC c.out HB.out));(case side2=>exact d.out);rintro e E ⟨rfl,hb⟩;refine⟨_,rfl,?_⟩;replace b:=sK b hb;replace HB:=sB HB hb;(try clear hb)))
 go_ret
 exact⟨sq,sb⟩
end
section
attribute [local go_sem high] eqA29
def impl_areDifferent.l0 : Nat → List (S29) → List (S29) → Int → Int → Option (Bool)
 |0,_,_,_,_=>none
 |k+1,x0,x5,x6,x7=>if x7<x6 then(if 0≤x7 then(if x7<(x5.length:Int)then(if x7≤(x0.length:Int)then((impl_Value_113.f k (x0.take (x7:Int).toNat) ((rd_T29 x5 x7).f0) ((rd_T29 x5 x7).f1) ((rd_T29 x5 x7).f2) ((rd_T29 x5 x7).f3)).bind fun t251=>(if t251=true then(some false)else(impl_areDifferent.l0 k x0 x5 x6 (wrap64 (x7+1)))))else(none))else(none))else(none))else(some true)
def impl_areDifferent.f (k:Nat) (l0:List (S29)):Option (Bool):=impl_areDifferent.l0 k l0 l0 (l0.length:Int) 0
set_option maxHeartbeats 8000000 in
set_option maxRecDepth 100000 in
theorem impl_areDifferent.calls (k:Nat) (A0:Option Addr) (c0:Nat) (l0:List (S29)) (r:Bool) (w:World) (hr0:Kd.C k29 w A0 l0.length l0) (hc0:l0.length≤c0) (h:impl_areDifferent.f k l0=some r):
  Calls Try.prog 91 #[.slice A0 l0.length c0] w fun e w'=>e= .returned (.bool r)∧Below w.heap.size w w':=by
 have am:=Try.underlying29
 have A:=zM hr0
 have X:=zM hc0
 clear hr0 hc0
 have HB:=zM (Below.refl w.heap.size w)
 have H:(impl_areDifferent.l0 k l0 l0 (l0.length:Int) 0)=some r:=h
 clear h
 have H':=zM H
 clear H
 go_enter Try.func91,Try.ntmps91
 go_wp2
 go_loopg [7] k (fun kq v7 w'=>∃(a:Int),v7= .int .i64 a∧Aside0 (impl_areDifferent.l0 kq l0 l0 (l0.length:Int) a=some r)∧Aside0 (kq≤k)∧Aside0 (Below w.heap.size w w'))
 case atStart=>exact⟨(0),sr,H',⟨Nat.le_refl _⟩,⟨sb⟩⟩
 case round=>(
 clear H'
 obtain⟨a,rfl,HA,Y,HB⟩:=hrel
 cases gk with
 |zero=>exact absurd HA.out (by simp[impl_areDifferent.l0])
 |succ k1=>(
 have H:=HA.out
 clear HA
 simp only[impl_areDifferent.l0]at H
 by_cases p:a<(l0.length:Int)
 ·(
 rw[if_pos p]at H
 have c2b0:=zT p
 clear p
 by_cases B:0≤a
 ·(
 rw[if_pos B]at H
 have c3b0:=zT B
 clear B
 by_cases D:a<(l0.length:Int)
 ·(
 rw[if_pos D]at H
 have c4b0:=zT D
 clear D
 have c5b0:=eq_true (zzA:0≤a)
 by_cases q:a≤(l0.length:Int)
 ·(
 rw[if_pos q]at H
 have c6b0:=eq_true q
 have c6b1:=zT q
 clear q
 obtain⟨y247,hy247⟩:∃y_:List (S29),y_=(l0.take (a:Int).toNat):=⟨_,rfl⟩
 replace H:((impl_Value_113.f k1 y247 ((rd_T29 l0 a).f0) ((rd_T29 l0 a).f1) ((rd_T29 l0 a).f2) ((rd_T29 l0 a).f3)).bind fun G=>(if G=true then(some false)else(impl_areDifferent.l0 k1 l0 l0 (l0.length:Int) (wrap64 (a+1)))))=some r:=by first|(rw[hy247];with_reducible exact H)|(have I:=(Option.bind_some _ _).symm.trans H;rw[hy247];with_reducible exact I)|(have I:=(Option.bind_some _ _).symm.trans H;with_reducible exact I)|with_reducible exact H|(rw[hy247];exact H)|exact H
 have E:=zM hy247
 clear hy247
 obtain⟨G,Z,H⟩:=sO H
 by_cases F:G=true
 ·(
 subst F
 rewrite[if_pos rfl]at H
 obtain rfl:=zI H
 have d:0≤(a:Int):=zzA
 have g:a<(l0.length:Int):=zzA
 obtain⟨j,J,s,u,x,y⟩:=at_T29 A.out a d g
 cases J
 replace s:=sX HB s
 replace u:=sX HB u
 replace x:=sX HB x
 replace y:=sX HB y
 replace d:=eq_true d
 replace g:=eq_true g
 try go_wp2_with (first|((with_reducible refine gate_dst (N:=4) rfl ?_);refine sV (N:=4) (cs:= #[.int .i64 0,.int .i64 0,.string (⟨#[]⟩:ByteArray),.int .i64 0]) (t:=29) ?_;intro b hg L hbox hb;have c:=zM (hbox);have ag:=sG HB hg;have ah:=sG HB hg;replace HB:=sB HB hb;clear hb hbox hg;obtain⟨an,ao,ap,aq,ar,au,av,aw⟩:=cells4 c.out))
 have l:Aside0 (((((L.setCell ⟨b,0,none⟩ (.int .i64 ((rd_T29 l0 a).f0))).setCell ⟨b,1,none⟩ (.int .i64 ((rd_T29 l0 a).f1))).setCell ⟨b,2,none⟩ (.string ((rd_T29 l0 a).f2))).setCell ⟨b,3,none⟩ (.int .i64 ((rd_T29 l0 a).f3))).heap[b]?=some (.cells #[.int .i64 ((rd_T29 l0 a).f0),.int .i64 ((rd_T29 l0 a).f1),.string ((rd_T29 l0 a).f2),.int .i64 ((rd_T29 l0 a).f3)] 29 (0,0))):=⟨sP4 (sT c.out)⟩
 have o:Aside0 (Below w.heap.size w ((((L.setCell ⟨b,0,none⟩ (.int .i64 ((rd_T29 l0 a).f0))).setCell ⟨b,1,none⟩ (.int .i64 ((rd_T29 l0 a).f1))).setCell ⟨b,2,none⟩ (.string ((rd_T29 l0 a).f2))).setCell ⟨b,3,none⟩ (.int .i64 ((rd_T29 l0 a).f3)))):=⟨sb⟩
 (try clear c)
 (try clear HB)
 generalize ((((L.setCell ⟨b,0,none⟩ (.int .i64 ((rd_T29 l0 a).f0))).setCell ⟨b,1,none⟩ (.int .i64 ((rd_T29 l0 a).f1))).setCell ⟨b,2,none⟩ (.string ((rd_T29 l0 a).f2))).setCell ⟨b,3,none⟩ (.int .i64 ((rd_T29 l0 a).f3)))=w11 at l o ⊢
 have c:=l
 have HB:=o
 clear l o
 replace c:=zM (blk_drew c.out)
 replace HB:=zM (below_drew1 HB.out)
 have M:(a:Int)≤((l0.length:Int):Int):=zzA
 obtain⟨ax,aa,_,ai,_⟩:=info_parts info29
 have ab:l0.length≤c0:=X.out
 have ac:Kd.C k29 _ (some j) l0.length l0:=A.out
 have aj:=cut_to (P:=Try.prog) 43 29 .i64 Try.underlying43 aa (some j) l0.length c0 a (zzA) M ab
 have O:=Kd.C_take (m:=(a:Int).toNat) ac (by omega)
 have Q:y247.length=(a:Int).toNat:=(by rw[E.out,List.length_take];omega)
 rw[←E.out]at O
 rw[←Q]at aj
 have z:=zM O
 have R:=zM (show y247.length≤c0 from by omega)
 clear O ac ab aa ai
 have ay:=zM Q
 clear Q
 replace M:=eq_true M
 refine start_ (n:=5) (S:=fun w'=>w'.cell? ⟨b,0,none⟩=some (.int .i64 ((rd_T29 l0 a).f0))∧w'.cell? ⟨b,1,none⟩=some (.int .i64 ((rd_T29 l0 a).f1))∧w'.cell? ⟨b,2,none⟩=some (.string ((rd_T29 l0 a).f2))∧w'.cell? ⟨b,3,none⟩=some (.int .i64 ((rd_T29 l0 a).f3))) (ds:=[]) #[false,false,false,false,false] (by kernel_rfl) rfl rfl ⟨(blk_cell c.out 0).trans rfl,(blk_cell c.out 1).trans rfl,(blk_cell c.out 2).trans rfl,(blk_cell c.out 3).trans rfl⟩ (fun hHeld=>?_)
 generalize w11.drew=w12 at c HB z hHeld ⊢
 refine pure_ (i:=0) (N:=some 12) (v:=?_) (a':=?_) #[true,false,false,false,false] rfl rfl (by kernel_rfl) (fun _ _ _ h=>h) (Or.inl ⟨by rfl,?_⟩) ?_ ?_
 rotate_left
 ·(
 intro w'
 go_simp
 with_reducible rfl)
 rotate_left
 ·(
 simp only[zP,i64_w,i32_w]
 rfl)
 refine pure_ (i:=1) (N:=some 13) (v:=?_) (a':=?_) #[true,true,false,false,false] rfl rfl (by kernel_rfl) (fun _ _ _ h=>h) (Or.inl ⟨by rfl,?_⟩) ?_ ?_
 rotate_left
 ·(
 intro w'
 go_simp
 with_reducible rfl)
 rotate_left
 ·(
 simp only[zP,i64_w,i32_w]
 rfl)
 refine pure_ (i:=2) (N:=some 14) (v:=?_) (a':=?_) #[true,true,true,false,false] rfl rfl (by kernel_rfl) (fun _ _ _ h=>h) (Or.inl ⟨by rfl,?_⟩) ?_ ?_
 rotate_left
 ·(
 intro w'
 go_simp
 with_reducible rfl)
 rotate_left
 ·(
 simp only[zP,i64_w,i32_w]
 rfl)
 refine take_ (i:=3) (N:=some 15) (v:=?_) (a':=?_) #[true,true,true,true,false] rfl rfl (by kernel_rfl) (fun _ _ _ h=>h) (Or.inl ⟨by rfl,?_⟩) hHeld ?_ ?_
 rotate_left
 ·(
 rintro w' ⟨s0,s1,s2,s3⟩
 go_simp
 with_reducible rfl)
 rotate_left
 ·(
 simp only[zP,i64_w,i32_w]
 rfl)
 refine one_ (i:=4) (N:=some 16) #[true,true,true,true,true] rfl rfl (by kernel_rfl) (by decide) (fun K hK=>?_)
 refine goes_ Try.func113 (by kernel_rfl) rfl #[.slice (some j) y247.length c0,.agg #[.int .i64 ((rd_T29 l0 a).f0),.int .i64 ((rd_T29 l0 a).f1),.string ((rd_T29 l0 a).f2),.int .i64 ((rd_T29 l0 a).f3)]] (by rfl) rfl rfl (by(try simp only[List.map_toArray,List.map_cons,List.map_nil]);first|done|rfl|(simp only[List.length_drop,List.length_take];rfl)) ?_
 with_reducible refine(impl_Value_113.calls k1 _ _ y247 ((rd_T29 l0 a).f0) ((rd_T29 l0 a).f1) ((rd_T29 l0 a).f2) ((rd_T29 l0 a).f3) true _ ?side1 ?side2 Z.out).mono ?_
 (case side1=>exact sD (zC z.out HB.out))
 (case side2=>exact R.out)
 rintro e az ⟨rfl,hb⟩
 refine⟨_,rfl,?_⟩
 replace c:=sK c hb
 replace HB:=sB HB hb
 (try clear hb)
 (try clear hb2)
 (try clear hk)
 (try clear hi)
 refine hK.out _ _ ⟨(blk_cell c.out 0).trans rfl,(blk_cell c.out 1).trans rfl,(blk_cell c.out 2).trans rfl,(blk_cell c.out 3).trans rfl⟩ (fun hHeld=>?_)
 clear hK K
 refine norm_ (a':=?_) ?_ ?_
 rotate_left
 ·(
 show Act.put _ (some 16) _=_
 simp only[zP,i64_w,i32_w]
 rfl)
 refine done_ (by kernel_rfl) ?_
 try go_wp2
 go_ret
 exact⟨sq,sb⟩)
 replace F:=zB F
 subst F
 rewrite[if_neg zQ]at H
 have H':=zM H
 clear H
 have d:0≤(a:Int):=zzA
 have g:a<(l0.length:Int):=zzA
 obtain⟨j,J,s,u,x,y⟩:=at_T29 A.out a d g
 cases J
 replace s:=sX HB s
 replace u:=sX HB u
 replace x:=sX HB x
 replace y:=sX HB y
 replace d:=eq_true d
 replace g:=eq_true g
 try go_wp2_with (first|((with_reducible refine gate_dst (N:=4) rfl ?_);refine sV (N:=4) (cs:= #[.int .i64 0,.int .i64 0,.string (⟨#[]⟩:ByteArray),.int .i64 0]) (t:=29) ?_;intro b hg T hbox hb;have c:=zM (hbox);have ag:=sG HB hg;have ah:=sG HB hg;replace HB:=sB HB hb;clear hb hbox hg;obtain⟨aA,aB,aC,aD,aE,aF,aG,aH⟩:=cells4 c.out))
 have l:Aside0 (((((T.setCell ⟨b,0,none⟩ (.int .i64 ((rd_T29 l0 a).f0))).setCell ⟨b,1,none⟩ (.int .i64 ((rd_T29 l0 a).f1))).setCell ⟨b,2,none⟩ (.string ((rd_T29 l0 a).f2))).setCell ⟨b,3,none⟩ (.int .i64 ((rd_T29 l0 a).f3))).heap[b]?=some (.cells #[.int .i64 ((rd_T29 l0 a).f0),.int .i64 ((rd_T29 l0 a).f1),.string ((rd_T29 l0 a).f2),.int .i64 ((rd_T29 l0 a).f3)] 29 (0,0))):=⟨sP4 (sT c.out)⟩
 have o:Aside0 (Below w.heap.size w ((((T.setCell ⟨b,0,none⟩ (.int .i64 ((rd_T29 l0 a).f0))).setCell ⟨b,1,none⟩ (.int .i64 ((rd_T29 l0 a).f1))).setCell ⟨b,2,none⟩ (.string ((rd_T29 l0 a).f2))).setCell ⟨b,3,none⟩ (.int .i64 ((rd_T29 l0 a).f3)))):=⟨sb⟩
 (try clear c)
 (try clear HB)
 generalize ((((T.setCell ⟨b,0,none⟩ (.int .i64 ((rd_T29 l0 a).f0))).setCell ⟨b,1,none⟩ (.int .i64 ((rd_T29 l0 a).f1))).setCell ⟨b,2,none⟩ (.string ((rd_T29 l0 a).f2))).setCell ⟨b,3,none⟩ (.int .i64 ((rd_T29 l0 a).f3)))=w17 at l o ⊢
 have c:=l
 have HB:=o
 clear l o
 replace c:=zM (blk_drew c.out)
 replace HB:=zM (below_drew1 HB.out)
 have U:(a:Int)≤((l0.length:Int):Int):=zzA
 obtain⟨aI,ad,_,ak,_⟩:=info_parts info29
 have ae:l0.length≤c0:=X.out
 have af:Kd.C k29 _ (some j) l0.length l0:=A.out
 have al:=cut_to (P:=Try.prog) 43 29 .i64 Try.underlying43 ad (some j) l0.length c0 a (zzA) U ae
 have V:=Kd.C_take (m:=(a:Int).toNat) af (by omega)
 have W:y247.length=(a:Int).toNat:=(by rw[E.out,List.length_take];omega)
 rw[←E.out]at V
 rw[←W]at al
 have z:=zM V
 have R:=zM (show y247.length≤c0 from by omega)
 clear V af ae ad ak
 have aJ:=zM W
 clear W
 replace U:=eq_true U
 refine start_ (n:=5) (S:=fun w'=>w'.cell? ⟨b,0,none⟩=some (.int .i64 ((rd_T29 l0 a).f0))∧w'.cell? ⟨b,1,none⟩=some (.int .i64 ((rd_T29 l0 a).f1))∧w'.cell? ⟨b,2,none⟩=some (.string ((rd_T29 l0 a).f2))∧w'.cell? ⟨b,3,none⟩=some (.int .i64 ((rd_T29 l0 a).f3))) (ds:=[]) #[false,false,false,false,false] (by kernel_rfl) rfl rfl ⟨(blk_cell c.out 0).trans rfl,(blk_cell c.out 1).trans rfl,(blk_cell c.out 2).trans rfl,(blk_cell c.out 3).trans rfl⟩ (fun hHeld=>?_)
 generalize w17.drew=w18 at c HB z hHeld ⊢
 refine pure_ (i:=0) (N:=some 12) (v:=?_) (a':=?_) #[true,false,false,false,false] rfl rfl (by kernel_rfl) (fun _ _ _ h=>h) (Or.inl ⟨by rfl,?_⟩) ?_ ?_
 rotate_left
 ·(
 intro w'
 go_simp
 with_reducible rfl)
 rotate_left
 ·(
 simp only[zP,i64_w,i32_w]
 rfl)
 refine pure_ (i:=1) (N:=some 13) (v:=?_) (a':=?_) #[true,true,false,false,false] rfl rfl (by kernel_rfl) (fun _ _ _ h=>h) (Or.inl ⟨by rfl,?_⟩) ?_ ?_
 rotate_left
 ·(
 intro w'
 go_simp
 with_reducible rfl)
 rotate_left
 ·(
 simp only[zP,i64_w,i32_w]
 rfl)
 refine pure_ (i:=2) (N:=some 14) (v:=?_) (a':=?_) #[true,true,true,false,false] rfl rfl (by kernel_rfl) (fun _ _ _ h=>h) (Or.inl ⟨by rfl,?_⟩) ?_ ?_
 rotate_left
 ·(
 intro w'
 go_simp
 with_reducible rfl)
 rotate_left
 ·(
 simp only[zP,i64_w,i32_w]
 rfl)
 refine take_ (i:=3) (N:=some 15) (v:=?_) (a':=?_) #[true,true,true,true,false] rfl rfl (by kernel_rfl) (fun _ _ _ h=>h) (Or.inl ⟨by rfl,?_⟩) hHeld ?_ ?_
 rotate_left
 ·(
 rintro w' ⟨s0,s1,s2,s3⟩
 go_simp
 with_reducible rfl)
 rotate_left
 ·(
 simp only[zP,i64_w,i32_w]
 rfl)
 refine one_ (i:=4) (N:=some 16) #[true,true,true,true,true] rfl rfl (by kernel_rfl) (by decide) (fun K hK=>?_)
 refine goes_ Try.func113 (by kernel_rfl) rfl #[.slice (some j) y247.length c0,.agg #[.int .i64 ((rd_T29 l0 a).f0),.int .i64 ((rd_T29 l0 a).f1),.string ((rd_T29 l0 a).f2),.int .i64 ((rd_T29 l0 a).f3)]] (by rfl) rfl rfl (by(try simp only[List.map_toArray,List.map_cons,List.map_nil]);first|done|rfl|(simp only[List.length_drop,List.length_take];rfl)) ?_
 with_reducible refine(impl_Value_113.calls k1 _ _ y247 ((rd_T29 l0 a).f0) ((rd_T29 l0 a).f1) ((rd_T29 l0 a).f2) ((rd_T29 l0 a).f3) false _ ?side1 ?side2 Z.out).mono ?_
 (case side1=>exact sD (zC z.out HB.out))
 (case side2=>exact R.out)
 rintro e aK ⟨rfl,hb⟩
 refine⟨_,rfl,?_⟩
 replace c:=sK c hb
 replace HB:=sB HB hb
 (try clear hb)
 (try clear hb2)
 (try clear hk)
 (try clear hi)
 refine hK.out _ _ ⟨(blk_cell c.out 0).trans rfl,(blk_cell c.out 1).trans rfl,(blk_cell c.out 2).trans rfl,(blk_cell c.out 3).trans rfl⟩ (fun hHeld=>?_)
 clear hK K
 refine norm_ (a':=?_) ?_ ?_
 rotate_left
 ·(
 show Act.put _ (some 16) _=_
 simp only[zP,i64_w,i32_w]
 rfl)
 refine done_ (by kernel_rfl) ?_
 try go_wp2
 go_roundg k1
 case measure=>have:=Y.out;omega
 case rel=>exact⟨(wrap64 (a+1)),sr,H',⟨by have:=Y.out;omega⟩,⟨sb⟩⟩)
 rw[if_neg q]at H
 exact absurd H (by simp))
 rw[if_neg D]at H
 exact absurd H (by simp))
 rw[if_neg B]at H
 exact absurd H (by simp))
 rw[if_neg p]at H
 have c2b0:=zF p
 clear p
 obtain rfl:=zI H
 go_wp2
 go_ret
 exact⟨sq,sb⟩))
end
end Go.Proofs.Ytengilknjiobiaa.PFnExactRefsOf
