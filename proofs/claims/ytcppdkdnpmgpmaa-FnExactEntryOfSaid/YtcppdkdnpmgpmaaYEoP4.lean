/- Printed functions: laws_toPatternCode, spec_l11Node. -/
import Derived.Test.YtcppdkdnpmgpmaaYEoP0
import Derived.Test.YtcppdkdnpmgpmaaYEoP2
import Derived.Test.YtcppdkdnpmgpmaaYEoP3
import Derived.Test.YtcppdkdnpmgpmaaYEoP5
import Derived.Test.YtcppdkdnpmgpmaaYEoP6
namespace Go.Proofs.Ytcppdkdnpmgpmaa.PFnExactEntryOf
open Go.RowKit Go.Proofs.YtcppdkdnpmgpmaaG Go.Proofs.YtcppdkdnpmgpmaaW.PrintWords Go.Proofs.YtcppdkdnpmgpmaaW.PrintLast Go.Proofs.YtcppdkdnpmgpmaaW.PrintMore
attribute [local go_sem] max2_int min2_int max_two min_two max_three min_three max_four min_four
set_option linter.unusedVariables false
set_option linter.unusedSimpArgs false
def laws_toPatternCode.f (k:Nat) (l0_0:List (S47)) (l0_1:List (S50)):Option ((List (S55))×(List (S51))):=(laws_toPatternInsS.f k l0_0).bind fun t134=>((laws_toPatternEntryS.f k l0_1).bind fun t137=>(some (t134,t137)))
set_option maxHeartbeats 8000000 in
set_option maxRecDepth 100000 in
theorem laws_toPatternCode.calls (k:Nat) (A0_0:Option Addr) (c0_0:Nat) (l0_0:List (S47)) (A0_1:Option Addr) (c0_1:Nat) (l0_1:List (S50)) (r1:List (S55)) (r2:List (S51)) (w:World) (hr0_0:Kd.C k47 w A0_0 l0_0.length l0_0) (hc0_0:l0_0.length≤c0_0) (hr0_1:Kd.C k50 w A0_1 l0_1.length l0_1) (hc0_1:l0_1.length≤c0_1) (h:laws_toPatternCode.f k l0_0 l0_1=some (r1,r2)):
  Calls Try.prog 6 #[.agg #[.slice A0_0 l0_0.length c0_0,.slice A0_1 l0_1.length c0_1]] w fun e w'=>∃B D:Value,e= .returned (.agg #[B,D])∧Kd.R k55 55 w' w.heap.size (fun _=>True) B r1∧Kd.R k51 51 w' w.heap.size (fun _=>True) D r2∧Below w.heap.size w w':=by
 have ac:=Try.underlying25
 have ad:=Try.underlying32
 have O:=zM hr0_0
 have P:=zM hc0_0
 clear hr0_0 hc0_0
 have Q:=zM hr0_1
 have S:=zM hc0_1
 clear hr0_1 hc0_1
 have HB:=zM (Below.refl w.heap.size w)
 have H:((laws_toPatternInsS.f k l0_0).bind fun d=>((laws_toPatternEntryS.f k l0_1).bind fun i=>(some (d,i))))=some (r1,r2):=h
 clear h
 obtain⟨d,T,H⟩:=sO H
 obtain⟨i,U,H⟩:=sO H
 simp only[Option.some.injEq,Prod.mk.injEq]at H
 obtain⟨rfl,rfl⟩:=H
 go_enter Try.func6,Try.ntmps6
 go_wp2_with (first|((with_reducible refine gate_dst (N:=1) rfl ?_);refine sV (N:=1) (cs:= #[.slice A0_0 l0_0.length c0_0,.slice A0_1 l0_1.length c0_1]) (t:=25) ?_;intro V hg w4 hbox hb;have a:=zM (hbox);have ae:=sG HB hg;have u:=sG HB hg;replace HB:=sB HB hb;clear hb hbox hg)|((with_reducible refine gate_dst (N:=2) rfl ?_);refine sV (N:=2) (cs:= #[.slice none 0 0,.slice none 0 0]) (t:=32) ?_;intro m hg w5 hbox hb;have b:=zM (hbox);have af:=sG HB hg;have v:=sG HB hg;replace HB:=sB HB hb;have W:=sN a hg;have X:=sM a hg;replace a:=sK a hb;clear hb hbox hg)|((with_reducible refine gate_dst (N:=3) rfl ?_);refine sV (N:=3) (cs:= #[.slice none 0 0,.slice none 0 0]) (t:=32) ?_;intro n hg w6 hbox hb;have c:=zM (hbox);have ag:=sG HB hg;have x:=sG HB hg;replace HB:=sB HB hb;have E:=sN a hg;have Y:=sM a hg;replace a:=sK a hb;have y:=sN b hg;have Z:=sM b hg;replace b:=sK b hb;clear hb hbox hg;have ah:=W.out;have ai:=X.out;have aj:=E.out;have ak:=Y.out;obtain⟨al,am,an,ao⟩:=cells2 a.out)|((with_reducible refine gate_callee (f:=13) rfl ?_);refine sC (some 6) Try.func13 #[.slice A0_0 l0_0.length c0_0] (laws_toPatternInsS.calls k _ _ l0_0 d _ ?side1 ?side2 T.out) ?_;(case side1=>exact sD (zC O.out HB.out));(case side2=>exact P.out);rintro e ap ⟨aq,rfl,j,hb⟩;refine⟨_,rfl,?_⟩;have l:=zM (Kd.R_lower j (below_size zzR));replace a:=sK a hb;replace b:=sK b hb;replace c:=sK c hb;replace HB:=sB HB hb;(try clear hb);(try clear j);obtain⟨q,s,aa⟩:=Kd.R_slice l.out;subst aa;have ar:=Z.out;have au:=y.out;obtain⟨av,aw,ax,ay⟩:=cells2 c.out;obtain⟨az,aA,aB,aC⟩:=cells2 a.out)|((with_reducible refine gate_callee (f:=14) rfl ?_);refine sC (some 10) Try.func14 #[.slice A0_1 l0_1.length c0_1] (laws_toPatternEntryS.calls k _ _ l0_1 i _ ?side1 ?side2 U.out) ?_;(case side1=>exact zC Q.out zzR);(case side2=>exact S.out);rintro e aD ⟨aE,rfl,j,hb⟩;refine⟨_,rfl,?_⟩;have F:=zM (Kd.R_below (by(with_reducible repeat(first|apply Kd.R_alloc|apply Kd.R_drewN|apply Kd.R_drew));exact(Kd.R_mono (Kd.R_far (p:=⟨n,0,none⟩) (Kd.R_types l.out c.out (by decide)) (fun _ hk=>hk.2) (.slice q d.length s)) (fun _ h_=>h_.1))) hb);have G:=zM (Kd.R_lower j (below_size zzR));have I:=zM (blk_below (g:=V) (o:= .cells #[.slice A0_0 l0_0.length c0_0,.slice A0_1 l0_1.length c0_1] 25 (0,0)) (by(with_reducible repeat(first|refine blk_drewN ?_ _|refine blk_drew ?_|refine blk_alloc ?_ _));refine blk_far ?_ E.out _;exact sT a.out) hb);have J:=zM (blk_below (g:=m) (o:= .cells #[.slice none 0 0,.slice none 0 0] 32 (0,0)) (by(with_reducible repeat(first|refine blk_drewN ?_ _|refine blk_drew ?_|refine blk_alloc ?_ _));refine blk_far ?_ y.out _;exact sT b.out) hb);have K:=zM (blk_below (g:=n) (o:= .cells #[.slice q d.length s,.slice none 0 0] 32 (0,0)) (by(with_reducible repeat(first|refine blk_drewN ?_ _|refine blk_drew ?_|refine blk_alloc ?_ _));refine blk_put (cs:= #[.slice none 0 0,.slice none 0 0]) ?_ 0 _ rfl;exact sT c.out) hb);have L:=sB HB hb;clear l;clear a;clear b;clear c;clear HB;have l:=F;have M:=G;have a:=I;have b:=J;have c:=K;have HB:=L;clear F G I J K L;(try clear hb);(try clear hk);(try clear j);obtain⟨z,A,ab⟩:=Kd.R_slice M.out;subst ab;obtain⟨aF,aG,aH,aI⟩:=cells2 c.out;obtain⟨aJ,aK,aL,aM⟩:=cells2 b.out))
 refine bodyPost_ret (results_cell_row rfl _ _ m 32 #[.slice q d.length s,.slice z i.length A] (0,0) _ rfl (by(with_reducible repeat(first|refine blk_drewN ?_ _|refine blk_drew ?_|refine blk_alloc ?_ _));refine blk_put (cs:= #[.slice q d.length s,.slice none 0 0]) ?_ 1 _ rfl;(with_reducible repeat(first|refine blk_drewN ?_ _|refine blk_drew ?_|refine blk_alloc ?_ _));refine blk_put (cs:= #[.slice none 0 0,.slice none 0 0]) ?_ 0 _ rfl;(with_reducible repeat(first|refine blk_drewN ?_ _|refine blk_drew ?_|refine blk_alloc ?_ _));refine blk_far ?_ y.out _;exact sT b.out) Try.underlying32 rfl (by kernel_rfl)) rfl ?_
 exact⟨_,_,sq,by(with_reducible repeat(first|apply Kd.R_alloc|apply Kd.R_drewN|apply Kd.R_drew));exact Kd.R_mono (sRF2 (g:=m) (Kd.R_far (p:=⟨n,1,none⟩) (Kd.R_types (Kd.R_types l.out c.out (by decide)) b.out (by decide)) (fun _ hk=>hk.1.2) (.slice z i.length A)) (fun _ hk=>hk.2)) (fun _ hk=>trivial),by(with_reducible repeat(first|apply Kd.R_alloc|apply Kd.R_drewN|apply Kd.R_drew));exact Kd.R_mono (sRF2 (g:=m) (Kd.R_far (p:=⟨n,1,none⟩) (Kd.R_types (Kd.R_types M.out c.out (by decide)) b.out (by decide)) (fun _ hk=>hk.1.2) (.slice z i.length A)) (fun _ hk=>hk.2)) (fun _ hk=>trivial),sb⟩
def spec_l11Node.f (k:Nat) (a0_0:Int) (a0_1:Int) (a0_2:ByteArray) (l0_3:List (S75)):Option (Bool):=(spec_l00In.f a0_0 1 24).bind fun t155=>(if t155=true then((spec_l11Form.f k a0_0).bind fun bt156=>(if(l0_3.length:Int)=bt156.1 then(if bt156.2.toList=([115]:List UInt8)then(if a0_1=0 then(if(a0_2.size:Int)≤200 then(if a0_0=1 then(some true)else(some (!a0_2.toList.isEmpty)))else(some false))else(some false))else(if bt156.2.toList=([110]:List UInt8)then(if a0_2.toList=([]:List UInt8)then((spec_l00In.f a0_1 0 200).bind fun t158=>(some t158))else(some false))else(if bt156.2.toList=([120]:List UInt8)then(if a0_1=0 then((spec_IsName.f k a0_2).bind fun t159=>(some t159))else(some false))else(if a0_1=0 then(some (a0_2.toList.isEmpty))else(some false)))))else(some false)))else(some false))
set_option maxHeartbeats 8000000 in
set_option maxRecDepth 100000 in
theorem spec_l11Node.calls (k:Nat) (a0_0:Int) (a0_1:Int) (a0_2:ByteArray) (A0_3:Option Addr) (c0_3:Nat) (l0_3:List (S75)) (r:Bool) (w:World) (hr0_3:Kd.C k75 w A0_3 l0_3.length l0_3) (hc0_3:l0_3.length≤c0_3) (h:spec_l11Node.f k a0_0 a0_1 a0_2 l0_3=some r):
  Calls Try.prog 41 #[.agg #[.int .i64 a0_0,.int .i64 a0_1,.string a0_2,.slice A0_3 l0_3.length c0_3]] w fun e w'=>e= .returned (.bool r)∧Below w.heap.size w w':=by
 have M:=Try.underlying75
 have O:=zM hr0_3
 have P:=zM hc0_3
 clear hr0_3 hc0_3
 have HB:=zM (Below.refl w.heap.size w)
 have H:((spec_l00In.f a0_0 1 24).bind fun I=>(if I=true then((spec_l11Form.f k a0_0).bind fun F=>(if(l0_3.length:Int)=F.1 then(if F.2.toList=([115]:List UInt8)then(if a0_1=0 then(if(a0_2.size:Int)≤200 then(if a0_0=1 then(some true)else(some (!a0_2.toList.isEmpty)))else(some false))else(some false))else(if F.2.toList=([110]:List UInt8)then(if a0_2.toList=([]:List UInt8)then((spec_l00In.f a0_1 0 200).bind fun D=>(some D))else(some false))else(if F.2.toList=([120]:List UInt8)then(if a0_1=0 then((spec_IsName.f k a0_2).bind fun E=>(some E))else(some false))else(if a0_1=0 then(some (a0_2.toList.isEmpty))else(some false)))))else(some false)))else(some false)))=some r:=h
 clear h
 obtain⟨I,d,H⟩:=sO H
 by_cases G:I=true
 ·(
 subst G
 rewrite[if_pos rfl]at H
 replace H:=Option.bind_eq_some_iff.mp H
 obtain⟨⟨c,a⟩,J,H⟩:=H
 replace H:(if(l0_3.length:Int)=c then(if a.toList=([115]:List UInt8)then(if a0_1=0 then(if(a0_2.size:Int)≤200 then(if a0_0=1 then(some true)else(some (!a0_2.toList.isEmpty)))else(some false))else(some false))else(if a.toList=([110]:List UInt8)then(if a0_2.toList=([]:List UInt8)then((spec_l00In.f a0_1 0 200).bind fun D=>(some D))else(some false))else(if a.toList=([120]:List UInt8)then(if a0_1=0 then((spec_IsName.f k a0_2).bind fun E=>(some E))else(some false))else(if a0_1=0 then(some (a0_2.toList.isEmpty))else(some false)))))else(some false))=some r:=H
 have i:=zM J
 clear J
 by_cases q:(l0_3.length:Int)=c
 ·(
 rw[if_pos q]at H
 have c5b0:((l0_3.length:Int)==c)=true:=zE q
 have c5b1:((l0_3.length:Int) !=c)=false:=zY q
 clear q
 by_cases s:a.toList=([115]:List UInt8)
 ·(
 rw[if_pos s]at H
 have c6b0:(a.toList==([115]:List UInt8))=true:=zE s
 have c6b1:(a.toList !=([115]:List UInt8))=false:=zY s
 clear s
 by_cases u:a0_1=0
 ·(
 rw[if_pos u]at H
 have c7b0:(a0_1==0)=true:=zE u
 have c7b1:(a0_1 !=0)=false:=zY u
 clear u
 by_cases B:(a0_2.size:Int)≤200
 ·(
 rw[if_pos B]at H
 have c8b0:=zT B
 have c8b1:decide (a0_2.size≤200)=true:=zT (by omega)
 clear B
 by_cases v:a0_0=1
 ·(
 rw[if_pos v]at H
 have c9b0:(a0_0==1)=true:=zE v
 have c9b1:(a0_0 !=1)=false:=zY v
 clear v
 obtain rfl:=zI H
 go_enter Try.func41,Try.ntmps41
 go_wp2_with (first|((with_reducible refine gate_dst (N:=1) rfl ?_);(try(refine gate_guard (by rfl) ?_;dsimp only));refine sV (N:=1) (cs:= #[.int .i64 a0_0,.int .i64 a0_1,.string a0_2,.slice A0_3 l0_3.length c0_3]) (t:=75) ?_;intro j hg Q hbox hb;have b:=zM (hbox);have l:=sG HB hg;have m:=sG HB hg;replace HB:=sB HB hb;clear hb hbox hg;obtain⟨S,T,U,V,W,X,Y,Z⟩:=cells4 b.out)|((with_reducible refine gate_callee (f:=28) rfl ?_);refine sC (some 7) Try.func28 #[.int .i64 a0_0,.int .i64 1,.int .i64 24] (spec_l00In.calls a0_0 1 24 true _ d.out) ?_;rintro e w' ⟨rfl,⟨nd,rfl⟩⟩;refine⟨_,rfl,?_⟩)|((with_reducible refine gate_callee (f:=57) rfl ?_);refine sC (some 12) Try.func57 #[.int .i64 a0_0] (spec_l11Form.calls k a0_0 c a _ i.out) ?_;rintro e w' ⟨rfl,⟨nd,rfl⟩⟩;refine⟨_,rfl,?_⟩))
 go_ret
 exact⟨sq,sb⟩)
 rw[if_neg v]at H
 have c9b0:(a0_0==1)=false:=zN v
 have c9b1:(a0_0 !=1)=true:=zX v
 obtain rfl:=zI H
 go_enter Try.func41,Try.ntmps41
 go_wp2_with (first|((with_reducible refine gate_dst (N:=1) rfl ?_);(try(refine gate_guard (by rfl) ?_;dsimp only));refine sV (N:=1) (cs:= #[.int .i64 a0_0,.int .i64 a0_1,.string a0_2,.slice A0_3 l0_3.length c0_3]) (t:=75) ?_;intro j hg aa hbox hb;have b:=zM (hbox);have l:=sG HB hg;have m:=sG HB hg;replace HB:=sB HB hb;clear hb hbox hg;obtain⟨ab,ac,ad,ae,af,ag,ah,ai⟩:=cells4 b.out)|((with_reducible refine gate_callee (f:=28) rfl ?_);refine sC (some 7) Try.func28 #[.int .i64 a0_0,.int .i64 1,.int .i64 24] (spec_l00In.calls a0_0 1 24 true _ d.out) ?_;rintro e w' ⟨rfl,⟨nd,rfl⟩⟩;refine⟨_,rfl,?_⟩)|((with_reducible refine gate_callee (f:=57) rfl ?_);refine sC (some 12) Try.func57 #[.int .i64 a0_0] (spec_l11Form.calls k a0_0 c a _ i.out) ?_;rintro e w' ⟨rfl,⟨nd,rfl⟩⟩;refine⟨_,rfl,?_⟩))
 go_ret
 exact⟨sq,sb⟩)
 rw[if_neg B]at H
 have c8b0:=zF B
 have c8b1:decide (a0_2.size≤200)=false:=zF (by omega)
 clear B
 obtain rfl:=zI H
 go_enter Try.func41,Try.ntmps41
 go_wp2_with (first|((with_reducible refine gate_dst (N:=1) rfl ?_);(try(refine gate_guard (by rfl) ?_;dsimp only));refine sV (N:=1) (cs:= #[.int .i64 a0_0,.int .i64 a0_1,.string a0_2,.slice A0_3 l0_3.length c0_3]) (t:=75) ?_;intro j hg aj hbox hb;have b:=zM (hbox);have l:=sG HB hg;have m:=sG HB hg;replace HB:=sB HB hb;clear hb hbox hg;obtain⟨ak,al,am,an,ao,ap,aq,ar⟩:=cells4 b.out)|((with_reducible refine gate_callee (f:=28) rfl ?_);refine sC (some 7) Try.func28 #[.int .i64 a0_0,.int .i64 1,.int .i64 24] (spec_l00In.calls a0_0 1 24 true _ d.out) ?_;rintro e w' ⟨rfl,⟨nd,rfl⟩⟩;refine⟨_,rfl,?_⟩)|((with_reducible refine gate_callee (f:=57) rfl ?_);refine sC (some 12) Try.func57 #[.int .i64 a0_0] (spec_l11Form.calls k a0_0 c a _ i.out) ?_;rintro e w' ⟨rfl,⟨nd,rfl⟩⟩;refine⟨_,rfl,?_⟩))
 go_ret
 exact⟨sq,sb⟩)
 rw[if_neg u]at H
 have c7b0:(a0_1==0)=false:=zN u
 have c7b1:(a0_1 !=0)=true:=zX u
 obtain rfl:=zI H
 go_enter Try.func41,Try.ntmps41
 go_wp2_with (first|((with_reducible refine gate_dst (N:=1) rfl ?_);(try(refine gate_guard (by rfl) ?_;dsimp only));refine sV (N:=1) (cs:= #[.int .i64 a0_0,.int .i64 a0_1,.string a0_2,.slice A0_3 l0_3.length c0_3]) (t:=75) ?_;intro j hg au hbox hb;have b:=zM (hbox);have l:=sG HB hg;have m:=sG HB hg;replace HB:=sB HB hb;clear hb hbox hg;obtain⟨av,aw,ax,ay,az,aA,aB,aC⟩:=cells4 b.out)|((with_reducible refine gate_callee (f:=28) rfl ?_);refine sC (some 7) Try.func28 #[.int .i64 a0_0,.int .i64 1,.int .i64 24] (spec_l00In.calls a0_0 1 24 true _ d.out) ?_;rintro e w' ⟨rfl,⟨nd,rfl⟩⟩;refine⟨_,rfl,?_⟩)|((with_reducible refine gate_callee (f:=57) rfl ?_);refine sC (some 12) Try.func57 #[.int .i64 a0_0] (spec_l11Form.calls k a0_0 c a _ i.out) ?_;rintro e w' ⟨rfl,⟨nd,rfl⟩⟩;refine⟨_,rfl,?_⟩))
 go_ret
 exact⟨sq,sb⟩)
 rw[if_neg s]at H
 have c6b0:(a.toList==([115]:List UInt8))=false:=zN s
 have c6b1:(a.toList !=([115]:List UInt8))=true:=zX s
 by_cases x:a.toList=([110]:List UInt8)
 ·(
 rw[if_pos x]at H
 have c18b0:(a.toList==([110]:List UInt8))=true:=zE x
 have c18b1:(a.toList !=([110]:List UInt8))=false:=zY x
 clear x
 by_cases n:a0_2.toList=([]:List UInt8)
 ·(
 rw[if_pos n]at H
 have c19b0:(a0_2.toList==([]:List UInt8))=true:=zE n
 have c19b1:(a0_2.toList !=([]:List UInt8))=false:=zY n
 have c19b2:a0_2.toList.isEmpty=true:=by simpa using n
 clear n
 obtain⟨D,K,H⟩:=sO H
 obtain rfl:=zI H
 go_enter Try.func41,Try.ntmps41
 go_wp2_with (first|((with_reducible refine gate_dst (N:=1) rfl ?_);(try(refine gate_guard (by rfl) ?_;dsimp only));refine sV (N:=1) (cs:= #[.int .i64 a0_0,.int .i64 a0_1,.string a0_2,.slice A0_3 l0_3.length c0_3]) (t:=75) ?_;intro j hg aD hbox hb;have b:=zM (hbox);have l:=sG HB hg;have m:=sG HB hg;replace HB:=sB HB hb;clear hb hbox hg;obtain⟨aE,aF,aG,aH,aI,aJ,aK,aL⟩:=cells4 b.out)|((with_reducible refine gate_callee (f:=28) rfl ?_);refine sC (some 7) Try.func28 #[.int .i64 a0_0,.int .i64 1,.int .i64 24] (spec_l00In.calls a0_0 1 24 true _ d.out) ?_;rintro e w' ⟨rfl,⟨nd,rfl⟩⟩;refine⟨_,rfl,?_⟩)|((with_reducible refine gate_callee (f:=57) rfl ?_);refine sC (some 12) Try.func57 #[.int .i64 a0_0] (spec_l11Form.calls k a0_0 c a _ i.out) ?_;rintro e w' ⟨rfl,⟨nd,rfl⟩⟩;refine⟨_,rfl,?_⟩)|(go_at_call 28;(with_reducible refine(spec_l00In.calls a0_1 0 200 D _ K.out).mono ?_);rintro e w' ⟨rfl,⟨nd,rfl⟩⟩))
 go_ret
 exact⟨sq,sb⟩)
 rw[if_neg n]at H
 have c19b0:(a0_2.toList==([]:List UInt8))=false:=zN n
 have c19b1:(a0_2.toList !=([]:List UInt8))=true:=zX n
 have c19b2:a0_2.toList.isEmpty=false:=by simpa using n
 obtain rfl:=zI H
 go_enter Try.func41,Try.ntmps41
 go_wp2_with (first|((with_reducible refine gate_dst (N:=1) rfl ?_);(try(refine gate_guard (by rfl) ?_;dsimp only));refine sV (N:=1) (cs:= #[.int .i64 a0_0,.int .i64 a0_1,.string a0_2,.slice A0_3 l0_3.length c0_3]) (t:=75) ?_;intro j hg aM hbox hb;have b:=zM (hbox);have l:=sG HB hg;have m:=sG HB hg;replace HB:=sB HB hb;clear hb hbox hg;obtain⟨aN,aO,aP,aQ,aR,aS,aT,aU⟩:=cells4 b.out)|((with_reducible refine gate_callee (f:=28) rfl ?_);refine sC (some 7) Try.func28 #[.int .i64 a0_0,.int .i64 1,.int .i64 24] (spec_l00In.calls a0_0 1 24 true _ d.out) ?_;rintro e w' ⟨rfl,⟨nd,rfl⟩⟩;refine⟨_,rfl,?_⟩)|((with_reducible refine gate_callee (f:=57) rfl ?_);refine sC (some 12) Try.func57 #[.int .i64 a0_0] (spec_l11Form.calls k a0_0 c a _ i.out) ?_;rintro e w' ⟨rfl,⟨nd,rfl⟩⟩;refine⟨_,rfl,?_⟩))
 go_ret
 exact⟨sq,sb⟩)
 rw[if_neg x]at H
 have c18b0:(a.toList==([110]:List UInt8))=false:=zN x
 have c18b1:(a.toList !=([110]:List UInt8))=true:=zX x
 by_cases y:a.toList=([120]:List UInt8)
 ·(
 rw[if_pos y]at H
 have c25b0:(a.toList==([120]:List UInt8))=true:=zE y
 have c25b1:(a.toList !=([120]:List UInt8))=false:=zY y
 clear y
 by_cases z:a0_1=0
 ·(
 rw[if_pos z]at H
 have c26b0:(a0_1==0)=true:=zE z
 have c26b1:(a0_1 !=0)=false:=zY z
 clear z
 obtain⟨E,L,H⟩:=sO H
 obtain rfl:=zI H
 go_enter Try.func41,Try.ntmps41
 go_wp2_with (first|((with_reducible refine gate_dst (N:=1) rfl ?_);(try(refine gate_guard (by rfl) ?_;dsimp only));refine sV (N:=1) (cs:= #[.int .i64 a0_0,.int .i64 a0_1,.string a0_2,.slice A0_3 l0_3.length c0_3]) (t:=75) ?_;intro j hg aV hbox hb;have b:=zM (hbox);have l:=sG HB hg;have m:=sG HB hg;replace HB:=sB HB hb;clear hb hbox hg;obtain⟨aW,aX,aY,aZ,a0,a1,a2,a3⟩:=cells4 b.out)|((with_reducible refine gate_callee (f:=28) rfl ?_);refine sC (some 7) Try.func28 #[.int .i64 a0_0,.int .i64 1,.int .i64 24] (spec_l00In.calls a0_0 1 24 true _ d.out) ?_;rintro e w' ⟨rfl,⟨nd,rfl⟩⟩;refine⟨_,rfl,?_⟩)|((with_reducible refine gate_callee (f:=57) rfl ?_);refine sC (some 12) Try.func57 #[.int .i64 a0_0] (spec_l11Form.calls k a0_0 c a _ i.out) ?_;rintro e w' ⟨rfl,⟨nd,rfl⟩⟩;refine⟨_,rfl,?_⟩)|(go_at_call 29;(with_reducible refine(spec_IsName.calls k a0_2 E _ L.out).mono ?_);rintro e w' ⟨rfl,⟨nd,rfl⟩⟩))
 go_ret
 exact⟨sq,sb⟩)
 rw[if_neg z]at H
 have c26b0:(a0_1==0)=false:=zN z
 have c26b1:(a0_1 !=0)=true:=zX z
 obtain rfl:=zI H
 go_enter Try.func41,Try.ntmps41
 go_wp2_with (first|((with_reducible refine gate_dst (N:=1) rfl ?_);(try(refine gate_guard (by rfl) ?_;dsimp only));refine sV (N:=1) (cs:= #[.int .i64 a0_0,.int .i64 a0_1,.string a0_2,.slice A0_3 l0_3.length c0_3]) (t:=75) ?_;intro j hg a4 hbox hb;have b:=zM (hbox);have l:=sG HB hg;have m:=sG HB hg;replace HB:=sB HB hb;clear hb hbox hg;obtain⟨a5,a6,a7,a8,a9,ba,bb,bc⟩:=cells4 b.out)|((with_reducible refine gate_callee (f:=28) rfl ?_);refine sC (some 7) Try.func28 #[.int .i64 a0_0,.int .i64 1,.int .i64 24] (spec_l00In.calls a0_0 1 24 true _ d.out) ?_;rintro e w' ⟨rfl,⟨nd,rfl⟩⟩;refine⟨_,rfl,?_⟩)|((with_reducible refine gate_callee (f:=57) rfl ?_);refine sC (some 12) Try.func57 #[.int .i64 a0_0] (spec_l11Form.calls k a0_0 c a _ i.out) ?_;rintro e w' ⟨rfl,⟨nd,rfl⟩⟩;refine⟨_,rfl,?_⟩))
 go_ret
 exact⟨sq,sb⟩)
 rw[if_neg y]at H
 have c25b0:(a.toList==([120]:List UInt8))=false:=zN y
 have c25b1:(a.toList !=([120]:List UInt8))=true:=zX y
 by_cases A:a0_1=0
 ·(
 rw[if_pos A]at H
 have c32b0:(a0_1==0)=true:=zE A
 have c32b1:(a0_1 !=0)=false:=zY A
 clear A
 obtain rfl:=zI H
 go_enter Try.func41,Try.ntmps41
 go_wp2_with (first|((with_reducible refine gate_dst (N:=1) rfl ?_);(try(refine gate_guard (by rfl) ?_;dsimp only));refine sV (N:=1) (cs:= #[.int .i64 a0_0,.int .i64 a0_1,.string a0_2,.slice A0_3 l0_3.length c0_3]) (t:=75) ?_;intro j hg bd hbox hb;have b:=zM (hbox);have l:=sG HB hg;have m:=sG HB hg;replace HB:=sB HB hb;clear hb hbox hg;obtain⟨be,bf,bg,bh,bi,bj,bk,bl⟩:=cells4 b.out)|((with_reducible refine gate_callee (f:=28) rfl ?_);refine sC (some 7) Try.func28 #[.int .i64 a0_0,.int .i64 1,.int .i64 24] (spec_l00In.calls a0_0 1 24 true _ d.out) ?_;rintro e w' ⟨rfl,⟨nd,rfl⟩⟩;refine⟨_,rfl,?_⟩)|((with_reducible refine gate_callee (f:=57) rfl ?_);refine sC (some 12) Try.func57 #[.int .i64 a0_0] (spec_l11Form.calls k a0_0 c a _ i.out) ?_;rintro e w' ⟨rfl,⟨nd,rfl⟩⟩;refine⟨_,rfl,?_⟩))
 go_ret
 exact⟨sq,sb⟩)
 rw[if_neg A]at H
 have c32b0:(a0_1==0)=false:=zN A
 have c32b1:(a0_1 !=0)=true:=zX A
 obtain rfl:=zI H
 go_enter Try.func41,Try.ntmps41
 go_wp2_with (first|((with_reducible refine gate_dst (N:=1) rfl ?_);(try(refine gate_guard (by rfl) ?_;dsimp only));refine sV (N:=1) (cs:= #[.int .i64 a0_0,.int .i64 a0_1,.string a0_2,.slice A0_3 l0_3.length c0_3]) (t:=75) ?_;intro j hg bm hbox hb;have b:=zM (hbox);have l:=sG HB hg;have m:=sG HB hg;replace HB:=sB HB hb;clear hb hbox hg;obtain⟨bn,bo,bp,bq,br,bs,bt,bu⟩:=cells4 b.out)|((with_reducible refine gate_callee (f:=28) rfl ?_);refine sC (some 7) Try.func28 #[.int .i64 a0_0,.int .i64 1,.int .i64 24] (spec_l00In.calls a0_0 1 24 true _ d.out) ?_;rintro e w' ⟨rfl,⟨nd,rfl⟩⟩;refine⟨_,rfl,?_⟩)|((with_reducible refine gate_callee (f:=57) rfl ?_);refine sC (some 12) Try.func57 #[.int .i64 a0_0] (spec_l11Form.calls k a0_0 c a _ i.out) ?_;rintro e w' ⟨rfl,⟨nd,rfl⟩⟩;refine⟨_,rfl,?_⟩))
 go_ret
 exact⟨sq,sb⟩)
 rw[if_neg q]at H
 have c5b0:((l0_3.length:Int)==c)=false:=zN q
 have c5b1:((l0_3.length:Int) !=c)=true:=zX q
 obtain rfl:=zI H
 go_enter Try.func41,Try.ntmps41
 go_wp2_with (first|((with_reducible refine gate_dst (N:=1) rfl ?_);(try(refine gate_guard (by rfl) ?_;dsimp only));refine sV (N:=1) (cs:= #[.int .i64 a0_0,.int .i64 a0_1,.string a0_2,.slice A0_3 l0_3.length c0_3]) (t:=75) ?_;intro j hg bv hbox hb;have b:=zM (hbox);have l:=sG HB hg;have m:=sG HB hg;replace HB:=sB HB hb;clear hb hbox hg;obtain⟨bw,bx,bz,bA,bB,bC,bD,bE⟩:=cells4 b.out)|((with_reducible refine gate_callee (f:=28) rfl ?_);refine sC (some 7) Try.func28 #[.int .i64 a0_0,.int .i64 1,.int .i64 24] (spec_l00In.calls a0_0 1 24 true _ d.out) ?_;rintro e w' ⟨rfl,⟨nd,rfl⟩⟩;refine⟨_,rfl,?_⟩)|((with_reducible refine gate_callee (f:=57) rfl ?_);refine sC (some 12) Try.func57 #[.int .i64 a0_0] (spec_l11Form.calls k a0_0 c a _ i.out) ?_;rintro e w' ⟨rfl,⟨nd,rfl⟩⟩;refine⟨_,rfl,?_⟩))
 go_ret
 exact⟨sq,sb⟩)
 replace G:=zB G
 subst G
 rewrite[if_neg zQ]at H
 obtain rfl:=zI H
 go_enter Try.func41,Try.ntmps41
 go_wp2_with (first|((with_reducible refine gate_dst (N:=1) rfl ?_);(try(refine gate_guard (by rfl) ?_;dsimp only));refine sV (N:=1) (cs:= #[.int .i64 a0_0,.int .i64 a0_1,.string a0_2,.slice A0_3 l0_3.length c0_3]) (t:=75) ?_;intro j hg bF hbox hb;have b:=zM (hbox);have l:=sG HB hg;have m:=sG HB hg;replace HB:=sB HB hb;clear hb hbox hg;obtain⟨bG,bH,bI,bJ,bK,bL,bM,bN⟩:=cells4 b.out)|((with_reducible refine gate_callee (f:=28) rfl ?_);refine sC (some 7) Try.func28 #[.int .i64 a0_0,.int .i64 1,.int .i64 24] (spec_l00In.calls a0_0 1 24 false _ d.out) ?_;rintro e w' ⟨rfl,⟨nd,rfl⟩⟩;refine⟨_,rfl,?_⟩))
 go_ret
 exact⟨sq,sb⟩
end Go.Proofs.Ytcppdkdnpmgpmaa.PFnExactEntryOf
