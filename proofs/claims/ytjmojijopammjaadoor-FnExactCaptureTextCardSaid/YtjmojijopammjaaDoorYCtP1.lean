/- Printed functions: laws_szCapture, laws_toCapture, spec_l16Below. -/
import Derived.Test.YtjmojijopammjaaDoorYCtP0
namespace Go.Proofs.YtjmojijopammjaaDoor.PFnExactCaptureText
open Go.RowKit Go.Proofs.YtjmojijopammjaaDoorG Go.Proofs.YtjmojijopammjaaDoorW.PrintWords Go.Proofs.YtjmojijopammjaaDoorW.PrintLast Go.Proofs.YtjmojijopammjaaDoorW.PrintMore
attribute [local go_sem] max2_int min2_int max_two min_two max_three min_three max_four min_four
set_option linter.unusedVariables false
set_option linter.unusedSimpArgs false
def laws_szCapture.f (a0_0:ByteArray) (a0_1:ByteArray) (a0_2:Int) (a0_3:Int) (a1:Int):Option (Int):=if(wrap64 (a1-(a0_0.size:Int)))<0 then(some (-1))else(if(wrap64 ((wrap64 (a1-(a0_0.size:Int)))-(a0_1.size:Int)))<0 then(some (-1))else(some (wrap64 ((wrap64 (a1-(a0_0.size:Int)))-(a0_1.size:Int)))))
set_option maxHeartbeats 8000000 in
set_option maxRecDepth 100000 in
theorem laws_szCapture.calls (a0_0:ByteArray) (a0_1:ByteArray) (a0_2:Int) (a0_3:Int) (a1:Int) (r:Int) (w:World) (h:laws_szCapture.f a0_0 a0_1 a0_2 a0_3 a1=some r):
  Calls Tryd.prog 9 #[.agg #[.string a0_0,.string a0_1,.int .i64 a0_2,.int .i64 a0_3],.int .i64 a1] w fun e w'=>e= .returned (.int .i64 r)∧Below w.heap.size w w':=by
 have j:=Tryd.underlying23
 have HB:=zM (Below.refl w.heap.size w)
 have H:(if(wrap64 (a1-(a0_0.size:Int)))<0 then(some (-1))else(if(wrap64 ((wrap64 (a1-(a0_0.size:Int)))-(a0_1.size:Int)))<0 then(some (-1))else(some (wrap64 ((wrap64 (a1-(a0_0.size:Int)))-(a0_1.size:Int))))))=some r:=h
 clear h
 by_cases a:(wrap64 (a1-(a0_0.size:Int)))<0
 ·(
 rw[if_pos a]at H
 have c3b0:=zT a
 clear a
 obtain rfl:=zI H
 go_enter Tryd.func9,Tryd.ntmps9
 go_wp2_with (first|((with_reducible refine gate_dst (N:=2) rfl ?_);refine sV (N:=2) (cs:= #[.string a0_0,.string a0_1,.int .i64 a0_2,.int .i64 a0_3]) (t:=23) ?_;intro d hg l hbox hb;have c:=zM (hbox);have g:=sG HB hg;have i:=sG HB hg;replace HB:=sB HB hb;clear hb hbox hg;obtain⟨m,n,o,p,q,s,u,v⟩:=cells4 c.out))
 go_ret
 exact⟨sq,sb⟩)
 rw[if_neg a]at H
 have c3b0:=zF a
 clear a
 by_cases b:(wrap64 ((wrap64 (a1-(a0_0.size:Int)))-(a0_1.size:Int)))<0
 ·(
 rw[if_pos b]at H
 have c6b0:=zT b
 clear b
 obtain rfl:=zI H
 go_enter Tryd.func9,Tryd.ntmps9
 go_wp2_with (first|((with_reducible refine gate_dst (N:=2) rfl ?_);refine sV (N:=2) (cs:= #[.string a0_0,.string a0_1,.int .i64 a0_2,.int .i64 a0_3]) (t:=23) ?_;intro d hg x hbox hb;have c:=zM (hbox);have g:=sG HB hg;have i:=sG HB hg;replace HB:=sB HB hb;clear hb hbox hg;obtain⟨y,z,A,B,C,D,E,F⟩:=cells4 c.out))
 go_ret
 exact⟨sq,sb⟩)
 rw[if_neg b]at H
 have c6b0:=zF b
 clear b
 obtain rfl:=zI H
 go_enter Tryd.func9,Tryd.ntmps9
 go_wp2_with (first|((with_reducible refine gate_dst (N:=2) rfl ?_);refine sV (N:=2) (cs:= #[.string a0_0,.string a0_1,.int .i64 a0_2,.int .i64 a0_3]) (t:=23) ?_;intro d hg G hbox hb;have c:=zM (hbox);have g:=sG HB hg;have i:=sG HB hg;replace HB:=sB HB hb;clear hb hbox hg;obtain⟨I,J,K,L,O,Q,R,S⟩:=cells4 c.out))
 go_ret
 exact⟨sq,sb⟩
def laws_toCapture.f (a0_0:ByteArray) (a0_1:ByteArray) (a0_2:Int) (a0_3:Int):Option (ByteArray×ByteArray×Int×Int):=some (a0_0,a0_1,a0_2,a0_3)
set_option maxHeartbeats 8000000 in
set_option maxRecDepth 100000 in
theorem laws_toCapture.calls (a0_0:ByteArray) (a0_1:ByteArray) (a0_2:Int) (a0_3:Int) (r1:ByteArray) (r2:ByteArray) (r3:Int) (r4:Int) (w:World) (h:laws_toCapture.f a0_0 a0_1 a0_2 a0_3=some (r1,r2,r3,r4)):
  Calls Tryd.prog 11 #[.agg #[.string a0_0,.string a0_1,.int .i64 a0_2,.int .i64 a0_3]] w fun e w'=>e= .returned (.agg #[.string r1,.string r2,.int .i64 r3,.int .i64 r4])∧Below w.heap.size w w':=by
 have o:=Tryd.underlying23
 have p:=Tryd.underlying26
 have HB:=zM (Below.refl w.heap.size w)
 have H:(some (a0_0,a0_1,a0_2,a0_3))=some (r1,r2,r3,r4):=h
 clear h
 simp only[Option.some.injEq,Prod.mk.injEq]at H
 obtain⟨rfl,rfl,rfl,rfl⟩:=H
 go_enter Tryd.func11,Tryd.ntmps11
 go_wp2_with (first|((with_reducible refine gate_dst (N:=1) rfl ?_);refine sV (N:=1) (cs:= #[.string a0_0,.string a0_1,.int .i64 a0_2,.int .i64 a0_3]) (t:=23) ?_;intro q hg s hbox hb;have a:=zM (hbox);have u:=sG HB hg;have v:=sG HB hg;replace HB:=sB HB hb;clear hb hbox hg)|((with_reducible refine gate_dst (N:=2) rfl ?_);refine sV (N:=2) (cs:= #[.string (⟨#[]⟩:ByteArray),.string (⟨#[]⟩:ByteArray),.int .i64 0,.int .i64 0]) (t:=26) ?_;intro d hg x hbox hb;have b:=zM (hbox);have y:=sG HB hg;have z:=sG HB hg;replace HB:=sB HB hb;have g:=sN a hg;have i:=sM a hg;replace a:=sK a hb;clear hb hbox hg)|((with_reducible refine gate_dst (N:=3) rfl ?_);refine sV (N:=3) (cs:= #[.string (⟨#[]⟩:ByteArray),.string (⟨#[]⟩:ByteArray),.int .i64 0,.int .i64 0]) (t:=26) ?_;intro A hg B hbox hb;have j:=zM (hbox);have C:=sG HB hg;have D:=sG HB hg;replace HB:=sB HB hb;have l:=sN a hg;have m:=sM a hg;replace a:=sK a hb;have c:=sN b hg;have n:=sM b hg;replace b:=sK b hb;clear hb hbox hg;have E:=g.out;have F:=i.out;have G:=l.out;have I:=m.out;obtain⟨J,K,L,O,Q,R,S,T⟩:=cells4 a.out;have U:=n.out;have V:=c.out;obtain⟨W,X,Y,Z,aa,ab,ac,ad⟩:=cells4 j.out;obtain⟨ae,af,ag,ah,ai,aj,ak,al⟩:=cells4 b.out))
 refine bodyPost_ret (results_cell_row rfl _ _ d 26 #[.string a0_0,.string a0_1,.int .i64 a0_2,.int .i64 a0_3] (0,0) _ rfl (by(with_reducible repeat(first|refine blk_drewN ?_ _|refine blk_drew ?_|refine blk_alloc ?_ _));refine blk_put (cs:= #[.string a0_0,.string a0_1,.int .i64 a0_2,.int .i64 0]) ?_ 3 _ rfl;(with_reducible repeat(first|refine blk_drewN ?_ _|refine blk_drew ?_|refine blk_alloc ?_ _));refine blk_put (cs:= #[.string a0_0,.string a0_1,.int .i64 0,.int .i64 0]) ?_ 2 _ rfl;(with_reducible repeat(first|refine blk_drewN ?_ _|refine blk_drew ?_|refine blk_alloc ?_ _));refine blk_put (cs:= #[.string a0_0,.string (⟨#[]⟩:ByteArray),.int .i64 0,.int .i64 0]) ?_ 1 _ rfl;(with_reducible repeat(first|refine blk_drewN ?_ _|refine blk_drew ?_|refine blk_alloc ?_ _));refine blk_put (cs:= #[.string (⟨#[]⟩:ByteArray),.string (⟨#[]⟩:ByteArray),.int .i64 0,.int .i64 0]) ?_ 0 _ rfl;(with_reducible repeat(first|refine blk_drewN ?_ _|refine blk_drew ?_|refine blk_alloc ?_ _));refine blk_far ?_ c.out _;(with_reducible repeat(first|refine blk_drewN ?_ _|refine blk_drew ?_|refine blk_alloc ?_ _));refine blk_far ?_ c.out _;(with_reducible repeat(first|refine blk_drewN ?_ _|refine blk_drew ?_|refine blk_alloc ?_ _));refine blk_far ?_ c.out _;(with_reducible repeat(first|refine blk_drewN ?_ _|refine blk_drew ?_|refine blk_alloc ?_ _));refine blk_far ?_ c.out _;exact sT b.out) Tryd.underlying26 rfl (by kernel_rfl)) rfl ?_
 exact⟨sq,sb⟩
def spec_l16Below.f : Nat → Int → Option (ByteArray)
 |0,_=>none
 |k+1,a0=>(some (([(wrap64 (48-(Int.tmod a0 10)))%256]:List Int):List Int)).bind fun y105=>(if a0>(-10)then(some (strOfNums y105))else((spec_l16Below.f k (wrap64 (Int.tdiv a0 10))).bind fun t108=>(if t108.size+((strOfNums y105).size)≤9223372036854775807 then(some (t108++(strOfNums y105)))else(none))))
set_option maxHeartbeats 8000000 in
set_option maxRecDepth 100000 in
theorem spec_l16Below.calls (k:Nat):∀(a0:Int) (r:ByteArray) (w:World) (h:spec_l16Below.f k a0=some r),
  Calls Tryd.prog 83 #[.int .i64 a0] w fun e w'=>e= .returned (.string r)∧Below w.heap.size w w':=by
 induction k using Nat.strongRecOn with
 |_ k ih=>
 intro a0 r w h
 cases k with
 |zero=>exact absurd h (by simp[spec_l16Below.f])
 |succ k=>
 simp only[spec_l16Below.f]at h
 have HB:=zM (Below.refl w.heap.size w)
 have H:((some (([(wrap64 (48-(Int.tmod a0 10)))%256]:List Int):List Int)).bind fun a=>(if a0>(-10)then(some (strOfNums a))else((spec_l16Below.f k (wrap64 (Int.tdiv a0 10))).bind fun b=>(if b.size+((strOfNums a).size)≤9223372036854775807 then(some (b++(strOfNums a)))else(none)))))=some r:=h
 clear h
 obtain⟨a,hy105⟩:∃p:List Int,p=(([(wrap64 (48-(Int.tmod a0 10)))%256]:List Int)):=⟨_,rfl⟩
 replace H:(if a0>(-10)then(some (strOfNums a))else((spec_l16Below.f k (wrap64 (Int.tdiv a0 10))).bind fun b=>(if b.size+((strOfNums a).size)≤9223372036854775807 then(some (b++(strOfNums a)))else(none))))=some r:=by first|(rw[hy105];with_reducible exact H)|(have m:=(Option.bind_some _ _).symm.trans H;rw[hy105];with_reducible exact m)|(have m:=(Option.bind_some _ _).symm.trans H;with_reducible exact m)|with_reducible exact H|(rw[hy105];exact H)|exact H
 have l:=zM hy105
 clear hy105
 by_cases c:a0>(-10)
 ·(
 rw[if_pos c]at H
 have c2b0:decide ((-10)<a0)=true:=zT c
 clear c
 obtain rfl:=zI H
 go_enter Tryd.func83,Tryd.ntmps83
 go_wp2_with (first|((with_reducible refine gate_dst (N:=8) rfl ?_);refine Kd.R_lit (Kd.int .u8) _ 5 ?hg (N:=8) ?hd (xs:=([(wrap64 (48-(Int.tmod a0 10)))%256]:List Int)) (inner:=[.int .u8 ((wrap64 (48-(Int.tmod a0 10)))%256)]) (ok:=fun _=>True) (okp:=fun _=>True) ?hr ?hp (fun _ hk=>hk) trivial (Below.refl _ _) (Nat.le_refl _) (by simp) ?_;(case hd=>rfl);(case hg=>rfl);(case hr=>first|(go_simp;done)|(go_simp;rfl));(case hp=>exact(Reps.one (show Kd.M (Kd.int .u8) _ _ _ ((wrap64 (48-(Int.tmod a0 10)))%256) [.int .u8 ((wrap64 (48-(Int.tmod a0 10)))%256)] from rfl) (Reps.none _ _)));intro q u d hb n o;clear n o;(first|rw[←l.out]at d|(simp only[Int.reduceToNat]at d;rw[←l.out]at d));have g:=zM (Kd.R_lower d (below_size (sH HB.out)));replace HB:=sB HB hb;clear hb d;have v:=own_string (P:=Tryd.prog) Tryd.underlying51 Tryd.underlying5 Tryd.underlying9 (Kd.own_of_R g.out)))
 go_ret
 exact⟨sq,sb⟩)
 rw[if_neg c]at H
 have c2b0:decide ((-10)<a0)=false:=zF c
 clear c
 obtain⟨b,s,H⟩:=sO H
 by_cases i:b.size+((strOfNums a).size)≤9223372036854775807
 ·(
 rw[if_pos i]at H
 have c7b0:=eq_true i
 have c7b1:=zT i
 try have c7b2:(9223372036854775807<b.size+((strOfNums a).size))=False:=eq_false (Nat.not_lt.2 i)
 obtain rfl:=zI H
 go_enter Tryd.func83,Tryd.ntmps83
 go_wp2_with (first|((with_reducible refine gate_dst (N:=8) rfl ?_);refine Kd.R_lit (Kd.int .u8) _ 5 ?hg (N:=8) ?hd (xs:=([(wrap64 (48-(Int.tmod a0 10)))%256]:List Int)) (inner:=[.int .u8 ((wrap64 (48-(Int.tmod a0 10)))%256)]) (ok:=fun _=>True) (okp:=fun _=>True) ?hr ?hp (fun _ hk=>hk) trivial (Below.refl _ _) (Nat.le_refl _) (by simp) ?_;(case hd=>rfl);(case hg=>rfl);(case hr=>first|(go_simp;done)|(go_simp;rfl));(case hp=>exact(Reps.one (show Kd.M (Kd.int .u8) _ _ _ ((wrap64 (48-(Int.tmod a0 10)))%256) [.int .u8 ((wrap64 (48-(Int.tmod a0 10)))%256)] from rfl) (Reps.none _ _)));intro q x j hb n o;clear n o;(first|rw[←l.out]at j|(simp only[Int.reduceToNat]at j;rw[←l.out]at j));have g:=zM (Kd.R_lower j (below_size (sH HB.out)));replace HB:=sB HB hb;clear hb j;have y:=own_string (P:=Tryd.prog) Tryd.underlying51 Tryd.underlying5 Tryd.underlying9 (Kd.own_of_R g.out))|((with_reducible refine gate_callee (f:=83) rfl ?_);refine sC (some 15) Tryd.func83 #[.int .i64 (wrap64 (Int.tdiv a0 10))] (ih k (by omega) (wrap64 (Int.tdiv a0 10)) b _ s.out) ?_;rintro e z ⟨rfl,hb⟩;refine⟨_,rfl,?_⟩;replace g:=zM (Kd.R_below (sE g.out) hb);replace HB:=sB HB hb;(try clear hb);(try clear hk)))
 go_ret
 exact⟨sq,sb⟩)
 rw[if_neg i]at H
 exact absurd H (by simp)
end Go.Proofs.YtjmojijopammjaaDoor.PFnExactCaptureText
