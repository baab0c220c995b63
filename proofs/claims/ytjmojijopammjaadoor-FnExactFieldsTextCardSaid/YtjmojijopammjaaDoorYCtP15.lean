/- Printed functions: laws_szField, laws_szFieldS, laws_toField, laws_toFieldS. -/
import Derived.Test.YtjmojijopammjaaDoorYCtP0
namespace Go.Proofs.YtjmojijopammjaaDoor.PFnExactCaptureText
open Go.RowKit Go.Proofs.YtjmojijopammjaaDoorG Go.Proofs.YtjmojijopammjaaDoorW.PrintWords Go.Proofs.YtjmojijopammjaaDoorW.PrintLast Go.Proofs.YtjmojijopammjaaDoorW.PrintMore
attribute [local go_sem] max2_int min2_int max_two min_two max_three min_three max_four min_four
set_option linter.unusedVariables false
set_option linter.unusedSimpArgs false
def laws_szField.f (a0_0:Bool) (a0_1:Int) (a0_2:ByteArray) (a1:Int):Option (Int):=if(wrap64 (a1-(a0_2.size:Int)))<0 then(some (-1))else(some (wrap64 (a1-(a0_2.size:Int))))
set_option maxHeartbeats 8000000 in
set_option maxRecDepth 100000 in
theorem laws_szField.calls (a0_0:Bool) (a0_1:Int) (a0_2:ByteArray) (a1:Int) (r:Int) (w:World) (h:laws_szField.f a0_0 a0_1 a0_2 a1=some r):
  Calls Tryd.prog 39 #[.agg #[.bool a0_0,.int .i64 a0_1,.string a0_2],.int .i64 a1] w fun e w'=>e= .returned (.int .i64 r)∧Below w.heap.size w w':=by
 have i:=Tryd.underlying62
 have HB:=zM (Below.refl w.heap.size w)
 have H:(if(wrap64 (a1-(a0_2.size:Int)))<0 then(some (-1))else(some (wrap64 (a1-(a0_2.size:Int)))))=some r:=h
 clear h
 by_cases a:(wrap64 (a1-(a0_2.size:Int)))<0
 ·(
 rw[if_pos a]at H
 have c3b0:=zT a
 clear a
 obtain rfl:=zI H
 go_enter Tryd.func39,Tryd.ntmps39
 go_wp2_with (first|((with_reducible refine gate_dst (N:=2) rfl ?_);refine sV (N:=2) (cs:= #[.bool a0_0,.int .i64 a0_1,.string a0_2]) (t:=62) ?_;intro c hg l hbox hb;have b:=zM (hbox);have d:=sG HB hg;have g:=sG HB hg;replace HB:=sB HB hb;clear hb hbox hg;obtain⟨m,n,o,q,s,u⟩:=cells3 b.out))
 go_ret
 exact⟨sq,sb⟩)
 rw[if_neg a]at H
 have c3b0:=zF a
 clear a
 obtain rfl:=zI H
 go_enter Tryd.func39,Tryd.ntmps39
 go_wp2_with (first|((with_reducible refine gate_dst (N:=2) rfl ?_);refine sV (N:=2) (cs:= #[.bool a0_0,.int .i64 a0_1,.string a0_2]) (t:=62) ?_;intro c hg x hbox hb;have b:=zM (hbox);have d:=sG HB hg;have g:=sG HB hg;replace HB:=sB HB hb;clear hb hbox hg;obtain⟨y,z,A,B,D,E⟩:=cells3 b.out))
 go_ret
 exact⟨sq,sb⟩
def laws_szFieldS.l0 : Nat → List (S62) → Int → Int → Option (Int)
 |0,_,_,_=>none
 |k+1,x0,x1,x5=>if x5<(x0.length:Int)then(if 0≤x5 then((laws_szField.f ((rd_T62 x0 x5).f0) ((rd_T62 x0 x5).f1) ((rd_T62 x0 x5).f2) x1).bind fun t260=>(if t260<0 then(some (-1))else(laws_szFieldS.l0 k x0 t260 (wrap64 (x5+1)))))else(none))else(some x1)
def laws_szFieldS.f (k:Nat) (l0:List (S62)) (a1:Int):Option (Int):=if(wrap64 (a1-(l0.length:Int)))<0 then(some (-1))else(laws_szFieldS.l0 k l0 (wrap64 (a1-(l0.length:Int))) 0)
set_option maxHeartbeats 8000000 in
set_option maxRecDepth 100000 in
theorem laws_szFieldS.calls (k:Nat) (A0:Option Addr) (c0:Nat) (l0:List (S62)) (a1:Int) (r:Int) (w:World) (hr0:Kd.C k62 w A0 l0.length l0) (hc0:l0.length≤c0) (h:laws_szFieldS.f k l0 a1=some r):
  Calls Tryd.prog 13 #[.slice A0 l0.length c0,.int .i64 a1] w fun e w'=>e= .returned (.int .i64 r)∧Below w.heap.size w w':=by
 have E:=Tryd.underlying62
 have x:=zM hr0
 have F:=zM hc0
 clear hr0 hc0
 have HB:=zM (Below.refl w.heap.size w)
 have H:(if(wrap64 (a1-(l0.length:Int)))<0 then(some (-1))else(laws_szFieldS.l0 k l0 (wrap64 (a1-(l0.length:Int))) 0))=some r:=h
 clear h
 by_cases b:(wrap64 (a1-(l0.length:Int)))<0
 ·(
 rw[if_pos b]at H
 have c3b0:=zT b
 clear b
 obtain rfl:=zI H
 go_enter Tryd.func13,Tryd.ntmps13
 go_wp2
 go_ret
 exact⟨sq,sb⟩)
 rw[if_neg b]at H
 have c3b0:=zF b
 clear b
 have H':=zM H
 clear H
 go_enter Tryd.func13,Tryd.ntmps13
 go_wp2
 go_loopg [1,5] k (fun kq A B w'=>∃(c:Int) (a:Int),A= .int .i64 c∧B= .int .i64 a∧Aside0 (laws_szFieldS.l0 kq l0 c a=some r)∧Aside0 (kq≤k)∧Aside0 (Below w.heap.size w w'))
 case atStart=>exact⟨(wrap64 (a1-(l0.length:Int))),(0),sr,sr,H',⟨Nat.le_refl _⟩,⟨sb⟩⟩
 case round=>(
 clear H'
 try clear b
 try clear c3b0
 obtain⟨c,a,rfl,rfl,HA,y,HB⟩:=hrel
 cases gk with
 |zero=>exact absurd HA.out (by simp[laws_szFieldS.l0])
 |succ k1=>(
 have H:=HA.out
 clear HA
 simp only[laws_szFieldS.l0]at H
 by_cases i:a<(l0.length:Int)
 ·(
 rw[if_pos i]at H
 have c4b0:=zT i
 clear i
 by_cases q:0≤a
 ·(
 rw[if_pos q]at H
 have c5b0:=zT q
 clear q
 obtain⟨s,z,H⟩:=sO H
 by_cases l:s<0
 ·(
 rw[if_pos l]at H
 have c7b0:=zT l
 clear l
 obtain rfl:=zI H
 have d:0≤(a:Int):=zzA
 have g:a<(l0.length:Int):=zzA
 obtain⟨D,u,m,n,o⟩:=at_T62 x.out a d g
 cases u
 replace m:=sX HB m
 replace n:=sX HB n
 replace o:=sX HB o
 replace d:=eq_true d
 replace g:=eq_true g
 go_wp2_with (first|((with_reducible refine gate_callee (f:=39) rfl ?_);refine sC (some 23) Tryd.func39 #[.agg #[.bool ((rd_T62 l0 a).f0),.int .i64 ((rd_T62 l0 a).f1),.string ((rd_T62 l0 a).f2)],.int .i64 c] (laws_szField.calls ((rd_T62 l0 a).f0) ((rd_T62 l0 a).f1) ((rd_T62 l0 a).f2) c s _ z.out) ?_;rintro e G ⟨rfl,hb⟩;refine⟨_,rfl,?_⟩;replace HB:=sB HB hb;(try clear hb)))
 go_ret
 exact⟨sq,sb⟩)
 rw[if_neg l]at H
 have c7b0:=zF l
 clear l
 have H':=zM H
 clear H
 have d:0≤(a:Int):=zzA
 have g:a<(l0.length:Int):=zzA
 obtain⟨D,u,m,n,o⟩:=at_T62 x.out a d g
 cases u
 replace m:=sX HB m
 replace n:=sX HB n
 replace o:=sX HB o
 replace d:=eq_true d
 replace g:=eq_true g
 go_wp2_with (first|((with_reducible refine gate_callee (f:=39) rfl ?_);refine sC (some 23) Tryd.func39 #[.agg #[.bool ((rd_T62 l0 a).f0),.int .i64 ((rd_T62 l0 a).f1),.string ((rd_T62 l0 a).f2)],.int .i64 c] (laws_szField.calls ((rd_T62 l0 a).f0) ((rd_T62 l0 a).f1) ((rd_T62 l0 a).f2) c s _ z.out) ?_;rintro e I ⟨rfl,hb⟩;refine⟨_,rfl,?_⟩;replace HB:=sB HB hb;(try clear hb)))
 go_roundg k1
 case measure=>have:=y.out;omega
 case rel=>exact⟨(s),(wrap64 (a+1)),sr,sr,H',⟨by have:=y.out;omega⟩,⟨sb⟩⟩)
 rw[if_neg q]at H
 exact absurd H (by simp))
 rw[if_neg i]at H
 have c4b0:=zF i
 clear i
 obtain rfl:=zI H
 go_wp2
 go_ret
 exact⟨sq,sb⟩))
def laws_toField.f (a0_0:Bool) (a0_1:Int) (a0_2:ByteArray):Option (Bool×Int×ByteArray):=some (a0_0,a0_1,a0_2)
set_option maxHeartbeats 8000000 in
set_option maxRecDepth 100000 in
theorem laws_toField.calls (a0_0:Bool) (a0_1:Int) (a0_2:ByteArray) (r1:Bool) (r2:Int) (r3:ByteArray) (w:World) (h:laws_toField.f a0_0 a0_1 a0_2=some (r1,r2,r3)):
  Calls Tryd.prog 42 #[.agg #[.bool a0_0,.int .i64 a0_1,.string a0_2]] w fun e w'=>e= .returned (.agg #[.bool r1,.int .i64 r2,.string r3])∧Below w.heap.size w w':=by
 have q:=Tryd.underlying62
 have s:=Tryd.underlying64
 have HB:=zM (Below.refl w.heap.size w)
 have H:(some (a0_0,a0_1,a0_2))=some (r1,r2,r3):=h
 clear h
 simp only[Option.some.injEq,Prod.mk.injEq]at H
 obtain⟨rfl,rfl,rfl⟩:=H
 go_enter Tryd.func42,Tryd.ntmps42
 go_wp2_with (first|((with_reducible refine gate_dst (N:=1) rfl ?_);refine sV (N:=1) (cs:= #[.bool a0_0,.int .i64 a0_1,.string a0_2]) (t:=62) ?_;intro u hg x hbox hb;have a:=zM (hbox);have y:=sG HB hg;have z:=sG HB hg;replace HB:=sB HB hb;clear hb hbox hg)|((with_reducible refine gate_dst (N:=2) rfl ?_);refine sV (N:=2) (cs:= #[.bool false,.int .i64 0,.string (⟨#[]⟩:ByteArray)]) (t:=64) ?_;intro d hg A hbox hb;have b:=zM (hbox);have B:=sG HB hg;have D:=sG HB hg;replace HB:=sB HB hb;have g:=sN a hg;have i:=sM a hg;replace a:=sK a hb;clear hb hbox hg)|((with_reducible refine gate_dst (N:=3) rfl ?_);refine sV (N:=3) (cs:= #[.bool false,.int .i64 0,.string (⟨#[]⟩:ByteArray)]) (t:=64) ?_;intro E hg F hbox hb;have l:=zM (hbox);have G:=sG HB hg;have I:=sG HB hg;replace HB:=sB HB hb;have m:=sN a hg;have n:=sM a hg;replace a:=sK a hb;have c:=sN b hg;have o:=sM b hg;replace b:=sK b hb;clear hb hbox hg;have J:=g.out;have K:=i.out;have L:=m.out;have M:=n.out;obtain⟨O,P,Q,S,T,U⟩:=cells3 a.out;have V:=o.out;have W:=c.out;obtain⟨X,Y,Z,aa,ab,ac⟩:=cells3 l.out;obtain⟨ad,ae,af,ag,ah,ai⟩:=cells3 b.out))
 refine bodyPost_ret (results_cell_row rfl _ _ d 64 #[.bool a0_0,.int .i64 a0_1,.string a0_2] (0,0) _ rfl (by(with_reducible repeat(first|refine blk_drewN ?_ _|refine blk_drew ?_|refine blk_alloc ?_ _));refine blk_put (cs:= #[.bool a0_0,.int .i64 a0_1,.string (⟨#[]⟩:ByteArray)]) ?_ 2 _ rfl;(with_reducible repeat(first|refine blk_drewN ?_ _|refine blk_drew ?_|refine blk_alloc ?_ _));refine blk_put (cs:= #[.bool a0_0,.int .i64 0,.string (⟨#[]⟩:ByteArray)]) ?_ 1 _ rfl;(with_reducible repeat(first|refine blk_drewN ?_ _|refine blk_drew ?_|refine blk_alloc ?_ _));refine blk_put (cs:= #[.bool false,.int .i64 0,.string (⟨#[]⟩:ByteArray)]) ?_ 0 _ rfl;(with_reducible repeat(first|refine blk_drewN ?_ _|refine blk_drew ?_|refine blk_alloc ?_ _));refine blk_far ?_ c.out _;(with_reducible repeat(first|refine blk_drewN ?_ _|refine blk_drew ?_|refine blk_alloc ?_ _));refine blk_far ?_ c.out _;(with_reducible repeat(first|refine blk_drewN ?_ _|refine blk_drew ?_|refine blk_alloc ?_ _));refine blk_far ?_ c.out _;exact sT b.out) Tryd.underlying64 rfl (by kernel_rfl)) rfl ?_
 exact⟨sq,sb⟩
def laws_toFieldS.l0 : Nat → List (S62) → List (S64) → Int → Option ((List (S64)))
 |0,_,_,_=>none
 |k+1,x0,x3,x4=>if x4<(x0.length:Int)then(if 0≤x4 then((laws_toField.f ((rd_T62 x0 x4).f0) ((rd_T62 x0 x4).f1) ((rd_T62 x0 x4).f2)).bind fun bt268=>(if x4<(x3.length:Int)then(laws_toFieldS.l0 k x0 (x3.set (x4:Int).toNat (⟨bt268.1,bt268.2.1,bt268.2.2⟩:S64)) (wrap64 (x4+1)))else(none)))else(none))else(some x3)
def laws_toFieldS.f (k:Nat) (l0:List (S62)):Option ((List (S64))):=if 0≤(l0.length:Int)then(if((l0.length:Int):Int).toNat≤8796093022208 then(laws_toFieldS.l0 k l0 (List.replicate ((l0.length:Int):Int).toNat z64) 0)else(none))else(none)
set_option maxHeartbeats 8000000 in
set_option maxRecDepth 100000 in
theorem laws_toFieldS.calls (k:Nat) (A0:Option Addr) (c0:Nat) (l0:List (S62)) (r:List (S64)) (w:World) (hr0:Kd.C k62 w A0 l0.length l0) (hc0:l0.length≤c0) (h:laws_toFieldS.f k l0=some r):
  Calls Tryd.prog 15 #[.slice A0 l0.length c0] w fun e w'=>∃Q:Value,e= .returned (Q)∧Kd.R k64 64 w' w.heap.size (fun _=>True) Q r∧Below w.heap.size w w':=by
 have aC:=Tryd.underlying62
 have aD:=Tryd.underlying64
 have aj:=zM hr0
 have aE:=zM hc0
 clear hr0 hc0
 have HB:=zM (Below.refl w.heap.size w)
 have H:(if 0≤(l0.length:Int)then(if((l0.length:Int):Int).toNat≤8796093022208 then(laws_toFieldS.l0 k l0 (List.replicate ((l0.length:Int):Int).toNat z64) 0)else(none))else(none))=some r:=h
 clear h
 by_cases o:0≤(l0.length:Int)
 ·(
 rw[if_pos o]at H
 have c2b0:=eq_true o
 have c2b1:=zT o
 clear o
 by_cases q:((l0.length:Int):Int).toNat≤8796093022208
 ·(
 rw[if_pos q]at H
 have c3b0:=eq_true q
 have c3b1:=zT q
 clear q
 obtain⟨y264,hy264⟩:∃G:List (S64),G=(List.replicate ((l0.length:Int):Int).toNat z64):=⟨_,rfl⟩
 replace H:(laws_toFieldS.l0 k l0 y264 0)=some r:=by first|(rw[hy264];with_reducible exact H)|(have i:=(Option.bind_some _ _).symm.trans H;rw[hy264];with_reducible exact i)|(have i:=(Option.bind_some _ _).symm.trans H;with_reducible exact i)|with_reducible exact H|(rw[hy264];exact H)|exact H
 have S:=zM hy264
 clear hy264
 have H':=zM H
 clear H
 go_enter Tryd.func15,Tryd.ntmps15
 go_wp2_with (first|((with_reducible refine gate_dst (N:=7) rfl ?_);refine Kd.R_make k64 _ 64 rfl (N:=7) rfl 32 _ _ rfl (l0.length:Int) rfl rfl Tryd.underlying32 (.agg #[(.bool false),(.int .i64 0),(.string ⟨#[]⟩)]) 32 info64 rfl (by decide) (by omega) z64 (ok:=fun _=>True) (okp:=fun _=>True) (k64_mkM _ _ _ z64) (fun _ hk=>hk) trivial (zzA) (Nat.le_trans (Nat.mul_le_mul_right _ (zzA:(l0.length:Int).toNat≤8796093022208)) (by omega)) (Below.refl _ _) (Nat.le_refl _) ?_;intro ak w4 u hb al am;clear al am;(first|rw[←S.out]at u|(simp only[Int.reduceToNat]at u;rw[←S.out]at u));have an:=zM (Kd.R_lower u (below_size (sH HB.out)));replace HB:=sB HB hb;clear hb u))
 go_loopg [4] k (fun kq v4 w'=>∃(b:List (S64)) (a:Int),v4= .int .i64 a∧Aside0 (laws_toFieldS.l0 kq l0 b a=some r)∧Aside0 (kq≤k)∧Aside0 (Kd.R k64 64 w' w.heap.size (fun _=>True) ak b)∧Aside0 (Below w.heap.size w w'))
 case atStart=>exact⟨(y264),(0),sr,H',⟨Nat.le_refl _⟩,⟨by exact sE an.out⟩,⟨sb⟩⟩
 case round=>(
 clear H'
 try clear o
 try clear c2b0
 try clear c2b1
 try clear q
 try clear c3b0
 try clear c3b1
 obtain⟨b,a,rfl,HA,T,d,HB⟩:=hrel
 cases gk with
 |zero=>exact absurd HA.out (by simp[laws_toFieldS.l0])
 |succ k1=>(
 have H:=HA.out
 clear HA
 simp only[laws_toFieldS.l0]at H
 by_cases s:a<(l0.length:Int)
 ·(
 rw[if_pos s]at H
 have c6b0:=zT s
 clear s
 by_cases z:0≤a
 ·(
 rw[if_pos z]at H
 have c7b0:=zT z
 clear z
 replace H:=Option.bind_eq_some_iff.mp H
 obtain⟨⟨l,m,n⟩,U,H⟩:=H
 replace H:(if a<(b.length:Int)then(laws_toFieldS.l0 k1 l0 (b.set (a:Int).toNat (⟨l,m,n⟩:S64)) (wrap64 (a+1)))else(none))=some r:=H
 have A8:=zM U
 clear U
 by_cases A:a<(b.length:Int)
 ·(
 rw[if_pos A]at H
 have c9b0:=zT A
 clear A
 obtain⟨y271,hy271⟩:∃G:List (S64),G=(b.set (a:Int).toNat (⟨l,m,n⟩:S64)):=⟨_,rfl⟩
 replace H:(laws_toFieldS.l0 k1 l0 y271 (wrap64 (a+1)))=some r:=by first|(rw[hy271];with_reducible exact H)|(have i:=(Option.bind_some _ _).symm.trans H;rw[hy271];with_reducible exact i)|(have i:=(Option.bind_some _ _).symm.trans H;with_reducible exact i)|with_reducible exact H|(rw[hy271];exact H)|exact H
 have ao:=zM hy271
 clear hy271
 have H':=zM H
 clear H
 have I:0≤(a:Int):=zzA
 have J:a<(l0.length:Int):=zzA
 obtain⟨aF,ap,V,W,X⟩:=at_T62 aj.out a I J
 cases ap
 replace V:=sX HB V
 replace W:=sX HB W
 replace X:=sX HB X
 replace I:=eq_true I
 replace J:=eq_true J
 go_wp2_with (first|((with_reducible refine gate_callee (f:=42) rfl ?_);refine sC (some 20) Tryd.func42 #[.agg #[.bool ((rd_T62 l0 a).f0),.int .i64 ((rd_T62 l0 a).f1),.string ((rd_T62 l0 a).f2)]] (laws_toField.calls ((rd_T62 l0 a).f0) ((rd_T62 l0 a).f1) ((rd_T62 l0 a).f2) l m n _ A8.out) ?_;rintro e g ⟨rfl,hb⟩;refine⟨_,rfl,?_⟩;replace d:=zM (Kd.R_below (sE d.out) hb);replace HB:=sB HB hb;(try clear hb);have K:0≤(a:Int):=zzA;have L:(a:Int)<((b.length:Int):Int):=zzA;obtain⟨c,Y,Z,aa,aq,aG,ab⟩:=Kd.R_form d.out (by omega);(first|cases Z|(injection Z with B ar au;(first|subst B|(injection B with B;subst B));subst au;clear ar));have M:=zM aa;have aH:=zM ab;clear aa aq ab;obtain⟨aI,av,ac,D,E⟩:=Kd.R_elem d.out z64 (a:Int) K L;obtain rfl:=k64_openM ac;have aJ:g.cell? ⟨c,(a:Int).toNat*3,none⟩=some (.bool ((rd_T64 b a).f0)):=D 0 _ rfl;have aK:g.cell? ⟨c,(a:Int).toNat*3+1,none⟩=some (.int .i64 ((rd_T64 b a).f1)):=D 1 _ rfl;have aL:g.cell? ⟨c,(a:Int).toNat*3+2,none⟩=some (.string ((rd_T64 b a).f2)):=D 2 _ rfl;have aM:g.frozen? ⟨c,(a:Int).toNat*3,none⟩=false:=E 0;have aN:g.frozen? ⟨c,(a:Int).toNat*3+1,none⟩=false:=E 1;have aO:g.frozen? ⟨c,(a:Int).toNat*3+2,none⟩=false:=E 2;clear av D E ac;replace K:=eq_true K;replace L:=eq_true L;have ad:=zM (show Kd.R k64 64 g w.heap.size (fun _=>True) (.slice (some ⟨c,0,none⟩) b.length Y) b from(sE d.out));obtain⟨aP,ae,af,x,F⟩:=Kd.R_elem ad.out z64 (a:Int) (zzA) (by have y:(a:Int)<((b.length:Int):Int):=zzA;first|exact y|(have e_:=(Kd.R_reads' d.out).1;omega)|simpa using y);obtain rfl:=k64_openM af;have O:=Kd.R_seg ad.out (a:Int) (zzA) (by have y:(a:Int)<((b.length:Int):Int):=zzA;first|exact y|(have e_:=(Kd.R_reads' d.out).1;omega)|simpa using y) (seg:=[.bool l,.int .i64 m,.string n]) (j:=0) ae x (show 3≤3 from by decide) (x':=(⟨l,m,n⟩:S64)) (k64_mkM _ _ _ (⟨l,m,n⟩:S64)) (fun _ hk=>hk);have aw:=x 0 _ rfl;(try simp only[show(k64).sz=3 from rfl,Nat.mul_one,Nat.add_zero]at aw);have ax:=F 0;(try simp only[show(k64).sz=3 from rfl,Nat.mul_one,Nat.add_zero]at ax);have ay:=x 1 _ rfl;(try simp only[show(k64).sz=3 from rfl,Nat.mul_one,Nat.add_zero]at ay);have az:=F 1;(try simp only[show(k64).sz=3 from rfl,Nat.mul_one,Nat.add_zero]at az);have aA:=x 2 _ rfl;(try simp only[show(k64).sz=3 from rfl,Nat.mul_one,Nat.add_zero]at aA);have aB:=F 2;(try simp only[show(k64).sz=3 from rfl,Nat.mul_one,Nat.add_zero]at aB);clear ae x F af)|((with_reducible refine gate_store (t:=64) (p:=21) rfl ?_);refine store_event (t:=64) (p:=21) (v:=?vo_w13) (w1:=(((g.setCell ⟨c,(a:Int).toNat*3,none⟩ (.bool l)).setCell ⟨c,(a:Int).toNat*3+1,none⟩ (.int .i64 m)).setCell ⟨c,(a:Int).toNat*3+2,none⟩ (.string n))) ?hg ?ho ?hn ?hr ?_;(case ho=>rfl);(case hg=>rfl);(case hn=>rfl);(case hr=>first|(go_simp;done)|(go_simp;rfl));intro P hw;have hg:g.grownBy P (some c):=(by rw[hw];exact O.2);have ag:Kd.R k64 64 P w.heap.size (fun _=>True) (.slice (some ⟨c,0,none⟩) b.length Y) y271:=(by rw[hw,ao.out];exact O.1);clear O;have ah:=zM (ag);have ai:=zM ((by rw[hw];exact below_set (below_set (below_set (HB.out) M.out) M.out) M.out:Below w.heap.size w P));clear d;clear HB;have d:=ah;have HB:=ai;clear ah ai;clear hg hw ag))
 go_roundg k1
 case measure=>have:=T.out;omega
 case rel=>exact⟨(y271),(wrap64 (a+1)),sr,H',⟨by have:=T.out;omega⟩,⟨by exact sE d.out⟩,⟨sb⟩⟩)
 rw[if_neg A]at H
 exact absurd H (by simp))
 rw[if_neg z]at H
 exact absurd H (by simp))
 rw[if_neg s]at H
 have c6b0:=zF s
 clear s
 obtain rfl:=zI H
 go_wp2
 go_ret
 exact⟨_,sq,by exact sE d.out,sb⟩)))
 rw[if_neg q]at H
 exact absurd H (by simp))
 rw[if_neg o]at H
 exact absurd H (by simp)
end Go.Proofs.YtjmojijopammjaaDoor.PFnExactCaptureText
