/- Printed functions: strings_Split, impl_SplitLines, impl_ValidSource, impl_combine. -/
import Derived.Test.YtjmojijopammjaaDoorYLlP0
import Derived.Test.YtjmojijopammjaaDoorYLlP4
import Derived.Test.YtjmojijopammjaaDoorYLlP6
namespace Go.Proofs.YtjmojijopammjaaDoor.PFnExactLogicalLines
open Go.RowKit Go.Proofs.YtjmojijopammjaaDoorG Go.Proofs.YtjmojijopammjaaDoorW.PrintWords Go.Proofs.YtjmojijopammjaaDoorW.PrintLast Go.Proofs.YtjmojijopammjaaDoorW.PrintMore
attribute [local go_sem] max2_int min2_int max_two min_two max_three min_three max_four min_four
set_option linter.unusedVariables false
set_option linter.unusedSimpArgs false
def strings_Split.f (a0:ByteArray) (a1:ByteArray):Option (List ByteArray):=if a0.size<4294967281 then(if 1≤a1.size then(some (Lib.splitB a1 0 (Lib.countB a0 a1) a0))else(none))else(none)
theorem strings_Split.calls (a0:ByteArray) (a1:ByteArray) (r:List ByteArray) (w:World) (h:strings_Split.f a0 a1=some r) (HT:EnvT w):
  Calls Tryd.prog 132 #[.string a0,.string a1] w fun e w'=>∃a:Value,e= .returned (a)∧Kd.R Kd.string 9 w' w.heap.size (fun _=>True) a r∧Below w.heap.size w w':=by
 unfold strings_Split.f at h
 split at h
 ·(
 rename_i h1
 split at h
 ·(
 rename_i h2
 obtain rfl:=zI h
 refine(split_calls a0 a1 w HT h1 h2).mono ?_
 rintro e w' ⟨rfl,rfl⟩
 have hl:=Lib.splitB_all a1 h2 0 (Lib.countB a0 a1) a0 rfl
 refine⟨_,rfl,⟨fun _ _=>trivial,(Lib.splitB a1 0 (Lib.countB a0 a1) a0).map Value.string,?_,⟨by simp[show Kd.string.sz=1 from rfl],fun j p hj=>?_⟩⟩,(Below.refl _ _).alloc (Nat.le_refl _) _⟩
 ·(
 have c:=World.ownsRow_lit (base:=w.heap.size) (e:=9) (size:=1) w ((Lib.splitB a1 0 (Lib.countB a0 a1) a0).map Value.string).toArray (Lib.countB a0 a1+1) (Nat.le_refl _) (by have:=Lib.countB_le a1 h2 a0.size a0 (Nat.le_refl _);simp[maxLen];omega) (by simp[hl])
 rw[show Kd.string.sz=1 from rfl,hl]
 simpa using c)
 ·(
 have e:((Lib.splitB a1 0 (Lib.countB a0 a1) a0).map Value.string).drop (j*1)=Value.string p::(((Lib.splitB a1 0 (Lib.countB a0 a1) a0).map Value.string).drop (j+1)):=by(
 rw[Nat.mul_one]
 obtain⟨hlt,hp⟩:=List.getElem?_eq_some_iff.1 hj
 rw[List.drop_eq_getElem_cons (by simpa using hlt)]
 simp[hp])
 show _=_
 rw[show Kd.string.sz=1 from rfl,e]
 rfl))
 ·cases h)
 ·cases h
def impl_SplitLines.f (a0:ByteArray):Option (List ByteArray):=if a0.toList=([]:List UInt8)then(some ([]:List ByteArray))else((strings_TrimSuffix.f a0 (⟨#[10]⟩:ByteArray)).bind fun t177=>((strings_Split.f t177 (⟨#[10]⟩:ByteArray)).bind fun t178=>(some t178)))
set_option maxHeartbeats 8000000 in
set_option maxRecDepth 100000 in
theorem impl_SplitLines.calls (a0:ByteArray) (r:List ByteArray) (w:World) (h:impl_SplitLines.f a0=some r) (HT:EnvT w):
  Calls Tryd.prog 104 #[.string a0] w fun e w'=>∃g:Value,e= .returned (g)∧Kd.R Kd.string 9 w' w.heap.size (fun _=>True) g r∧Below w.heap.size w w':=by
 have HB:=zM (Below.refl w.heap.size w)
 have H:(if a0.toList=([]:List UInt8)then(some ([]:List ByteArray))else((strings_TrimSuffix.f a0 (⟨#[10]⟩:ByteArray)).bind fun c=>((strings_Split.f c (⟨#[10]⟩:ByteArray)).bind fun d=>(some d))))=some r:=h
 clear h
 by_cases a:a0.toList=([]:List UInt8)
 ·(
 rw[if_pos a]at H
 have c2b0:(a0.toList==([]:List UInt8))=true:=zE a
 have c2b1:(a0.toList !=([]:List UInt8))=false:=zY a
 have c2b2:a0.toList.isEmpty=true:=by simpa using a
 clear a
 obtain rfl:=zI H
 go_enter Tryd.func104,Tryd.ntmps104
 go_wp2
 go_ret
 exact⟨_,sq,by first|exact Kd.R_nil _ _ _ _ _|exact Kd.N_nil _ _ _ _ _|exact Kd.V_nil _ _ _ _ _|exact Kd.Q_nil _ _ _ _ _|exact Kd.S_nil _ _ _ _ _,sb⟩)
 rw[if_neg a]at H
 have c2b0:(a0.toList==([]:List UInt8))=false:=zN a
 have c2b1:(a0.toList !=([]:List UInt8))=true:=zX a
 have c2b2:a0.toList.isEmpty=false:=by simpa using a
 obtain⟨c,m,H⟩:=sO H
 obtain⟨d,o,H⟩:=sO H
 obtain rfl:=zI H
 go_enter Tryd.func104,Tryd.ntmps104
 go_wp2_with (first|((with_reducible refine gate_callee (f:=133) rfl ?_);refine sC (some 6) Tryd.func133 #[.string a0,.string (⟨#[10]⟩:ByteArray)] (strings_TrimSuffix.calls a0 (⟨#[10]⟩:ByteArray) c _ m.out) ?_;rintro e w' ⟨rfl,⟨nd,rfl⟩⟩;refine⟨_,rfl,?_⟩)|((with_reducible refine gate_callee (f:=132) rfl ?_);refine sC (some 7) Tryd.func132 #[.string c,.string (⟨#[10]⟩:ByteArray)] (strings_Split.calls c (⟨#[10]⟩:ByteArray) d _ o.out (by first|with_reducible exact HT|exact EnvT.below HT sb)) ?_;rintro e s ⟨t,rfl,l,hb⟩;refine⟨_,rfl,?_⟩;have q:=zM (Kd.R_lower l (below_size (sH HB.out)));replace HB:=sB HB hb;(try clear hb);(try clear l)))
 go_ret
 exact⟨_,sq,by exact sE q.out,sb⟩
def impl_ValidSource.f (k:Nat) (a0:ByteArray):Option (Bool):=if(a0.size:Int)≤4000 then((strings_ReplaceAll.f a0 (⟨#[10]⟩:ByteArray) (⟨#[]⟩:ByteArray)).bind fun t181=>((impl_isPlainText.f k t181).bind fun t182=>(if t182=true then((impl_SplitLines.f a0).bind fun t183=>(some (decide ((t183.length:Int)≤120))))else(some false))))else(some false)
set_option maxHeartbeats 8000000 in
set_option maxRecDepth 100000 in
theorem impl_ValidSource.calls (k:Nat) (a0:ByteArray) (r:Bool) (w:World) (h:impl_ValidSource.f k a0=some r) (HT:EnvT w):
  Calls Tryd.prog 68 #[.string a0] w fun e w'=>e= .returned (.bool r)∧Below w.heap.size w w':=by
 have HB:=zM (Below.refl w.heap.size w)
 have H:(if(a0.size:Int)≤4000 then((strings_ReplaceAll.f a0 (⟨#[10]⟩:ByteArray) (⟨#[]⟩:ByteArray)).bind fun a=>((impl_isPlainText.f k a).bind fun g=>(if g=true then((impl_SplitLines.f a0).bind fun l=>(some (decide ((l.length:Int)≤120))))else(some false))))else(some false))=some r:=h
 clear h
 by_cases c:(a0.size:Int)≤4000
 ·(
 rw[if_pos c]at H
 have c2b0:=zT c
 have c2b1:decide (a0.size≤4000)=true:=zT (by omega)
 clear c
 obtain⟨a,m,H⟩:=sO H
 obtain⟨g,o,H⟩:=sO H
 by_cases d:g=true
 ·(
 subst d
 rewrite[if_pos rfl]at H
 obtain⟨l,s,H⟩:=sO H
 obtain rfl:=zI H
 go_enter Tryd.func68,Tryd.ntmps68
 go_wp2_with (first|(go_at_call 86;(with_reducible refine(strings_ReplaceAll.calls a0 (⟨#[10]⟩:ByteArray) (⟨#[]⟩:ByteArray) a _ m.out (by first|with_reducible exact HT|exact EnvT.below HT sb)).mono ?_);rintro e x ⟨rfl,hb⟩;replace HB:=sB HB hb;(try clear hb))|(go_at_call 103;(with_reducible refine(impl_isPlainText.calls k a true _ o.out).mono ?_);rintro e y ⟨rfl,hb⟩;replace HB:=sB HB hb;(try clear hb))|(go_at_call 104;(with_reducible refine(impl_SplitLines.calls a0 l _ s.out (by first|with_reducible exact HT|exact EnvT.below HT sb)).mono ?_);rintro e z ⟨A,rfl,q,hb⟩;have t:=zM (Kd.R_lower q (below_size (sH HB.out)));replace HB:=sB HB hb;(try clear hb);(try clear q);obtain⟨B,C,u⟩:=Kd.R_slice t.out;subst u))
 go_ret
 exact⟨sq,sb⟩)
 replace d:=zB d
 subst d
 rewrite[if_neg zQ]at H
 obtain rfl:=zI H
 go_enter Tryd.func68,Tryd.ntmps68
 go_wp2_with (first|(go_at_call 86;(with_reducible refine(strings_ReplaceAll.calls a0 (⟨#[10]⟩:ByteArray) (⟨#[]⟩:ByteArray) a _ m.out (by first|with_reducible exact HT|exact EnvT.below HT sb)).mono ?_);rintro e D ⟨rfl,hb⟩;replace HB:=sB HB hb;(try clear hb))|(go_at_call 103;(with_reducible refine(impl_isPlainText.calls k a false _ o.out).mono ?_);rintro e E ⟨rfl,hb⟩;replace HB:=sB HB hb;(try clear hb)))
 go_ret
 exact⟨sq,sb⟩)
 rw[if_neg c]at H
 have c2b0:=zF c
 have c2b1:decide (a0.size≤4000)=false:=zF (by omega)
 clear c
 obtain rfl:=zI H
 go_enter Tryd.func68,Tryd.ntmps68
 go_wp2
 go_ret
 exact⟨sq,sb⟩
mutual
def impl_combine.l0 : Nat → List (S88) → List ByteArray → Int → Int → Option ((List (S88)) × Int)
 |0,_,_,_,_=>none
 |k+1,x4,x10,x11,x12=>if x12<x11 then(if 0≤x12 then(if x12<(x10.length:Int)then((impl_IsBlankLine.f (rdOf ByteArray.empty x10 x12)).bind fun t200=>(if t200=true then(impl_combine.j1 k x4 (rdOf ByteArray.empty x10 x12) (wrap64 (x12+1)) x10 x11 x12 true)else((impl_IsComment.f (rdOf ByteArray.empty x10 x12)).bind fun t201=>(impl_combine.j1 k x4 (rdOf ByteArray.empty x10 x12) (wrap64 (x12+1)) x10 x11 x12 t201))))else(none))else(none))else(some (x4,0))
def impl_combine.j1 : Nat → List (S88) → ByteArray → Int → List ByteArray → Int → Int → Bool → Option ((List (S88)) × Int)
 |0,_,_,_,_,_,_,_=>none
 |k+1,x4,x6,x7,x10,x11,x12,x32=>if x32=true then(impl_combine.l0 k x4 x10 x11 (wrap64 (x12+1)))else((impl_IsContinuation.f x6).bind fun t202=>(if t202=true then(if(x4.length:Int)=0 then(some (([]:List (S88)),x7))else(if 0≤(wrap64 ((x4.length:Int)- 1))then(if(wrap64 ((x4.length:Int)- 1))<(x4.length:Int)then(if 1≤(x6.size:Int)then(if 1+((x6.extract 1 x6.size).size)≤9223372036854775807 then(if((rd_T88 x4 (wrap64 ((x4.length:Int)- 1))).f1).size+(1+((x6.extract 1 x6.size).size))≤9223372036854775807 then(impl_combine.l0 k (x4.set ((wrap64 ((x4.length:Int)- 1)):Int).toNat (⟨(rd_T88 x4 (wrap64 ((x4.length:Int)- 1))).f0,((rd_T88 x4 (wrap64 ((x4.length:Int)- 1))).f1)++((⟨#[32]⟩:ByteArray)++(x6.extract 1 x6.size))⟩:S88)) x10 x11 (wrap64 (x12+1)))else(none))else(none))else(none))else(none))else(none)))else(if x4.length<5864062014805 then(impl_combine.l0 k (x4++[(⟨x7,x6⟩:S88)]) x10 x11 (wrap64 (x12+1)))else(none))))
end
def impl_combine.f (k:Nat) (a0:ByteArray):Option ((List (S88))×Int):=(impl_SplitLines.f a0).bind fun t196=>(impl_combine.l0 k (([]:List (S88))) t196 (t196.length:Int) 0)
def impl_combine.T6:Bool×List (List Nat×List Nat):=(true,[([],[]),([],[]),([1],[1]),([2],[2]),([0,3],[0,3]),([4],[4]),([5],[5]),([],[]),([7],[7]),([8],[8]),([6,9],[6,9]),([0,3,0,1,2,3,4,5,6,7,8,9,10],[0,3]),([11,0,1,2,3,4,5,6,7,8,9,10],[11]),([12,10,0,1,2,3,4,5,6,7,8,9,10],[10,12])])
def impl_combine.B6:List Nat:=[0,0,2,6,15,31,63,0,128,384,1023,2047,4095,8191]
theorem impl_combine.tab6:rtab .any (opsOf Tryd.f69 6)=impl_combine.T6:=by kernel_rfl
theorem impl_combine.bits6:waitsOk impl_combine.T6.2 impl_combine.B6=true:=by kernel_rfl
set_option maxHeartbeats 8000000 in
set_option maxRecDepth 100000 in
theorem impl_combine.calls (k:Nat) (a0:ByteArray) (r1:List (S88)) (r2:Int) (w:World) (h:impl_combine.f k a0=some (r1,r2)) (HT:EnvT w):
  Calls Tryd.prog 69 #[.string a0] w fun e w'=>∃ai:Value,e= .returned (.tuple #[ai,.int .i64 r2])∧Kd.R k88 88 w' w.heap.size (fun _=>True) ai r1∧Below w.heap.size w w':=by
 have be:=Tryd.underlying88
 have HB:=zM (Below.refl w.heap.size w)
 have H:((impl_SplitLines.f a0).bind fun a=>(impl_combine.l0 k (([]:List (S88))) a (a.length:Int) 0))=some (r1,r2):=h
 clear h
 obtain⟨y193,hy193⟩:∃B:List (S88),B=(([]:List (S88))):=⟨_,rfl⟩
 replace H:((impl_SplitLines.f a0).bind fun a=>(impl_combine.l0 k y193 a (a.length:Int) 0))=some (r1,r2):=by first|(rw[hy193];with_reducible exact H)|(have o:=(Option.bind_some _ _).symm.trans H;rw[hy193];with_reducible exact o)|(have o:=(Option.bind_some _ _).symm.trans H;with_reducible exact o)|with_reducible exact H|(rw[hy193];exact H)|exact H
 have aj:=zM hy193
 clear hy193
 obtain⟨a,A2,H⟩:=sO H
 have H':=zM H
 clear H
 go_enter Tryd.func69,Tryd.ntmps69
 go_wp2_with (first|((with_reducible refine gate_dst (N:=8) rfl ?_);refine Kd.R_lit k88 _ 88 ?hg (N:=8) ?hd (xs:=([]:List (S88))) (inner:=[]) (ok:=fun _=>True) (okp:=fun _=>True) ?hr ?hp (fun _ hk=>hk) trivial (Below.refl _ _) (Nat.le_refl _) (by simp) ?_;(case hd=>rfl);(case hg=>rfl);(case hr=>first|(go_simp;done)|(go_simp;rfl));(case hp=>exact(Reps.none _ _));intro bf w3 C hb aE aG;clear aE aG;(first|rw[←aj.out]at C|(simp only[Int.reduceToNat]at C;rw[←aj.out]at C));have W:=zM (Kd.R_lower C (below_size (sH HB.out)));replace HB:=sB HB hb;clear hb C)|((with_reducible refine gate_callee (f:=104) rfl ?_);refine sC (some 10) Tryd.func104 #[.string a0] (impl_SplitLines.calls a0 a _ A2.out (by first|with_reducible exact HT|exact EnvT.below HT sb)) ?_;rintro e w5 ⟨bg,rfl,ak,hb⟩;refine⟨_,rfl,?_⟩;replace W:=zM (Kd.R_below (sE W.out) hb);have al:=zM (Kd.R_lower ak (below_size (sH HB.out)));replace HB:=sB HB hb;(try clear hb);(try clear hk);(try clear ak);obtain⟨aH,X,aI⟩:=Kd.R_slice al.out;subst aI))
 go_loopg [4,12] k (fun kq v4 aJ w'=>∃(d:List (S88)) (c:Int),aJ= .int .i64 c∧Aside0 (impl_combine.l0 kq d a (a.length:Int) c=some (r1,r2))∧Aside0 (kq≤k)∧Aside0 (Kd.R k88 88 w' w.heap.size (fun _=>True) v4 d)∧Aside0 (Kd.R Kd.string 9 w' w.heap.size (fun _=>True) (.slice aH a.length X) a)∧Aside0 (Below w.heap.size w w'))
 case atStart=>exact⟨(y193),(0),sr,H',⟨Nat.le_refl _⟩,⟨by exact sE W.out⟩,⟨by exact sE al.out⟩,⟨sb⟩⟩
 case round=>(
 clear H'
 obtain⟨d,c,rfl,HA,q,g,l,HB⟩:=hrel
 cases gk with
 |zero=>exact absurd HA.out (by simp[impl_combine.l0])
 |succ k1=>(
 have H:=HA.out
 clear HA
 simp only[impl_combine.l0]at H
 by_cases t:c<(a.length:Int)
 ·(
 rw[if_pos t]at H
 have c7b0:=zT t
 clear t
 by_cases D:0≤c
 ·(
 rw[if_pos D]at H
 have c8b0:=zT D
 clear D
 by_cases E:c<(a.length:Int)
 ·(
 rw[if_pos E]at H
 have c9b0:=zT E
 clear E
 have Y:=zM H
 clear H
 have G:0≤(c:Int):=zzA
 have I:c<(a.length:Int):=zzA
 obtain⟨am,aK,aM⟩:=Kd.at_string (Kd.R_reads' l.out).2.2 c G I
 cases aK
 replace G:=eq_true G
 replace I:=eq_true I
 go_upto_region 7 with(fail)
 go_cut [32] (fun aN wc=>∃(kq:Nat) (J:Bool),aN= .bool J∧Aside0 (impl_combine.j1 kq d (rdOf ByteArray.empty a c) (wrap64 (c+1)) a (a.length:Int) c J=some (r1,r2))∧Aside0 (kq≤k1)∧Aside0 (Kd.R k88 88 wc w.heap.size (fun _=>True) u4 d)∧Aside0 (Kd.R Kd.string 9 wc w.heap.size (fun _=>True) (.slice (some am) a.length X) a)∧Aside0 (Below w.heap.size w wc))
 case first=>(
 have H:=Y.out
 clear Y
 obtain⟨aQ,an,H⟩:=sO H
 by_cases L:aQ=true
 ·(
 subst L
 rewrite[if_pos rfl]at H
 have H':=zM H
 clear H
 go_wp2_with (first|((with_reducible refine gate_callee (f:=71) rfl ?_);refine sC (some 34) Tryd.func71 #[.string (rdOf ByteArray.empty a c)] (impl_IsBlankLine.calls (rdOf ByteArray.empty a c) true _ an.out) ?_;rintro e bh ⟨rfl,hb⟩;refine⟨_,rfl,?_⟩;replace g:=zM (Kd.R_below (sE g.out) hb);replace l:=zM (Kd.R_below (sE l.out) hb);replace HB:=sB HB hb;(try clear hb)))
 go_meet
 case rel=>exact⟨_,(true),sr,H',⟨by have:=q.out;first|omega|exact Nat.le_refl _⟩,⟨by exact sE g.out⟩,⟨by exact sE l.out⟩,⟨sb⟩⟩)
 replace L:=zB L
 subst L
 rewrite[if_neg zQ]at H
 obtain⟨ao,aR,H⟩:=sO H
 have H':=zM H
 clear H
 go_wp2_with (first|((with_reducible refine gate_callee (f:=71) rfl ?_);refine sC (some 34) Tryd.func71 #[.string (rdOf ByteArray.empty a c)] (impl_IsBlankLine.calls (rdOf ByteArray.empty a c) false _ an.out) ?_;rintro e bi ⟨rfl,hb⟩;refine⟨_,rfl,?_⟩;replace g:=zM (Kd.R_below (sE g.out) hb);replace l:=zM (Kd.R_below (sE l.out) hb);replace HB:=sB HB hb;(try clear hb))|(go_at_call 105;(with_reducible refine(impl_IsComment.calls (rdOf ByteArray.empty a c) ao _ aR.out).mono ?_);rintro e w' ⟨rfl,⟨nd,rfl⟩⟩))
 go_meet
 case rel=>exact⟨_,(ao),sr,H',⟨by have:=q.out;first|omega|exact Nat.le_refl _⟩,⟨by exact sE g.out⟩,⟨by exact sE l.out⟩,⟨sb⟩⟩)
 case rest=>(
 clear Y
 try clear t
 try clear c7b0
 try clear D
 try clear c8b0
 try clear E
 try clear c9b0
 try clear aM
 try clear G
 try clear I
 obtain⟨kq,J,rfl,HA,A,g,l,HB⟩:=hcut
 cases kq with
 |zero=>exact absurd HA.out (by simp[impl_combine.j1])
 |succ kj9=>(
 have H:=HA.out
 clear HA
 simp only[impl_combine.j1]at H
 by_cases M:J=true
 ·(
 subst M
 rewrite[if_pos rfl]at H
 have H':=zM H
 clear H
 go_wp2
 go_roundg kj9
 case measure=>have:=q.out;have:=A.out;omega
 case rel=>exact⟨(d),(wrap64 (c+1)),sr,H',⟨by have:=q.out;have:=A.out;omega⟩,⟨by exact sE g.out⟩,⟨by exact sE l.out⟩,⟨sb⟩⟩)
 replace M:=zB M
 subst M
 rewrite[if_neg zQ]at H
 obtain⟨aT,O,H⟩:=sO H
 by_cases P:aT=true
 ·(
 subst P
 rewrite[if_pos rfl]at H
 by_cases s:(d.length:Int)=0
 ·(
 rw[if_pos s]at H
 have c19b0:((d.length:Int)==0)=true:=zE s
 have c19b1:((d.length:Int) !=0)=false:=zY s
 clear s
 simp only[Option.some.injEq,Prod.mk.injEq]at H
 obtain⟨rfl,rfl⟩:=H
 go_wp2_with (first|((with_reducible refine gate_callee (f:=106) rfl ?_);refine sC (some 41) Tryd.func106 #[.string (rdOf ByteArray.empty a c)] (impl_IsContinuation.calls (rdOf ByteArray.empty a c) true _ O.out) ?_;rintro e w' ⟨rfl,⟨nd,rfl⟩⟩;refine⟨_,rfl,?_⟩;obtain⟨bj,bk,aU⟩:=Kd.R_slice g.out;subst aU))
 go_ret2
 exact⟨_,sq,by first|exact Kd.R_nil _ _ _ _ _|exact Kd.N_nil _ _ _ _ _|exact Kd.V_nil _ _ _ _ _|exact Kd.Q_nil _ _ _ _ _|exact Kd.S_nil _ _ _ _ _,sb⟩)
 rw[if_neg s]at H
 have c19b0:((d.length:Int)==0)=false:=zN s
 have c19b1:((d.length:Int) !=0)=true:=zX s
 have c19b2:¬(d=[]):=fun u=>s (by rw[u];rfl)
 obtain⟨ji21,hji21⟩:∃j_:Int,(wrap64 ((d.length:Int)- 1))=j_:=⟨_,rfl⟩
 replace H:(if 0≤(ji21)then(if(ji21)<(d.length:Int)then(if 1≤((rdOf ByteArray.empty a c).size:Int)then(if 1+(((rdOf ByteArray.empty a c).extract 1 (rdOf ByteArray.empty a c).size).size)≤9223372036854775807 then(if((rd_T88 d (ji21)).f1).size+(1+(((rdOf ByteArray.empty a c).extract 1 (rdOf ByteArray.empty a c).size).size))≤9223372036854775807 then(impl_combine.l0 kj9 (d.set ((ji21):Int).toNat (⟨(rd_T88 d (ji21)).f0,((rd_T88 d (ji21)).f1)++((⟨#[32]⟩:ByteArray)++((rdOf ByteArray.empty a c).extract 1 (rdOf ByteArray.empty a c).size))⟩:S88)) a (a.length:Int) (wrap64 (c+1)))else(none))else(none))else(none))else(none))else(none))=some (r1,r2):=by first|(rw[hji21]at H;exact H)|(simp only[hji21]at H ⊢;exact H)
 (try rw[hji21]at O)
 have hji21w:(IntKind.i64.wrap ((d.length:Int)- 1))=ji21:=(i64_w _).trans hji21
 by_cases Q:0≤(ji21)
 ·(
 rw[if_pos Q]at H
 have c22b0:=zT Q
 clear Q
 by_cases T:(ji21)<(d.length:Int)
 ·(
 rw[if_pos T]at H
 have c23b0:=zT T
 clear T
 by_cases F:1≤((rdOf ByteArray.empty a c).size:Int)
 ·(
 rw[if_pos F]at H
 have c24b0:=eq_true F
 have c24b1:=zT F
 clear F
 by_cases x:1+(((rdOf ByteArray.empty a c).extract 1 (rdOf ByteArray.empty a c).size).size)≤9223372036854775807
 ·(
 rw[if_pos x]at H
 have c25b0:=eq_true x
 have c25b1:=zT x
 try have c25b2:(9223372036854775807<1+(((rdOf ByteArray.empty a c).extract 1 (rdOf ByteArray.empty a c).size).size))=False:=eq_false (Nat.not_lt.2 x)
 try(have c25x:=x;simp only[ByteArray.size_extract]at c25x;have c25b3:=eq_true c25x;have c25b4:=zT c25x;have c25b5:=eq_false (Nat.not_lt.2 c25x))
 try(have c25y:=x;simp only[ByteArray.size_extract,Nat.min_self]at c25y;have c25b6:=eq_false (Nat.not_lt.2 c25y))
 by_cases y:((rd_T88 d (ji21)).f1).size+(1+(((rdOf ByteArray.empty a c).extract 1 (rdOf ByteArray.empty a c).size).size))≤9223372036854775807
 ·(
 rw[if_pos y]at H
 have c26b0:=eq_true y
 have c26b1:=zT y
 try have c26b2:(9223372036854775807<((rd_T88 d (ji21)).f1).size+(1+(((rdOf ByteArray.empty a c).extract 1 (rdOf ByteArray.empty a c).size).size)))=False:=eq_false (Nat.not_lt.2 y)
 try(have c26x:=y;simp only[ByteArray.size_extract]at c26x;have c26b3:=eq_true c26x;have c26b4:=zT c26x;have c26b5:=eq_false (Nat.not_lt.2 c26x))
 try(have c26y:=y;simp only[ByteArray.size_extract,Nat.min_self]at c26y;have c26b6:=eq_false (Nat.not_lt.2 c26y))
 obtain⟨y204,hy204⟩:∃B:List (S88),B=(d.set ((ji21):Int).toNat (⟨(rd_T88 d (ji21)).f0,((rd_T88 d (ji21)).f1)++((⟨#[32]⟩:ByteArray)++((rdOf ByteArray.empty a c).extract 1 (rdOf ByteArray.empty a c).size))⟩:S88)):=⟨_,rfl⟩
 replace H:(impl_combine.l0 kj9 y204 a (a.length:Int) (wrap64 (c+1)))=some (r1,r2):=by first|(rw[hy204];with_reducible exact H)|(have o:=(Option.bind_some _ _).symm.trans H;rw[hy204];with_reducible exact o)|(have o:=(Option.bind_some _ _).symm.trans H;with_reducible exact o)|with_reducible exact H|(rw[hy204];exact H)|exact H
 have aV:=zM hy204
 clear hy204
 have H':=zM H
 clear H
 try go_wp2_with (first|((with_reducible refine gate_callee (f:=106) rfl ?_);refine sC (some 41) Tryd.func106 #[.string (rdOf ByteArray.empty a c)] (impl_IsContinuation.calls (rdOf ByteArray.empty a c) true _ O.out) ?_;rintro e w' ⟨rfl,⟨nd,rfl⟩⟩;refine⟨_,rfl,?_⟩;(try(rw[drewN_self wc];generalize hq_:World.drewN wc _=wc;have ap:Aside0 (Kd.R Kd.string 9 wc w.heap.size (fun _=>True) (.slice (some am) a.length X) a):=⟨by rw[←hq_];exact(sE l.out)⟩;have aq:Aside0 (Kd.R k88 88 wc w.heap.size (fun _=>True) u4 d):=⟨by rw[←hq_];exact(sE g.out)⟩;have ar:Aside0 (Below w.heap.size w wc):=⟨by rw[←hq_];exact(sH HB.out)⟩;clear l g HB hq_;have l:=ap;have g:=aq;have HB:=ar;clear ap aq ar));obtain⟨bl,bm,aW⟩:=Kd.R_slice g.out;subst aW))
 replace g:=zM (Kd.R_drew g.out)
 replace l:=zM (Kd.R_drew l.out)
 replace HB:=zM (below_drew1 HB.out)
 have Z:0≤((ji21):Int):=zzA
 have aa:(ji21)<(d.length:Int):=zzA
 obtain⟨bn,aX,ab,ac⟩:=at_T88 (Kd.R_reads' g.out).2.2 (ji21) Z aa
 cases aX
 replace Z:=eq_true Z
 replace aa:=eq_true aa
 have ad:0≤((ji21):Int):=zzA
 have ae:((ji21):Int)<((d.length:Int):Int):=zzA
 obtain⟨z,bo,au,av,aY,bp,aw⟩:=Kd.R_form g.out (by omega)
 (first|cases au|(injection au with U aZ a2;(first|subst U|(injection U with U;subst U));subst a2;clear aZ))
 have a3:=zM av
 have ax:=zM aw
 clear av aY aw
 (first|simp only[add_plain]at ab|skip)
 (first|simp only[add_plain]at ac|skip)
 obtain⟨bq,a4,ay,af,ag⟩:=Kd.R_elem g.out z88 ((ji21):Int) ad ae
 obtain rfl:=k88_openM ay
 have a5:World.cell? _ ⟨z,((ji21):Int).toNat*2,none⟩=some (.int .i64 ((rd_T88 d (ji21)).f0)):=af 0 _ rfl
 have a6:World.cell? _ ⟨z,((ji21):Int).toNat*2+1,none⟩=some (.string ((rd_T88 d (ji21)).f1)):=af 1 _ rfl
 have a7:World.frozen? _ ⟨z,((ji21):Int).toNat*2,none⟩=false:=ag 0
 have a8:World.frozen? _ ⟨z,((ji21):Int).toNat*2+1,none⟩=false:=ag 1
 clear a4 af ag ay
 replace ad:=eq_true ad
 replace ae:=eq_true ae
 obtain⟨br,az,aA,aC,a9⟩:=Kd.R_elem g.out z88 ((ji21):Int) (zzA) (by have u:((ji21):Int)<((d.length:Int):Int):=zzA;first|exact u|(have e_:=(Kd.R_reads' g.out).1;omega)|simpa using u)
 obtain rfl:=k88_openM aA
 have ah:=(Kd.R_seg g.out ((ji21):Int) (zzA) (by have u:((ji21):Int)<((d.length:Int):Int):=zzA;first|exact u|(have e_:=(Kd.R_reads' g.out).1;omega)|simpa using u) (seg:=[.string (((rd_T88 d (ji21)).f1)++((⟨#[32]⟩:ByteArray)++((rdOf ByteArray.empty a c).extract 1 (rdOf ByteArray.empty a c).size)))]) (j:=1) az aC (show 2≤2 from by decide) (x':=(⟨(rd_T88 d (ji21)).f0,((rd_T88 d (ji21)).f1)++((⟨#[32]⟩:ByteArray)++((rdOf ByteArray.empty a c).extract 1 (rdOf ByteArray.empty a c).size))⟩:S88)) (k88_mkM _ _ _ (⟨(rd_T88 d (ji21)).f0,((rd_T88 d (ji21)).f1)++((⟨#[32]⟩:ByteArray)++((rdOf ByteArray.empty a c).extract 1 (rdOf ByteArray.empty a c).size))⟩:S88)) (fun _ hk=>hk)).1
 rw[←aV.out]at ah
 have aD:=zM ah
 clear az aC a9 aA ah
 refine start_ (n:=14) (S:=fun w'=>w'.cell? ⟨z,(((ji21)).toNat*2),none⟩=some (.int .i64 ((rd_T88 d (ji21)).f0))∧w'.cell? ⟨z,(((ji21)).toNat*2)+1,none⟩=some (.string ((rd_T88 d (ji21)).f1))) (ds:=[13]) #[false,false,false,false,false,false,false,false,false,false,false,false,false,false] (by kernel_rfl) rfl rfl ⟨ab,ac⟩ (fun hHeld=>?_);refine with_tabW impl_combine.tab6 impl_combine.bits6 (fun m ba=>?_)
 generalize wc.drew=w29 at g l HB ax aD a7 a8 ab ac a5 a6 hHeld ⊢
 refine pure_ (i:=0) (N:=some 19) (v:=?_) (a':=?_) (bN 14 1) rfl rfl (any_of m.out (by kernel_rfl)) (fun _ _ _ h=>h) (Or.inl ⟨by rfl,?_⟩) ?_ ?_
 rotate_left
 ·(
 intro w'
 go_simp
 with_reducible rfl)
 rotate_left
 ·(
 simp only[zP,i64_w,i32_w]
 rfl)
 refine pure_ (i:=1) (N:=some 20) (v:=?_) (a':=?_) (bN 14 3) rfl rfl (any_of m.out (by kernel_rfl)) (fun _ _ _ h=>h) (Or.inl ⟨by rfl,?_⟩) ?_ ?_
 rotate_left
 ·(
 intro w'
 go_simp
 with_reducible rfl)
 rotate_left
 ·(
 simp only[zP,i64_w,i32_w]
 rfl)
 refine pure_ (i:=2) (N:=some 21) (v:=?_) (a':=?_) (bN 14 7) rfl rfl (any_of m.out (by kernel_rfl)) (fun _ _ _ h=>h) (Or.inl ⟨by rfl,?_⟩) ?_ ?_
 rotate_left
 ·(
 intro w'
 go_simp
 with_reducible rfl)
 rotate_left
 ·(
 simp only[zP,i64_w,i32_w]
 rfl)
 refine pure_ (i:=3) (N:=some 22) (v:=?_) (a':=?_) (bN 14 15) rfl rfl (any_of m.out (by kernel_rfl)) (fun _ _ _ h=>h) (Or.inl ⟨by rfl,?_⟩) ?_ ?_
 rotate_left
 ·(
 intro w'
 go_simp
 with_reducible rfl)
 rotate_left
 ·(
 simp only[zP,i64_w,i32_w]
 rfl)
 refine pure_ (i:=4) (N:=some 23) (v:=?_) (a':=?_) (bN 14 31) rfl rfl (any_of m.out (by kernel_rfl)) (fun _ _ _ h=>h) (Or.inl ⟨by rfl,?_⟩) ?_ ?_
 rotate_left
 ·(
 intro w'
 go_simp
 with_reducible rfl)
 rotate_left
 ·(
 simp only[zP,i64_w,i32_w]
 rfl)
 refine pure_ (i:=5) (N:=some 24) (v:=?_) (a':=?_) (bN 14 63) rfl rfl (any_of m.out (by kernel_rfl)) (fun _ _ _ h=>h) (Or.inl ⟨by rfl,?_⟩) ?_ ?_
 rotate_left
 ·(
 intro w'
 go_simp
 with_reducible rfl)
 rotate_left
 ·(
 simp only[zP,i64_w,i32_w]
 rfl)
 refine pure_ (i:=7) (N:=some 26) (v:=?_) (a':=?_) (bN 14 191) rfl rfl (any_of m.out (by kernel_rfl)) (fun _ _ _ h=>h) (Or.inl ⟨by rfl,?_⟩) ?_ ?_
 rotate_left
 ·(
 intro w'
 go_simp
 with_reducible rfl)
 rotate_left
 ·(
 simp only[zP,i64_w,i32_w]
 rfl)
 refine pure_ (i:=8) (N:=some 27) (v:=?_) (a':=?_) (bN 14 447) rfl rfl (any_of m.out (by kernel_rfl)) (fun _ _ _ h=>h) (Or.inl ⟨by rfl,?_⟩) ?_ ?_
 rotate_left
 ·(
 intro w'
 go_simp
 with_reducible rfl)
 rotate_left
 ·(
 simp only[zP,i64_w,i32_w]
 rfl)
 refine pure_ (i:=9) (N:=some 28) (v:=?_) (a':=?_) (bN 14 959) rfl rfl (any_of m.out (by kernel_rfl)) (fun _ _ _ h=>h) (Or.inl ⟨by rfl,?_⟩) ?_ ?_
 rotate_left
 ·(
 intro w'
 go_simp
 with_reducible rfl)
 rotate_left
 ·(
 simp only[zP,i64_w,i32_w]
 rfl)
 refine take_ (i:=6) (N:=some 25) (v:=?_) (a':=?_) (bN 14 1023) rfl rfl (take_ofW m.out ba.out (by kernel_rfl)) (fun _ _ _ h=>h) (Or.inl ⟨by rfl,?_⟩) hHeld ?_ ?_
 rotate_left
 ·(
 rintro w' ⟨s0,s1⟩
 go_simp
 with_reducible rfl)
 rotate_left
 ·(
 simp only[zP,i64_w,i32_w]
 rfl)
 refine pure_ (i:=10) (N:=some 29) (v:=?_) (a':=?_) (bN 14 2047) rfl rfl (any_of m.out (by kernel_rfl)) (fun _ _ _ h=>h) (Or.inl ⟨by rfl,?_⟩) ?_ ?_
 rotate_left
 ·(
 intro w'
 go_simp
 with_reducible rfl)
 rotate_left
 ·(
 simp only[zP,i64_w,i32_w]
 rfl)
 refine pure_ (i:=11) (N:=some 30) (v:=?_) (a':=?_) (bN 14 4095) rfl rfl (any_of m.out (by kernel_rfl)) (fun _ _ _ h=>h) (Or.inl ⟨by rfl,?_⟩) ?_ ?_
 rotate_left
 ·(
 intro w'
 go_simp
 with_reducible rfl)
 rotate_left
 ·(
 simp only[zP,i64_w,i32_w]
 rfl)
 refine pure_ (i:=12) (N:=some 31) (v:=?_) (a':=?_) (bN 14 8191) rfl rfl (any_of m.out (by kernel_rfl)) (fun _ _ _ h=>h) (Or.inl ⟨by rfl,?_⟩) ?_ ?_
 rotate_left
 ·(
 intro w'
 go_simp
 with_reducible rfl)
 rotate_left
 ·(
 simp only[zP,i64_w,i32_w]
 rfl)
 refine last_ (i:=13) (N:=none) (bN 14 16383) rfl rfl (one_of m.out (by kernel_rfl)) (by decide) (fun K hK=>?_)
 refine skip_ (w1:=?_) (by rfl) rfl ?_ ?_
 rotate_left
 ·(
 go_simp
 rfl)
 refine hK.out _ _ ?_
 clear hK K
 refine done_ (done_of m.out (by kernel_rfl)) ?_
 try go_wp2
 go_roundg kj9
 case measure=>have:=q.out;have:=A.out;omega
 case rel=>exact⟨(y204),(wrap64 (c+1)),sr,H',⟨by have:=q.out;have:=A.out;omega⟩,⟨by(with_reducible repeat(first|apply Kd.R_alloc|apply Kd.R_drewN|apply Kd.R_drew));exact aD.out⟩,⟨by(with_reducible repeat(first|apply Kd.R_alloc|apply Kd.R_drewN|apply Kd.R_drew));exact Kd.R_mono (Kd.R_far (p:=⟨z,((ji21):Int).toNat*2+1,none⟩) (Kd.R_types l.out ax.out (by decide)) (fun _ hk=>hk.2) (.string (((rd_T88 d (ji21)).f1)++((⟨#[32]⟩:ByteArray)++((rdOf ByteArray.empty a c).extract 1 (rdOf ByteArray.empty a c).size))))) (fun _ hk=>trivial)⟩,⟨by repeat(first|(with_reducible first|exact HB.out|apply below_alloc|apply pw_below_drewN|apply below_drew1|refine below_set ?_ a3.out)|exact HB.out)⟩⟩)
 rw[if_neg y]at H
 exact absurd H (by simp))
 rw[if_neg x]at H
 exact absurd H (by simp))
 rw[if_neg F]at H
 exact absurd H (by simp))
 rw[if_neg T]at H
 exact absurd H (by simp))
 rw[if_neg Q]at H
 exact absurd H (by simp))
 replace P:=zB P
 subst P
 rewrite[if_neg zQ]at H
 by_cases V:d.length<5864062014805
 ·(
 rw[if_pos V]at H
 have bb:=zM V
 clear V
 obtain⟨y205,hy205⟩:∃B:List (S88),B=(d++[(⟨(wrap64 (c+1)),(rdOf ByteArray.empty a c)⟩:S88)]):=⟨_,rfl⟩
 replace H:(impl_combine.l0 kj9 y205 a (a.length:Int) (wrap64 (c+1)))=some (r1,r2):=by first|(rw[hy205];with_reducible exact H)|(have o:=(Option.bind_some _ _).symm.trans H;rw[hy205];with_reducible exact o)|(have o:=(Option.bind_some _ _).symm.trans H;with_reducible exact o)|with_reducible exact H|(rw[hy205];exact H)|exact H
 have bc:=zM hy205
 clear hy205
 have H':=zM H
 clear H
 go_wp2_with (first|((with_reducible refine gate_callee (f:=106) rfl ?_);refine sC (some 41) Tryd.func106 #[.string (rdOf ByteArray.empty a c)] (impl_IsContinuation.calls (rdOf ByteArray.empty a c) false _ O.out) ?_;rintro e w' ⟨rfl,⟨nd,rfl⟩⟩;refine⟨_,rfl,?_⟩)|((with_reducible refine gate_builtin (b:= .append) (xs:= #[.tmp 43,.tmp 47]) rfl ?_);at_builtin;refine Kd.R_append k88 (w0:=w) w.heap.size rfl (.tmp 43) (.tmp 47) 46 88 (.agg #[(.int .i64 0),(.string ⟨#[]⟩)]) 24 rfl Tryd.underlying46 info88 rfl (by decide) (by omega) u4 d (⟨(wrap64 (c+1)),(rdOf ByteArray.empty a c)⟩:S88) [.int .i64 (wrap64 (c+1)),.string (rdOf ByteArray.empty a c)] (fun _=>True) (fun _=>False) rfl rfl ?aP (fun _ hk=>hk.elim) ?aF ?aO ?aB ?aS ?aL ?_;(case aP=>exact k88_mkM _ _ _ (⟨(wrap64 (c+1)),(rdOf ByteArray.empty a c)⟩:S88));(case aB=>exact(sH HB.out));(case aF=>exact(fun _ _=>trivial));(case aO=>exact(sE g.out));(case aS=>exact(below_size (sH HB.out)));(case aL=>have:=bb.out;omega);intro bs bt ho hb hg hat;rw[←bc.out]at ho;replace l:=zM (Kd.R_over' (sE l.out) (Kd.R_typed (sE g.out)) (by decide) hg);replace HB:=zM (hb);have bd:=zM (ho);clear g;clear ho hb hg hat))
 go_roundg kj9
 case measure=>have:=q.out;have:=A.out;omega
 case rel=>exact⟨(y205),(wrap64 (c+1)),sr,H',⟨by have:=q.out;have:=A.out;omega⟩,⟨by exact sE bd.out⟩,⟨by exact sE l.out⟩,⟨sb⟩⟩)
 rw[if_neg V]at H
 exact absurd H (by simp))))
 rw[if_neg E]at H
 exact absurd H (by simp))
 rw[if_neg D]at H
 exact absurd H (by simp))
 rw[if_neg t]at H
 have c7b0:=zF t
 clear t
 simp only[Option.some.injEq,Prod.mk.injEq]at H
 obtain⟨rfl,rfl⟩:=H
 go_wp2
 go_ret2
 exact⟨_,sq,by exact sE g.out,sb⟩))
end Go.Proofs.YtjmojijopammjaaDoor.PFnExactLogicalLines
