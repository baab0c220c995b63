/- Printed functions: spec_l00Src_word, spec_l06Text, spec_DrawTrimText. -/
import Derived.Test.YtjmojijopammjaaDoorYToP0
import Derived.Test.YtjmojijopammjaaDoorYToP1
namespace Go.Proofs.YtjmojijopammjaaDoor.PFnTextOps
open Go.RowKit Go.Proofs.YtjmojijopammjaaDoorG Go.Proofs.YtjmojijopammjaaDoorW.PrintWords Go.Proofs.YtjmojijopammjaaDoorW.PrintLast Go.Proofs.YtjmojijopammjaaDoorW.PrintMore
attribute [local go_sem] max2_int min2_int max_two min_two max_three min_three max_four min_four
set_option linter.unusedVariables false
set_option linter.unusedSimpArgs false
def spec_l00Src_word.l0 : Nat → List Int → Int → List Int → Int → Int → Option (ByteArray × Int × Int)
 |0,_,_,_,_,_=>none
 |k+1,x5,x6,x1000,x1001,x1002=>if x6>0 then((spec_l00Src_next.f x1000 x1001 x1002).bind fun bt122=>(if x5.length<140737488355328 then(spec_l00Src_word.l0 k (x5++[(bt122.1)%256]) (wrap64 (x6- 1)) x1000 bt122.2.1 bt122.2.2)else(none)))else(some (strOfNums x5,x1001,x1002))
def spec_l00Src_word.f (k:Nat) (s0_0:List Int) (s0_1:Int) (s0_2:Int) (a1:Int):Option (ByteArray×Int×Int):=(spec_l00Src_pick.f s0_0 s0_1 s0_2 a1).bind fun bt119=>(spec_l00Src_word.l0 k (([]:List Int)) bt119.1 s0_0 bt119.2.1 bt119.2.2)
set_option maxHeartbeats 8000000 in
set_option maxRecDepth 100000 in
theorem spec_l00Src_word.calls (k:Nat) (g:Nat) (s0_0:List Int) (s0_1:Int) (s0_2:Int) (a1:Int) (r1:ByteArray) (r2:Int) (r3:Int) (w0 w:World) (hI:IsS116 w0 w g s0_0 s0_1 s0_2) (hB:Below w0.heap.size w0 w) (h:spec_l00Src_word.f k s0_0 s0_1 s0_2 a1=some (r1,r2,r3)):
  Calls Tryd.prog 108 #[.pointer (some ⟨g,0,none⟩),.int .i64 a1] w fun e w'=>e= .returned (.string r1)∧IsS116 w0 w' g s0_0 r2 r3∧Below w0.heap.size w0 w'∧KeepBut w w' g none:=by
 have a:=zM hI
 have HK:=zM (KeepBut.refl w g none)
 have HL:=zM hB.size
 clear hI
 have U:=zM hB.size
 have HB:=zM hB
 clear hB
 have H:((spec_l00Src_pick.f s0_0 s0_1 s0_2 a1).bind fun i=>(spec_l00Src_word.l0 k (([]:List Int)) i.1 s0_0 i.2.1 i.2.2))=some (r1,r2,r3):=h
 clear h
 obtain⟨y116,hy116⟩:∃v:List Int,v=(([]:List Int)):=⟨_,rfl⟩
 replace H:((spec_l00Src_pick.f s0_0 s0_1 s0_2 a1).bind fun i=>(spec_l00Src_word.l0 k y116 i.1 s0_0 i.2.1 i.2.2))=some (r1,r2,r3):=by first|(rw[hy116];with_reducible exact H)|(have j:=(Option.bind_some _ _).symm.trans H;rw[hy116];with_reducible exact j)|(have j:=(Option.bind_some _ _).symm.trans H;with_reducible exact j)|with_reducible exact H|(rw[hy116];exact H)|exact H
 have B:=zM hy116
 clear hy116
 replace H:=Option.bind_eq_some_iff.mp H
 obtain⟨⟨x,y,z⟩,D,H⟩:=H
 replace H:(spec_l00Src_word.l0 k y116 x s0_0 y z)=some (r1,r2,r3):=H
 have G:=zM D
 clear D
 have H':=zM H
 clear H
 go_enter Tryd.func108,Tryd.ntmps108
 go_wp2_with (first|((with_reducible refine gate_dst (N:=7) rfl ?_);refine Kd.R_lit (Kd.int .u8) _ 5 ?hg (N:=7) ?hd (xs:=([]:List Int)) (inner:=[]) (ok:=fun _=>True) (okp:=fun _=>True) ?hr ?hp (fun _ hk=>hk) trivial (Below.refl _ _) (Nat.le_refl _) (by simp) ?_;(case hd=>rfl);(case hg=>rfl);(case hr=>first|(go_simp;done)|(go_simp;rfl));(case hp=>exact(Reps.none _ _));intro V W n hb I J;clear I J;(first|rw[←B.out]at n|(simp only[Int.reduceToNat]at n;rw[←B.out]at n));have A:=zM (Kd.R_lower n (keep_size (w:=w) (g:=g) (row:=none) (by repeat(first|(with_reducible first|exact HK.out|apply KeepBut.set_|apply keep_drewN|apply keep_drew|apply keep_alloc)|exact HK.out))));replace HK:=zM (KeepBut.trans (by repeat(first|(with_reducible first|exact HK.out|apply KeepBut.set_|apply keep_drewN|apply keep_drew|apply keep_alloc)|exact HK.out)) (KeepBut.of_below hb g none) (.inl rfl));replace HB:=zM (below_step (by repeat(first|(with_reducible first|exact HB.out|apply below_alloc|apply pw_below_drewN|apply below_drew1|refine below_set ?_ (IsS116.ge a.out))|exact HB.out)) hb);replace a:=zM (IsS116.below (by repeat(first|(with_reducible first|exact a.out|apply IsS116.alloc|apply IsS116.drewN|apply IsS116.drew|apply IsS116.set_1|apply IsS116.set_2)|exact a.out)) hb);clear hb n)|((with_reducible refine gate_callee (f:=79) rfl ?_);refine sC (some 10) Tryd.func79 #[.pointer (some ⟨g,0,none⟩),.int .i64 a1] (spec_l00Src_pick.calls g s0_0 s0_1 s0_2 a1 x y z w0 _ ?side1 ?side2 G.out) ?_;(case side1=>repeat(first|(with_reducible first|exact a.out|apply IsS116.alloc|apply IsS116.drewN|apply IsS116.drew|apply IsS116.set_1|apply IsS116.set_2)|exact a.out));(case side2=>repeat(first|(with_reducible first|exact HB.out|apply below_alloc|apply pw_below_drewN|apply below_drew1|refine below_set ?_ (IsS116.ge a.out))|exact HB.out));rintro e X ⟨rfl,hi,hb,hk⟩;refine⟨_,rfl,?_⟩;replace A:=zM (Kd.R_mono (Kd.R_keep (IsS116.apart (show IsS116 w0 _ g s0_0 s0_1 s0_2 from by repeat(first|(with_reducible first|exact a.out|apply IsS116.alloc|apply IsS116.drewN|apply IsS116.drew|apply IsS116.set_1|apply IsS116.set_2)|exact a.out)) (sE A.out) (by decide)) hk (fun _ h=>h.2)) (fun _ h=>h.1));replace HK:=zM (KeepBut.trans (by repeat(first|(with_reducible first|exact HK.out|apply KeepBut.set_|apply keep_drewN|apply keep_drew|apply keep_alloc)|exact HK.out)) hk (.inl rfl));replace HB:=zM (hb);replace a:=zM (hi);(try clear hb);(try clear hk);(try clear hi)))
 go_loopg [5,6] k (fun kq K L w'=>∃(d:List Int) (c:Int) (o:Int) (p:Int),L= .int .i64 c∧Aside0 (spec_l00Src_word.l0 kq d c s0_0 o p=some (r1,r2,r3))∧Aside0 (kq≤k)∧Aside0 (Kd.R (Kd.int .u8) 5 w' w.heap.size (fun _=>True) K d)∧Aside0 (IsS116 w0 w' g s0_0 o p)∧Aside0 (KeepBut w w' g none)∧Aside0 (Below w0.heap.size w0 w'))
 case atStart=>exact⟨(y116),(x),(y),(z),sr,H',⟨Nat.le_refl _⟩,⟨by exact sE A.out⟩,⟨by repeat(first|(with_reducible first|exact a.out|apply IsS116.alloc|apply IsS116.drewN|apply IsS116.drew|apply IsS116.set_1|apply IsS116.set_2)|exact a.out)⟩,⟨by repeat(first|(with_reducible first|exact HK.out|apply KeepBut.set_|apply keep_drewN|apply keep_drew|apply keep_alloc)|exact HK.out)⟩,⟨by repeat(first|(with_reducible first|exact HB.out|apply below_alloc|apply pw_below_drewN|apply below_drew1|refine below_set ?_ (IsS116.ge a.out))|exact HB.out)⟩⟩
 case round=>(
 clear H'
 obtain⟨d,c,o,p,rfl,HA,E,l,a,HK,HB⟩:=hrel
 cases gk with
 |zero=>exact absurd HA.out (by simp[spec_l00Src_word.l0])
 |succ k1=>(
 have H:=HA.out
 clear HA
 simp only[spec_l00Src_word.l0]at H
 by_cases m:c>0
 ·(
 rw[if_pos m]at H
 have c7b0:decide (0<c)=true:=zT m
 clear m
 replace H:=Option.bind_eq_some_iff.mp H
 obtain⟨⟨q,s,t⟩,F,H⟩:=H
 replace H:(if d.length<140737488355328 then(spec_l00Src_word.l0 k1 (d++[(q)%256]) (wrap64 (c- 1)) s0_0 s t)else(none))=some (r1,r2,r3):=H
 have O:=zM F
 clear F
 by_cases u:d.length<140737488355328
 ·(
 rw[if_pos u]at H
 have Q:=zM u
 clear u
 obtain⟨y125,hy125⟩:∃v:List Int,v=(d++[(q)%256]):=⟨_,rfl⟩
 replace H:(spec_l00Src_word.l0 k1 y125 (wrap64 (c- 1)) s0_0 s t)=some (r1,r2,r3):=by first|(rw[hy125];with_reducible exact H)|(have j:=(Option.bind_some _ _).symm.trans H;rw[hy125];with_reducible exact j)|(have j:=(Option.bind_some _ _).symm.trans H;with_reducible exact j)|with_reducible exact H|(rw[hy125];exact H)|exact H
 have S:=zM hy125
 clear hy125
 have H':=zM H
 clear H
 go_wp2_with (first|((with_reducible refine gate_callee (f:=113) rfl ?_);refine sC (some 17) Tryd.func113 #[.pointer (some ⟨g,0,none⟩)] (spec_l00Src_next.calls g s0_0 o p q s t w0 _ ?side1 ?side2 O.out) ?_;(case side1=>repeat(first|(with_reducible first|exact a.out|apply IsS116.alloc|apply IsS116.drewN|apply IsS116.drew|apply IsS116.set_1|apply IsS116.set_2)|exact a.out));(case side2=>repeat(first|(with_reducible first|exact HB.out|apply below_alloc|apply pw_below_drewN|apply below_drew1|refine below_set ?_ (IsS116.ge a.out))|exact HB.out));rintro e Y ⟨rfl,hi,hb,hk⟩;refine⟨_,rfl,?_⟩;replace l:=zM (Kd.R_mono (Kd.R_keep (IsS116.apart (show IsS116 w0 _ g s0_0 o p from by repeat(first|(with_reducible first|exact a.out|apply IsS116.alloc|apply IsS116.drewN|apply IsS116.drew|apply IsS116.set_1|apply IsS116.set_2)|exact a.out)) (sE l.out) (by decide)) hk (fun _ h=>h.2)) (fun _ h=>h.1));replace HK:=zM (KeepBut.trans (by repeat(first|(with_reducible first|exact HK.out|apply KeepBut.set_|apply keep_drewN|apply keep_drew|apply keep_alloc)|exact HK.out)) hk (.inl rfl));replace HB:=zM (hb);replace a:=zM (hi);(try clear hb);(try clear hk);(try clear hi))|((with_reducible refine gate_builtin (b:= .append) (xs:= #[.tmp 15,.tmp 19]) rfl ?_);at_builtin;refine Kd.R_append (Kd.int .u8) w.heap.size rfl (.tmp 15) (.tmp 19) 51 5 (.int .u8 0) 1 rfl Tryd.underlying51 info5 rfl (by decide) (by omega) u5 d ((q)%256) [.int .u8 ((q)%256)] (fun _=>True) (fun _=>False) rfl rfl ?aP (fun _ hk=>hk.elim) ?aF ?aO (Below.refl _ _) ?aS ?aL ?_;(case aP=>exact rfl);(case aF=>exact(fun _ _=>trivial));(case aO=>exact(sE l.out));(case aS=>exact(keep_size (w:=w) (g:=g) (row:=none) (by repeat(first|(with_reducible first|exact HK.out|apply KeepBut.set_|apply keep_drewN|apply keep_drew|apply keep_alloc)|exact HK.out))));(case aL=>have:=Q.out;omega);intro Z aa ho hb hg hat;rw[←S.out]at ho;replace HB:=zM (below_weaken (by repeat(first|(with_reducible first|exact HB.out|apply below_alloc|apply pw_below_drewN|apply below_drew1|refine below_set ?_ (IsS116.ge a.out))|exact HB.out)) HL.out hb);replace a:=zM (IsS116.grown (by repeat(first|(with_reducible first|exact a.out|apply IsS116.alloc|apply IsS116.drewN|apply IsS116.drew|apply IsS116.set_1|apply IsS116.set_2)|exact a.out)) hg (IsS116.own_ne a.out l.out (by decide)));replace HK:=zM (KeepBut.trans (by repeat(first|(with_reducible first|exact HK.out|apply KeepBut.set_|apply keep_drewN|apply keep_drew|apply keep_alloc)|exact HK.out)) (KeepBut.of_grown hg g) (Kd.R_base2 l.out));have T:=zM (ho);clear l;clear ho hb hg hat))
 go_roundg k1
 case measure=>have:=E.out;omega
 case rel=>exact⟨(y125),(wrap64 (c- 1)),(s),(t),sr,H',⟨by have:=E.out;omega⟩,⟨by exact sE T.out⟩,⟨by repeat(first|(with_reducible first|exact a.out|apply IsS116.alloc|apply IsS116.drewN|apply IsS116.drew|apply IsS116.set_1|apply IsS116.set_2)|exact a.out)⟩,⟨by repeat(first|(with_reducible first|exact HK.out|apply KeepBut.set_|apply keep_drewN|apply keep_drew|apply keep_alloc)|exact HK.out)⟩,⟨by repeat(first|(with_reducible first|exact HB.out|apply below_alloc|apply pw_below_drewN|apply below_drew1|refine below_set ?_ (IsS116.ge a.out))|exact HB.out)⟩⟩)
 rw[if_neg u]at H
 exact absurd H (by simp))
 rw[if_neg m]at H
 have c7b0:decide (0<c)=false:=zF m
 clear m
 simp only[Option.some.injEq,Prod.mk.injEq]at H
 obtain⟨rfl,rfl,rfl⟩:=H
 have ab:=own_string (P:=Tryd.prog) Tryd.underlying51 Tryd.underlying5 Tryd.underlying9 (Kd.own_of_R l.out)
 go_wp2
 go_ret
 exact⟨sq,by repeat(first|(with_reducible first|exact a.out|apply IsS116.alloc|apply IsS116.drewN|apply IsS116.drew|apply IsS116.set_1|apply IsS116.set_2)|exact a.out),by repeat(first|(with_reducible first|exact HB.out|apply below_alloc|apply pw_below_drewN|apply below_drew1|refine below_set ?_ (IsS116.ge a.out))|exact HB.out),by repeat(first|(with_reducible first|exact HK.out|apply KeepBut.set_|apply keep_drewN|apply keep_drew|apply keep_alloc)|exact HK.out)⟩))
def spec_l06Text.f (k:Nat) (s0_0:List Int) (s0_1:Int) (s0_2:Int):Option (ByteArray×Int×Int):=(spec_l00Src_one.f s0_0 s0_1 s0_2 3).bind fun bt128=>(if bt128.1=true then((spec_l00Src_text.f s0_0 bt128.2.1 bt128.2.2 (([(⟨#[]⟩:ByteArray),(⟨#[97]⟩:ByteArray),(⟨#[97,98]⟩:ByteArray),(⟨#[49,50]⟩:ByteArray),(⟨#[45,55]⟩:ByteArray),(⟨#[34]⟩:ByteArray),(⟨#[97,34,98]⟩:ByteArray),(⟨#[105,116,39,115]⟩:ByteArray),(⟨#[32,32,120,32]⟩:ByteArray),(⟨#[10]⟩:ByteArray),(⟨#[48,48]⟩:ByteArray),(⟨#[104,101,108,108,111,32,119,111,114,108,100]⟩:ByteArray)]:List ByteArray))).bind fun bt134=>(some (bt134.1,bt134.2.1,bt134.2.2)))else((spec_l00Src_word.f k s0_0 bt128.2.1 bt128.2.2 12).bind fun bt137=>(some (bt137.1,bt137.2.1,bt137.2.2))))
set_option maxHeartbeats 8000000 in
set_option maxRecDepth 100000 in
theorem spec_l06Text.calls (k:Nat) (g:Nat) (s0_0:List Int) (s0_1:Int) (s0_2:Int) (r1:ByteArray) (r2:Int) (r3:Int) (w0 w:World) (hI:IsS116 w0 w g s0_0 s0_1 s0_2) (hB:Below w0.heap.size w0 w) (h:spec_l06Text.f k s0_0 s0_1 s0_2=some (r1,r2,r3)):
  Calls Tryd.prog 75 #[.pointer (some ⟨g,0,none⟩)] w fun e w'=>e= .returned (.string r1)∧IsS116 w0 w' g s0_0 r2 r3∧Below w0.heap.size w0 w'∧KeepBut w w' g none:=by
 have a:=zM hI
 have HK:=zM (KeepBut.refl w g none)
 have HL:=zM hB.size
 clear hI
 have S:=zM hB.size
 have HB:=zM hB
 clear hB
 have H:((spec_l00Src_one.f s0_0 s0_1 s0_2 3).bind fun m=>(if m.1=true then((spec_l00Src_text.f s0_0 m.2.1 m.2.2 (([(⟨#[]⟩:ByteArray),(⟨#[97]⟩:ByteArray),(⟨#[97,98]⟩:ByteArray),(⟨#[49,50]⟩:ByteArray),(⟨#[45,55]⟩:ByteArray),(⟨#[34]⟩:ByteArray),(⟨#[97,34,98]⟩:ByteArray),(⟨#[105,116,39,115]⟩:ByteArray),(⟨#[32,32,120,32]⟩:ByteArray),(⟨#[10]⟩:ByteArray),(⟨#[48,48]⟩:ByteArray),(⟨#[104,101,108,108,111,32,119,111,114,108,100]⟩:ByteArray)]:List ByteArray))).bind fun c=>(some (c.1,c.2.1,c.2.2)))else((spec_l00Src_word.f k s0_0 m.2.1 m.2.2 12).bind fun j=>(some (j.1,j.2.1,j.2.2)))))=some (r1,r2,r3):=h
 clear h
 replace H:=Option.bind_eq_some_iff.mp H
 obtain⟨⟨q,d,i⟩,s,H⟩:=H
 replace H:(if q=true then((spec_l00Src_text.f s0_0 d i (([(⟨#[]⟩:ByteArray),(⟨#[97]⟩:ByteArray),(⟨#[97,98]⟩:ByteArray),(⟨#[49,50]⟩:ByteArray),(⟨#[45,55]⟩:ByteArray),(⟨#[34]⟩:ByteArray),(⟨#[97,34,98]⟩:ByteArray),(⟨#[105,116,39,115]⟩:ByteArray),(⟨#[32,32,120,32]⟩:ByteArray),(⟨#[10]⟩:ByteArray),(⟨#[48,48]⟩:ByteArray),(⟨#[104,101,108,108,111,32,119,111,114,108,100]⟩:ByteArray)]:List ByteArray))).bind fun c=>(some (c.1,c.2.1,c.2.2)))else((spec_l00Src_word.f k s0_0 d i 12).bind fun j=>(some (j.1,j.2.1,j.2.2))))=some (r1,r2,r3):=H
 have t:=zM s
 clear s
 by_cases o:q=true
 ·(
 subst o
 rewrite[if_pos rfl]at H
 obtain⟨y131,hy131⟩:∃F:List ByteArray,F=(([(⟨#[]⟩:ByteArray),(⟨#[97]⟩:ByteArray),(⟨#[97,98]⟩:ByteArray),(⟨#[49,50]⟩:ByteArray),(⟨#[45,55]⟩:ByteArray),(⟨#[34]⟩:ByteArray),(⟨#[97,34,98]⟩:ByteArray),(⟨#[105,116,39,115]⟩:ByteArray),(⟨#[32,32,120,32]⟩:ByteArray),(⟨#[10]⟩:ByteArray),(⟨#[48,48]⟩:ByteArray),(⟨#[104,101,108,108,111,32,119,111,114,108,100]⟩:ByteArray)]:List ByteArray)):=⟨_,rfl⟩
 replace H:((spec_l00Src_text.f s0_0 d i y131).bind fun c=>(some (c.1,c.2.1,c.2.2)))=some (r1,r2,r3):=by first|(rw[hy131];with_reducible exact H)|(have p:=(Option.bind_some _ _).symm.trans H;rw[hy131];with_reducible exact p)|(have p:=(Option.bind_some _ _).symm.trans H;with_reducible exact p)|with_reducible exact H|(rw[hy131];exact H)|exact H
 have u:=zM hy131
 clear hy131
 replace H:=Option.bind_eq_some_iff.mp H
 obtain⟨⟨v,x,y⟩,z,H⟩:=H
 replace H:(some (v,x,y))=some (r1,r2,r3):=H
 have G:=zM z
 clear z
 simp only[Option.some.injEq,Prod.mk.injEq]at H
 obtain⟨rfl,rfl,rfl⟩:=H
 go_enter Tryd.func75,Tryd.ntmps75
 go_wp2_with (first|((with_reducible refine gate_callee (f:=80) rfl ?_);refine sC (some 4) Tryd.func80 #[.pointer (some ⟨g,0,none⟩),.int .i64 3] (spec_l00Src_one.calls g s0_0 s0_1 s0_2 3 true d i w0 _ ?side1 ?side2 t.out) ?_;(case side1=>repeat(first|(with_reducible first|exact a.out|apply IsS116.alloc|apply IsS116.drewN|apply IsS116.drew|apply IsS116.set_1|apply IsS116.set_2)|exact a.out));(case side2=>repeat(first|(with_reducible first|exact HB.out|apply below_alloc|apply pw_below_drewN|apply below_drew1|refine below_set ?_ (IsS116.ge a.out))|exact HB.out));rintro e T ⟨rfl,hi,hb,hk⟩;refine⟨_,rfl,?_⟩;replace HK:=zM (KeepBut.trans (by repeat(first|(with_reducible first|exact HK.out|apply KeepBut.set_|apply keep_drewN|apply keep_drew|apply keep_alloc)|exact HK.out)) hk (.inl rfl));replace HB:=zM (hb);replace a:=zM (hi);(try clear hb);(try clear hk);(try clear hi))|((with_reducible refine gate_dst (N:=6) rfl ?_);refine Kd.R_lit Kd.string _ 9 ?hg (N:=6) ?hd (xs:=([(⟨#[]⟩:ByteArray),(⟨#[97]⟩:ByteArray),(⟨#[97,98]⟩:ByteArray),(⟨#[49,50]⟩:ByteArray),(⟨#[45,55]⟩:ByteArray),(⟨#[34]⟩:ByteArray),(⟨#[97,34,98]⟩:ByteArray),(⟨#[105,116,39,115]⟩:ByteArray),(⟨#[32,32,120,32]⟩:ByteArray),(⟨#[10]⟩:ByteArray),(⟨#[48,48]⟩:ByteArray),(⟨#[104,101,108,108,111,32,119,111,114,108,100]⟩:ByteArray)]:List ByteArray)) (inner:=[.string (⟨#[]⟩:ByteArray),.string (⟨#[97]⟩:ByteArray),.string (⟨#[97,98]⟩:ByteArray),.string (⟨#[49,50]⟩:ByteArray),.string (⟨#[45,55]⟩:ByteArray),.string (⟨#[34]⟩:ByteArray),.string (⟨#[97,34,98]⟩:ByteArray),.string (⟨#[105,116,39,115]⟩:ByteArray),.string (⟨#[32,32,120,32]⟩:ByteArray),.string (⟨#[10]⟩:ByteArray),.string (⟨#[48,48]⟩:ByteArray),.string (⟨#[104,101,108,108,111,32,119,111,114,108,100]⟩:ByteArray)]) (ok:=fun _=>True) (okp:=fun _=>True) ?hr ?hp (fun _ hk=>hk) trivial (Below.refl _ _) (Nat.le_refl _) (by simp) ?_;(case hd=>rfl);(case hg=>rfl);(case hr=>first|(go_simp;done)|(go_simp;rfl));(case hp=>exact(Reps.one (show Kd.M Kd.string _ _ _ (⟨#[]⟩:ByteArray) [.string (⟨#[]⟩:ByteArray)] from rfl) (Reps.one (show Kd.M Kd.string _ _ _ (⟨#[97]⟩:ByteArray) [.string (⟨#[97]⟩:ByteArray)] from rfl) (Reps.one (show Kd.M Kd.string _ _ _ (⟨#[97,98]⟩:ByteArray) [.string (⟨#[97,98]⟩:ByteArray)] from rfl) (Reps.one (show Kd.M Kd.string _ _ _ (⟨#[49,50]⟩:ByteArray) [.string (⟨#[49,50]⟩:ByteArray)] from rfl) (Reps.one (show Kd.M Kd.string _ _ _ (⟨#[45,55]⟩:ByteArray) [.string (⟨#[45,55]⟩:ByteArray)] from rfl) (Reps.one (show Kd.M Kd.string _ _ _ (⟨#[34]⟩:ByteArray) [.string (⟨#[34]⟩:ByteArray)] from rfl) (Reps.one (show Kd.M Kd.string _ _ _ (⟨#[97,34,98]⟩:ByteArray) [.string (⟨#[97,34,98]⟩:ByteArray)] from rfl) (Reps.one (show Kd.M Kd.string _ _ _ (⟨#[105,116,39,115]⟩:ByteArray) [.string (⟨#[105,116,39,115]⟩:ByteArray)] from rfl) (Reps.one (show Kd.M Kd.string _ _ _ (⟨#[32,32,120,32]⟩:ByteArray) [.string (⟨#[32,32,120,32]⟩:ByteArray)] from rfl) (Reps.one (show Kd.M Kd.string _ _ _ (⟨#[10]⟩:ByteArray) [.string (⟨#[10]⟩:ByteArray)] from rfl) (Reps.one (show Kd.M Kd.string _ _ _ (⟨#[48,48]⟩:ByteArray) [.string (⟨#[48,48]⟩:ByteArray)] from rfl) (Reps.one (show Kd.M Kd.string _ _ _ (⟨#[104,101,108,108,111,32,119,111,114,108,100]⟩:ByteArray) [.string (⟨#[104,101,108,108,111,32,119,111,114,108,100]⟩:ByteArray)] from rfl) (Reps.none _ _))))))))))))));intro U V n hb I J;clear I J;(first|rw[←u.out]at n|(simp only[Int.reduceToNat]at n;rw[←u.out]at n));have l:=zM (Kd.R_lower n (keep_size (w:=w) (g:=g) (row:=none) (by repeat(first|(with_reducible first|exact HK.out|apply KeepBut.set_|apply keep_drewN|apply keep_drew|apply keep_alloc)|exact HK.out))));replace HK:=zM (KeepBut.trans (by repeat(first|(with_reducible first|exact HK.out|apply KeepBut.set_|apply keep_drewN|apply keep_drew|apply keep_alloc)|exact HK.out)) (KeepBut.of_below hb g none) (.inl rfl));replace HB:=zM (below_step (by repeat(first|(with_reducible first|exact HB.out|apply below_alloc|apply pw_below_drewN|apply below_drew1|refine below_set ?_ (IsS116.ge a.out))|exact HB.out)) hb);replace a:=zM (IsS116.below (by repeat(first|(with_reducible first|exact a.out|apply IsS116.alloc|apply IsS116.drewN|apply IsS116.drew|apply IsS116.set_1|apply IsS116.set_2)|exact a.out)) hb);clear hb n;obtain⟨K,L,O⟩:=Kd.R_slice l.out;subst O)|((with_reducible refine gate_callee (f:=76) rfl ?_);refine sC (some 7) Tryd.func76 #[.pointer (some ⟨g,0,none⟩),.slice K y131.length L] (spec_l00Src_text.calls g s0_0 d i _ _ y131 v x y w0 _ ?side1 ?side2 ?side3 ?side4 ?side5 G.out) ?_;(case side1=>repeat(first|(with_reducible first|exact a.out|apply IsS116.alloc|apply IsS116.drewN|apply IsS116.drew|apply IsS116.set_1|apply IsS116.set_2)|exact a.out));(case side2=>repeat(first|(with_reducible first|exact HB.out|apply below_alloc|apply pw_below_drewN|apply below_drew1|refine below_set ?_ (IsS116.ge a.out))|exact HB.out));(case side3=>exact sD ((Kd.R_reads' l.out).2.2));(case side4=>exact(Kd.R_reads' l.out).2.1);(case side5=>exact far_slice (IsS116.own_ne a.out l.out (by decide)));rintro e W ⟨rfl,hi,hb,hk⟩;refine⟨_,rfl,?_⟩;replace l:=zM (Kd.R_mono (Kd.R_keep (IsS116.apart (show IsS116 w0 _ g s0_0 d i from by repeat(first|(with_reducible first|exact a.out|apply IsS116.alloc|apply IsS116.drewN|apply IsS116.drew|apply IsS116.set_1|apply IsS116.set_2)|exact a.out)) (sE l.out) (by decide)) hk (fun _ h=>h.2)) (fun _ h=>h.1));replace HK:=zM (KeepBut.trans (by repeat(first|(with_reducible first|exact HK.out|apply KeepBut.set_|apply keep_drewN|apply keep_drew|apply keep_alloc)|exact HK.out)) hk (.inl rfl));replace HB:=zM (hb);replace a:=zM (hi);(try clear hb);(try clear hk);(try clear hi)))
 go_ret
 exact⟨sq,by repeat(first|(with_reducible first|exact a.out|apply IsS116.alloc|apply IsS116.drewN|apply IsS116.drew|apply IsS116.set_1|apply IsS116.set_2)|exact a.out),by repeat(first|(with_reducible first|exact HB.out|apply below_alloc|apply pw_below_drewN|apply below_drew1|refine below_set ?_ (IsS116.ge a.out))|exact HB.out),by repeat(first|(with_reducible first|exact HK.out|apply KeepBut.set_|apply keep_drewN|apply keep_drew|apply keep_alloc)|exact HK.out)⟩)
 replace o:=zB o
 subst o
 rewrite[if_neg zQ]at H
 replace H:=Option.bind_eq_some_iff.mp H
 obtain⟨⟨A,B,D⟩,E,H⟩:=H
 replace H:(some (A,B,D))=some (r1,r2,r3):=H
 have Q:=zM E
 clear E
 simp only[Option.some.injEq,Prod.mk.injEq]at H
 obtain⟨rfl,rfl,rfl⟩:=H
 go_enter Tryd.func75,Tryd.ntmps75
 go_wp2_with (first|((with_reducible refine gate_callee (f:=80) rfl ?_);refine sC (some 4) Tryd.func80 #[.pointer (some ⟨g,0,none⟩),.int .i64 3] (spec_l00Src_one.calls g s0_0 s0_1 s0_2 3 false d i w0 _ ?side1 ?side2 t.out) ?_;(case side1=>repeat(first|(with_reducible first|exact a.out|apply IsS116.alloc|apply IsS116.drewN|apply IsS116.drew|apply IsS116.set_1|apply IsS116.set_2)|exact a.out));(case side2=>repeat(first|(with_reducible first|exact HB.out|apply below_alloc|apply pw_below_drewN|apply below_drew1|refine below_set ?_ (IsS116.ge a.out))|exact HB.out));rintro e X ⟨rfl,hi,hb,hk⟩;refine⟨_,rfl,?_⟩;replace HK:=zM (KeepBut.trans (by repeat(first|(with_reducible first|exact HK.out|apply KeepBut.set_|apply keep_drewN|apply keep_drew|apply keep_alloc)|exact HK.out)) hk (.inl rfl));replace HB:=zM (hb);replace a:=zM (hi);(try clear hb);(try clear hk);(try clear hi))|((with_reducible refine gate_callee (f:=108) rfl ?_);refine sC (some 9) Tryd.func108 #[.pointer (some ⟨g,0,none⟩),.int .i64 12] (spec_l00Src_word.calls k g s0_0 d i 12 A B D w0 _ ?side1 ?side2 Q.out) ?_;(case side1=>repeat(first|(with_reducible first|exact a.out|apply IsS116.alloc|apply IsS116.drewN|apply IsS116.drew|apply IsS116.set_1|apply IsS116.set_2)|exact a.out));(case side2=>repeat(first|(with_reducible first|exact HB.out|apply below_alloc|apply pw_below_drewN|apply below_drew1|refine below_set ?_ (IsS116.ge a.out))|exact HB.out));rintro e Y ⟨rfl,hi,hb,hk⟩;refine⟨_,rfl,?_⟩;replace HK:=zM (KeepBut.trans (by repeat(first|(with_reducible first|exact HK.out|apply KeepBut.set_|apply keep_drewN|apply keep_drew|apply keep_alloc)|exact HK.out)) hk (.inl rfl));replace HB:=zM (hb);replace a:=zM (hi);(try clear hb);(try clear hk);(try clear hi)))
 go_ret
 exact⟨sq,by repeat(first|(with_reducible first|exact a.out|apply IsS116.alloc|apply IsS116.drewN|apply IsS116.drew|apply IsS116.set_1|apply IsS116.set_2)|exact a.out),by repeat(first|(with_reducible first|exact HB.out|apply below_alloc|apply pw_below_drewN|apply below_drew1|refine below_set ?_ (IsS116.ge a.out))|exact HB.out),by repeat(first|(with_reducible first|exact HK.out|apply KeepBut.set_|apply keep_drewN|apply keep_drew|apply keep_alloc)|exact HK.out)⟩
def spec_DrawTrimText.f (k:Nat) (l0:List Int):Option (ByteArray):=(spec_l00From.f l0).bind fun bt140=>((spec_l06Text.f k bt140.1 bt140.2.1 bt140.2.2).bind fun bt144=>((spec_l00Src_text.f bt140.1 bt144.2.1 bt144.2.2 (([(⟨#[]⟩:ByteArray),(⟨#[32]⟩:ByteArray),(⟨#[32,32,32]⟩:ByteArray),(⟨#[97,32]⟩:ByteArray),(⟨#[32,10]⟩:ByteArray)]:List ByteArray))).bind fun bt150=>(if bt144.1.size+bt150.1.size≤9223372036854775807 then(some (bt144.1++bt150.1))else(none))))
set_option maxHeartbeats 8000000 in
set_option maxRecDepth 100000 in
theorem spec_DrawTrimText.calls (k:Nat) (A0:Option Addr) (c0:Nat) (l0:List Int) (r:ByteArray) (w:World) (hr0:Kd.C (Kd.int .u8) w A0 l0.length l0) (hc0:l0.length≤c0) (h:spec_DrawTrimText.f k l0=some r):
  Calls Tryd.prog 30 #[.slice A0 l0.length c0] w fun e w'=>e= .returned (.string r)∧Below w.heap.size w w':=by
 have E:=zM hr0
 have F:=zM hc0
 clear hr0 hc0
 have HB:=zM (Below.refl w.heap.size w)
 have H:((spec_l00From.f l0).bind fun t=>((spec_l06Text.f k t.1 t.2.1 t.2.2).bind fun d=>((spec_l00Src_text.f t.1 d.2.1 d.2.2 (([(⟨#[]⟩:ByteArray),(⟨#[32]⟩:ByteArray),(⟨#[32,32,32]⟩:ByteArray),(⟨#[97,32]⟩:ByteArray),(⟨#[32,10]⟩:ByteArray)]:List ByteArray))).bind fun c=>(if d.1.size+c.1.size≤9223372036854775807 then(some (d.1++c.1))else(none)))))=some r:=h
 clear h
 replace H:=Option.bind_eq_some_iff.mp H
 obtain⟨⟨j,u,v⟩,z,H⟩:=H
 replace H:((spec_l06Text.f k j u v).bind fun d=>((spec_l00Src_text.f j d.2.1 d.2.2 (([(⟨#[]⟩:ByteArray),(⟨#[32]⟩:ByteArray),(⟨#[32,32,32]⟩:ByteArray),(⟨#[97,32]⟩:ByteArray),(⟨#[32,10]⟩:ByteArray)]:List ByteArray))).bind fun c=>(if d.1.size+c.1.size≤9223372036854775807 then(some (d.1++c.1))else(none))))=some r:=H
 have G:=zM z
 clear z
 replace H:=Option.bind_eq_some_iff.mp H
 obtain⟨⟨i,m,n⟩,A,H⟩:=H
 replace H:((spec_l00Src_text.f j m n (([(⟨#[]⟩:ByteArray),(⟨#[32]⟩:ByteArray),(⟨#[32,32,32]⟩:ByteArray),(⟨#[97,32]⟩:ByteArray),(⟨#[32,10]⟩:ByteArray)]:List ByteArray))).bind fun c=>(if i.size+c.1.size≤9223372036854775807 then(some (i++c.1))else(none)))=some r:=H
 have I:=zM A
 clear A
 obtain⟨y147,hy147⟩:∃J:List ByteArray,J=(([(⟨#[]⟩:ByteArray),(⟨#[32]⟩:ByteArray),(⟨#[32,32,32]⟩:ByteArray),(⟨#[97,32]⟩:ByteArray),(⟨#[32,10]⟩:ByteArray)]:List ByteArray)):=⟨_,rfl⟩
 replace H:((spec_l00Src_text.f j m n y147).bind fun c=>(if i.size+c.1.size≤9223372036854775807 then(some (i++c.1))else(none)))=some r:=by first|(rw[hy147];with_reducible exact H)|(have x:=(Option.bind_some _ _).symm.trans H;rw[hy147];with_reducible exact x)|(have x:=(Option.bind_some _ _).symm.trans H;with_reducible exact x)|with_reducible exact H|(rw[hy147];exact H)|exact H
 have B:=zM hy147
 clear hy147
 replace H:=Option.bind_eq_some_iff.mp H
 obtain⟨⟨o,K,L⟩,D,H⟩:=H
 replace H:(if i.size+o.size≤9223372036854775807 then(some (i++o))else(none))=some r:=H
 have O:=zM D
 clear D
 by_cases p:i.size+o.size≤9223372036854775807
 ·(
 rw[if_pos p]at H
 have c5b0:=eq_true p
 have c5b1:=zT p
 try have c5b2:(9223372036854775807<i.size+o.size)=False:=eq_false (Nat.not_lt.2 p)
 obtain rfl:=zI H
 go_enter Tryd.func30,Tryd.ntmps30
 go_wp2_with (first|((with_reducible refine gate_callee (f:=74) rfl ?_);refine sC (some 5) Tryd.func74 #[.slice A0 l0.length c0] (spec_l00From.calls _ _ l0 j u v w _ ?side1 ?side2 ?side3 G.out) ?_;(case side1=>repeat(first|(with_reducible first|exact HB.out|apply below_alloc|apply pw_below_drewN|apply below_drew1)|exact HB.out));(case side2=>exact E.out);(case side3=>exact F.out);rintro e W ⟨q,rfl,hi,hb,y⟩;refine⟨_,rfl,?_⟩;replace HB:=zM (hb);have a:=zM (hi);(try clear hb);(try clear y);(try clear hi))|((with_reducible refine gate_callee (f:=75) rfl ?_);refine sC (some 7) Tryd.func75 #[.pointer (some ⟨q,0,none⟩)] (spec_l06Text.calls k q j u v i m n w _ ?side1 ?side2 I.out) ?_;(case side1=>repeat(first|(with_reducible first|exact a.out|apply IsS116.alloc|apply IsS116.drewN|apply IsS116.drew|apply IsS116.set_1|apply IsS116.set_2)|exact a.out));(case side2=>repeat(first|(with_reducible first|exact HB.out|apply below_alloc|apply pw_below_drewN|apply below_drew1|refine below_set ?_ (IsS116.ge a.out))|exact HB.out));rintro e X ⟨rfl,hi,hb,hk⟩;refine⟨_,rfl,?_⟩;replace HB:=zM (hb);replace a:=zM (hi);(try clear hb);(try clear y);(try clear hk);(try clear hi))|((with_reducible refine gate_dst (N:=9) rfl ?_);refine Kd.R_lit Kd.string _ 9 ?hg (N:=9) ?hd (xs:=([(⟨#[]⟩:ByteArray),(⟨#[32]⟩:ByteArray),(⟨#[32,32,32]⟩:ByteArray),(⟨#[97,32]⟩:ByteArray),(⟨#[32,10]⟩:ByteArray)]:List ByteArray)) (inner:=[.string (⟨#[]⟩:ByteArray),.string (⟨#[32]⟩:ByteArray),.string (⟨#[32,32,32]⟩:ByteArray),.string (⟨#[97,32]⟩:ByteArray),.string (⟨#[32,10]⟩:ByteArray)]) (ok:=fun _=>True) (okp:=fun _=>True) ?hr ?hp (fun _ hk=>hk) trivial (Below.refl _ _) (Nat.le_refl _) (by simp) ?_;(case hd=>rfl);(case hg=>rfl);(case hr=>first|(go_simp;done)|(go_simp;rfl));(case hp=>exact(Reps.one (show Kd.M Kd.string _ _ _ (⟨#[]⟩:ByteArray) [.string (⟨#[]⟩:ByteArray)] from rfl) (Reps.one (show Kd.M Kd.string _ _ _ (⟨#[32]⟩:ByteArray) [.string (⟨#[32]⟩:ByteArray)] from rfl) (Reps.one (show Kd.M Kd.string _ _ _ (⟨#[32,32,32]⟩:ByteArray) [.string (⟨#[32,32,32]⟩:ByteArray)] from rfl) (Reps.one (show Kd.M Kd.string _ _ _ (⟨#[97,32]⟩:ByteArray) [.string (⟨#[97,32]⟩:ByteArray)] from rfl) (Reps.one (show Kd.M Kd.string _ _ _ (⟨#[32,10]⟩:ByteArray) [.string (⟨#[32,10]⟩:ByteArray)] from rfl) (Reps.none _ _)))))));intro Y Z s hb Q S;clear Q S;(first|rw[←B.out]at s|(simp only[Int.reduceToNat]at s;rw[←B.out]at s));have l:=zM (Kd.R_lower s (below_size (by repeat(first|(with_reducible first|exact HB.out|apply below_alloc|apply pw_below_drewN|apply below_drew1|refine below_set ?_ (IsS116.ge a.out))|exact HB.out))));replace HB:=zM (below_step (by repeat(first|(with_reducible first|exact HB.out|apply below_alloc|apply pw_below_drewN|apply below_drew1|refine below_set ?_ (IsS116.ge a.out))|exact HB.out)) hb);replace a:=zM (IsS116.below (by repeat(first|(with_reducible first|exact a.out|apply IsS116.alloc|apply IsS116.drewN|apply IsS116.drew|apply IsS116.set_1|apply IsS116.set_2)|exact a.out)) hb);clear hb s;obtain⟨T,U,V⟩:=Kd.R_slice l.out;subst V)|((with_reducible refine gate_callee (f:=76) rfl ?_);refine sC (some 10) Tryd.func76 #[.pointer (some ⟨q,0,none⟩),.slice T y147.length U] (spec_l00Src_text.calls q j m n _ _ y147 o K L w _ ?side1 ?side2 ?side3 ?side4 ?side5 O.out) ?_;(case side1=>repeat(first|(with_reducible first|exact a.out|apply IsS116.alloc|apply IsS116.drewN|apply IsS116.drew|apply IsS116.set_1|apply IsS116.set_2)|exact a.out));(case side2=>repeat(first|(with_reducible first|exact HB.out|apply below_alloc|apply pw_below_drewN|apply below_drew1|refine below_set ?_ (IsS116.ge a.out))|exact HB.out));(case side3=>exact sD ((Kd.R_reads' l.out).2.2));(case side4=>exact(Kd.R_reads' l.out).2.1);(case side5=>exact far_slice (IsS116.own_ne a.out l.out (by decide)));rintro e aa ⟨rfl,hi,hb,hk⟩;refine⟨_,rfl,?_⟩;replace l:=zM (Kd.R_mono (Kd.R_keep (IsS116.apart (show IsS116 w _ q j m n from by repeat(first|(with_reducible first|exact a.out|apply IsS116.alloc|apply IsS116.drewN|apply IsS116.drew|apply IsS116.set_1|apply IsS116.set_2)|exact a.out)) (sE l.out) (by decide)) hk (fun _ h=>h.2)) (fun _ h=>h.1));replace HB:=zM (hb);replace a:=zM (hi);(try clear hb);(try clear y);(try clear hk);(try clear hi)))
 go_ret
 exact⟨sq,by repeat(first|(with_reducible first|exact HB.out|apply below_alloc|apply pw_below_drewN|apply below_drew1|refine below_set ?_ (IsS116.ge a.out))|exact HB.out)⟩)
 rw[if_neg p]at H
 exact absurd H (by simp)
end Go.Proofs.YtjmojijopammjaaDoor.PFnTextOps
