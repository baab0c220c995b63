/- Printed functions: spec_l06Digits, spec_l26Sum, strconv_FormatInt_85, impl_decimal. -/
import Derived.Test.YtjmojijopammjaaDoorYOiP0
namespace Go.Proofs.YtjmojijopammjaaDoor.PFnExactOpenImage
open Go.RowKit Go.Proofs.YtjmojijopammjaaDoorG Go.Proofs.YtjmojijopammjaaDoorW.PrintWords Go.Proofs.YtjmojijopammjaaDoorW.PrintLast Go.Proofs.YtjmojijopammjaaDoorW.PrintMore
attribute [local go_sem] max2_int min2_int max_two min_two max_three min_three max_four min_four
set_option linter.unusedVariables false
set_option linter.unusedSimpArgs false
def spec_l06Digits.l0 : Nat → Int → ByteArray → Int → Option (ByteArray)
 |0,_,_,_=>none
 |k+1,x0,x3,x4=>if x4=0 then(if x0<0 then(if 1+x3.size≤9223372036854775807 then(some ((⟨#[45]⟩:ByteArray)++x3))else(none))else(some x3))else(if(Int.tmod x4 10)<0 then((some (([(wrap64 (48+(wrap64 (-(Int.tmod x4 10)))))%256]:List Int):List Int)).bind fun y101=>(if(strOfNums y101).size+x3.size≤9223372036854775807 then(spec_l06Digits.l0 k x0 ((strOfNums y101)++x3) (wrap64 (Int.tdiv x4 10)))else(none)))else((some (([(wrap64 (48+(Int.tmod x4 10)))%256]:List Int):List Int)).bind fun y104=>(if(strOfNums y104).size+x3.size≤9223372036854775807 then(spec_l06Digits.l0 k x0 ((strOfNums y104)++x3) (wrap64 (Int.tdiv x4 10)))else(none))))
def spec_l06Digits.f (k:Nat) (a0:Int):Option (ByteArray):=if a0=0 then(some (⟨#[48]⟩:ByteArray))else(spec_l06Digits.l0 k a0 (⟨#[]⟩:ByteArray) a0)
set_option maxHeartbeats 8000000 in
set_option maxRecDepth 100000 in
theorem spec_l06Digits.calls (k:Nat) (a0:Int) (r:ByteArray) (w:World) (h:spec_l06Digits.f k a0=some r):
  Calls Tryd.prog 52 #[.int .i64 a0] w fun e w'=>e= .returned (.string r)∧Below w.heap.size w w':=by
 have HB:=zM (Below.refl w.heap.size w)
 have H:(if a0=0 then(some (⟨#[48]⟩:ByteArray))else(spec_l06Digits.l0 k a0 (⟨#[]⟩:ByteArray) a0))=some r:=h
 clear h
 by_cases c:a0=0
 ·(
 rw[if_pos c]at H
 have c2b0:(a0==0)=true:=zE c
 have c2b1:(a0 !=0)=false:=zY c
 clear c
 obtain rfl:=zI H
 go_enter Tryd.func52,Tryd.ntmps52
 go_wp2
 go_ret
 exact⟨sq,sb⟩)
 rw[if_neg c]at H
 have c2b0:(a0==0)=false:=zN c
 have c2b1:(a0 !=0)=true:=zX c
 have H':=zM H
 clear H
 go_enter Tryd.func52,Tryd.ntmps52
 go_wp2
 go_loopg [3,4] k (fun kq y z w'=>∃(b:ByteArray) (a:Int),y= .string b∧z= .int .i64 a∧Aside0 (spec_l06Digits.l0 kq a0 b a=some r)∧Aside0 (kq≤k)∧Aside0 (Below w.heap.size w w'))
 case atStart=>exact⟨((⟨#[]⟩:ByteArray)),(a0),sr,sr,H',⟨Nat.le_refl _⟩,⟨sb⟩⟩
 case round=>(
 clear H'
 try clear c
 try clear c2b0
 try clear c2b1
 obtain⟨b,a,rfl,rfl,HA,q,HB⟩:=hrel
 cases gk with
 |zero=>exact absurd HA.out (by simp[spec_l06Digits.l0])
 |succ k1=>(
 have H:=HA.out
 clear HA
 simp only[spec_l06Digits.l0]at H
 by_cases d:a=0
 ·(
 rw[if_pos d]at H
 have c3b0:(a==0)=true:=zE d
 have c3b1:(a !=0)=false:=zY d
 clear d
 by_cases i:a0<0
 ·(
 rw[if_pos i]at H
 have c4b0:=zT i
 clear i
 by_cases l:1+b.size≤9223372036854775807
 ·(
 rw[if_pos l]at H
 have c5b0:=eq_true l
 have c5b1:=zT l
 try have c5b2:(9223372036854775807<1+b.size)=False:=eq_false (Nat.not_lt.2 l)
 obtain rfl:=zI H
 go_wp2
 go_ret
 exact⟨sq,sb⟩)
 rw[if_neg l]at H
 exact absurd H (by simp))
 rw[if_neg i]at H
 have c4b0:=zF i
 clear i
 obtain rfl:=zI H
 go_wp2
 go_ret
 exact⟨sq,sb⟩)
 rw[if_neg d]at H
 have c3b0:(a==0)=false:=zN d
 have c3b1:(a !=0)=true:=zX d
 by_cases j:(Int.tmod a 10)<0
 ·(
 rw[if_pos j]at H
 have c6b0:=zT j
 clear j
 obtain⟨y101,hy101⟩:∃s:List Int,s=(([(wrap64 (48+(wrap64 (-(Int.tmod a 10)))))%256]:List Int)):=⟨_,rfl⟩
 replace H:(if(strOfNums y101).size+b.size≤9223372036854775807 then(spec_l06Digits.l0 k1 a0 ((strOfNums y101)++b) (wrap64 (Int.tdiv a 10)))else(none))=some r:=by first|(rw[hy101];with_reducible exact H)|(have g:=(Option.bind_some _ _).symm.trans H;rw[hy101];with_reducible exact g)|(have g:=(Option.bind_some _ _).symm.trans H;with_reducible exact g)|with_reducible exact H|(rw[hy101];exact H)|exact H
 have v:=zM hy101
 clear hy101
 by_cases m:(strOfNums y101).size+b.size≤9223372036854775807
 ·(
 rw[if_pos m]at H
 have c7b0:=eq_true m
 have c7b1:=zT m
 try have c7b2:(9223372036854775807<(strOfNums y101).size+b.size)=False:=eq_false (Nat.not_lt.2 m)
 have H':=zM H
 clear H
 go_wp2_with (first|((with_reducible refine gate_dst (N:=22) rfl ?_);refine Kd.R_lit (Kd.int .u8) _ 5 ?hg (N:=22) ?hd (xs:=([(wrap64 (48+(wrap64 (-(Int.tmod a 10)))))%256]:List Int)) (inner:=[.int .u8 ((wrap64 (48+(wrap64 (-(Int.tmod a 10)))))%256)]) (ok:=fun _=>True) (okp:=fun _=>True) ?hr ?hp (fun _ hk=>hk) trivial (Below.refl _ _) (Nat.le_refl _) (by simp) ?_;(case hd=>rfl);(case hg=>rfl);(case hr=>first|(go_simp;done)|(go_simp;rfl));(case hp=>exact(Reps.one (show Kd.M (Kd.int .u8) _ _ _ ((wrap64 (48+(wrap64 (-(Int.tmod a 10)))))%256) [.int .u8 ((wrap64 (48+(wrap64 (-(Int.tmod a 10)))))%256)] from rfl) (Reps.none _ _)));intro C D n hb t u;clear t u;(first|rw[←v.out]at n|(simp only[Int.reduceToNat]at n;rw[←v.out]at n));have A:=zM (Kd.R_lower n (below_size (sH HB.out)));replace HB:=sB HB hb;clear hb n;have E:=own_string (P:=Tryd.prog) Tryd.underlying51 Tryd.underlying5 Tryd.underlying9 (Kd.own_of_R A.out)))
 go_roundg k1
 case measure=>have:=q.out;omega
 case rel=>exact⟨((strOfNums y101)++b),(wrap64 (Int.tdiv a 10)),sr,sr,H',⟨by have:=q.out;omega⟩,⟨sb⟩⟩)
 rw[if_neg m]at H
 exact absurd H (by simp))
 rw[if_neg j]at H
 have c6b0:=zF j
 clear j
 obtain⟨y104,hy104⟩:∃s:List Int,s=(([(wrap64 (48+(Int.tmod a 10)))%256]:List Int)):=⟨_,rfl⟩
 replace H:(if(strOfNums y104).size+b.size≤9223372036854775807 then(spec_l06Digits.l0 k1 a0 ((strOfNums y104)++b) (wrap64 (Int.tdiv a 10)))else(none))=some r:=by first|(rw[hy104];with_reducible exact H)|(have g:=(Option.bind_some _ _).symm.trans H;rw[hy104];with_reducible exact g)|(have g:=(Option.bind_some _ _).symm.trans H;with_reducible exact g)|with_reducible exact H|(rw[hy104];exact H)|exact H
 have x:=zM hy104
 clear hy104
 by_cases o:(strOfNums y104).size+b.size≤9223372036854775807
 ·(
 rw[if_pos o]at H
 have c11b0:=eq_true o
 have c11b1:=zT o
 try have c11b2:(9223372036854775807<(strOfNums y104).size+b.size)=False:=eq_false (Nat.not_lt.2 o)
 have H':=zM H
 clear H
 go_wp2_with (first|((with_reducible refine gate_dst (N:=22) rfl ?_);refine Kd.R_lit (Kd.int .u8) _ 5 ?hg (N:=22) ?hd (xs:=([(wrap64 (48+(Int.tmod a 10)))%256]:List Int)) (inner:=[.int .u8 ((wrap64 (48+(Int.tmod a 10)))%256)]) (ok:=fun _=>True) (okp:=fun _=>True) ?hr ?hp (fun _ hk=>hk) trivial (Below.refl _ _) (Nat.le_refl _) (by simp) ?_;(case hd=>rfl);(case hg=>rfl);(case hr=>first|(go_simp;done)|(go_simp;rfl));(case hp=>exact(Reps.one (show Kd.M (Kd.int .u8) _ _ _ ((wrap64 (48+(Int.tmod a 10)))%256) [.int .u8 ((wrap64 (48+(Int.tmod a 10)))%256)] from rfl) (Reps.none _ _)));intro F G p hb t u;clear t u;(first|rw[←x.out]at p|(simp only[Int.reduceToNat]at p;rw[←x.out]at p));have B:=zM (Kd.R_lower p (below_size (sH HB.out)));replace HB:=sB HB hb;clear hb p;have I:=own_string (P:=Tryd.prog) Tryd.underlying51 Tryd.underlying5 Tryd.underlying9 (Kd.own_of_R B.out)))
 go_roundg k1
 case measure=>have:=q.out;omega
 case rel=>exact⟨((strOfNums y104)++b),(wrap64 (Int.tdiv a 10)),sr,sr,H',⟨by have:=q.out;omega⟩,⟨sb⟩⟩)
 rw[if_neg o]at H
 exact absurd H (by simp)))
def spec_l26Sum.l0 : Nat → ByteArray → Int → Int → Int → Option (Int)
 |0,_,_,_,_=>none
 |k+1,x0,x3,x4,x5=>if x5<(x0.size:Int)then(if 0≤x5 then(spec_l26Sum.l0 k x0 (Int.tmod (wrap64 (x3+(wrap64 (bt x0 x5)))) 65521) (Int.tmod (wrap64 (x4+(Int.tmod (wrap64 (x3+(wrap64 (bt x0 x5)))) 65521))) 65521) (wrap64 (x5+1)))else(none))else(some (wrap64 ((wrap64 (65536*x4))+x3)))
def spec_l26Sum.f (k:Nat) (a0:ByteArray):Option (Int):=spec_l26Sum.l0 k a0 1 0 0
set_option maxHeartbeats 8000000 in
set_option maxRecDepth 100000 in
theorem spec_l26Sum.calls (k:Nat) (a0:ByteArray) (r:Int) (w:World) (h:spec_l26Sum.f k a0=some r):
  Calls Tryd.prog 58 #[.string a0] w fun e w'=>e= .returned (.int .i64 r)∧Drawn0 w w':=by
 have H:(spec_l26Sum.l0 k a0 1 0 0)=some r:=h
 clear h
 have H':=zM H
 clear H
 go_enter Tryd.func58,Tryd.ntmps58
 go_wp2
 go_loopg [3,4,5] k (fun kq m n o w'=>∃(c:Int) (d:Int) (a:Int),m= .int .i64 c∧n= .int .i64 d∧o= .int .i64 a∧Aside0 (spec_l26Sum.l0 kq a0 c d a=some r)∧Aside0 (kq≤k)∧Drawn0 w w')
 case atStart=>exact⟨(1),(0),(0),sr,sr,sr,H',⟨Nat.le_refl _⟩,by repeat(first|exact Drawn0.refl _|apply Drawn0.step)⟩
 case round=>(
 clear H'
 obtain⟨c,d,a,rfl,rfl,rfl,HA,i,⟨p,rfl⟩⟩:=hrel
 cases gk with
 |zero=>exact absurd HA.out (by simp[spec_l26Sum.l0])
 |succ k1=>(
 have H:=HA.out
 clear HA
 simp only[spec_l26Sum.l0]at H
 by_cases b:a<(a0.size:Int)
 ·(
 rw[if_pos b]at H
 have c2b0:=zT b
 clear b
 by_cases g:0≤a
 ·(
 rw[if_pos g]at H
 have c3b0:=zT g
 clear g
 have H':=zM H
 clear H
 have j:0≤(a:Int):=zzA
 have l:a<(a0.size:Int):=zzA
 have q:=bt_at a0 a
 replace j:=eq_true j
 replace l:=eq_true l
 go_wp2
 go_roundg k1
 case measure=>have:=i.out;omega
 case rel=>exact⟨(Int.tmod (wrap64 (c+(wrap64 (bt a0 a)))) 65521),(Int.tmod (wrap64 (d+(Int.tmod (wrap64 (c+(wrap64 (bt a0 a)))) 65521))) 65521),(wrap64 (a+1)),sr,sr,sr,H',⟨by have:=i.out;omega⟩,by repeat(first|exact Drawn0.refl _|apply Drawn0.step)⟩)
 rw[if_neg g]at H
 exact absurd H (by simp))
 rw[if_neg b]at H
 have c2b0:=zF b
 clear b
 obtain rfl:=zI H
 go_wp2
 go_ret
 exact⟨by first|rfl|(simp;done)|(simp[*];done),by repeat(first|exact Drawn0.refl _|apply Drawn0.step)⟩))
def strconv_FormatInt_85.f (a0:Int) (a1:Int):Option (ByteArray):=if a1=10 then(if-9223372036854775808≤a0 then(if a0≤9223372036854775807 then(some ⟨(Lib.itoa a0).toArray⟩)else(none))else(none))else(none)
theorem strconv_FormatInt_85.calls (a0:Int) (a1:Int) (r:ByteArray) (w:World) (h:strconv_FormatInt_85.f a0 a1=some r) (HT:EnvT w):
  Calls Tryd.prog 85 #[.int .i64 a0,.int .i64 a1] w fun e w'=>e= .returned (.string r)∧Below w.heap.size w w':=by
 unfold strconv_FormatInt_85.f at h
 split at h
 ·(
 rename_i h1
 subst h1
 split at h
 ·(
 split at h
 ·(
 rename_i h0 h2
 obtain rfl:=zI h
 exact format_calls a0 h0 h2 w HT)
 ·cases h)
 ·cases h)
 ·cases h
def impl_decimal.f (a0:Int):Option (ByteArray):=(strconv_FormatInt_85.f a0 10).bind fun t158=>(some t158)
set_option maxHeartbeats 8000000 in
set_option maxRecDepth 100000 in
theorem impl_decimal.calls (a0:Int) (r:ByteArray) (w:World) (h:impl_decimal.f a0=some r) (HT:EnvT w):
  Calls Tryd.prog 37 #[.int .i64 a0] w fun e w'=>e= .returned (.string r)∧Below w.heap.size w w':=by
 have HB:=zM (Below.refl w.heap.size w)
 have H:((strconv_FormatInt_85.f a0 10).bind fun a=>(some a))=some r:=h
 clear h
 obtain⟨a,b,H⟩:=sO H
 obtain rfl:=zI H
 go_enter Tryd.func37,Tryd.ntmps37
 go_wp2_with (first|((with_reducible refine gate_callee (f:=85) rfl ?_);refine sC (some 4) Tryd.func85 #[.int .i64 a0,.int .i64 10] (strconv_FormatInt_85.calls a0 10 a _ b.out (by first|with_reducible exact HT|exact EnvT.below HT sb)) ?_;rintro e c ⟨rfl,hb⟩;refine⟨_,rfl,?_⟩;replace HB:=sB HB hb;(try clear hb)))
 go_ret
 exact⟨sq,sb⟩
end Go.Proofs.YtjmojijopammjaaDoor.PFnExactOpenImage
