/- Printed functions: strings_ReplaceAll, impl_isPlain, impl_areAll_byte__impl_isPlain, impl_isPlainText, stringslite_HasSuffix, stringslite_TrimSuffix, strings_TrimSuffix. -/
import Derived.Test.YtjmojijopammjaaDoorYLlP0
namespace Go.Proofs.YtjmojijopammjaaDoor.PFnExactLogicalLines
open Go.RowKit Go.Proofs.YtjmojijopammjaaDoorG Go.Proofs.YtjmojijopammjaaDoorW.PrintWords Go.Proofs.YtjmojijopammjaaDoorW.PrintLast Go.Proofs.YtjmojijopammjaaDoorW.PrintMore
attribute [local go_sem] max2_int min2_int max_two min_two max_three min_three max_four min_four
set_option linter.unusedVariables false
set_option linter.unusedSimpArgs false
def strings_ReplaceAll.f (a0:ByteArray) (a1:ByteArray) (a2:ByteArray):Option (ByteArray):=if a0.size<4294967281 then(if 1≤a1.size then(if a0.size+Lib.countB a0 a1*a2.size≤140737488355328 then(some ⟨(Lib.replaceAll a0.data.toList a1.data.toList a2.data.toList).toArray⟩)else(none))else(none))else(none)
theorem strings_ReplaceAll.calls (a0:ByteArray) (a1:ByteArray) (a2:ByteArray) (r:ByteArray) (w:World) (h:strings_ReplaceAll.f a0 a1 a2=some r) (HT:EnvT w):
  Calls Tryd.prog 86 #[.string a0,.string a1,.string a2] w fun e w'=>e= .returned (.string r)∧Below w.heap.size w w':=by
 unfold strings_ReplaceAll.f at h
 split at h
 ·(
 rename_i h1
 split at h
 ·(
 rename_i h2
 split at h
 ·(
 rename_i h3
 obtain rfl:=zI h
 exact replace_calls a0 a1 a2 w HT h1 h2 h3)
 ·cases h)
 ·cases h)
 ·cases h
def impl_isPlain.f (a0:Int):Option (Bool):=if a0≥32 then(some (decide (a0≤126)))else(some false)
set_option maxHeartbeats 8000000 in
set_option maxRecDepth 100000 in
theorem impl_isPlain.calls (a0:Int) (r:Bool) (w:World) (h:impl_isPlain.f a0=some r):
  Calls Tryd.prog 131 #[.int .u8 a0] w fun e w'=>e= .returned (.bool r)∧Drawn0 w w':=by
 have H:(if a0≥32 then(some (decide (a0≤126)))else(some false))=some r:=h
 clear h
 by_cases a:a0≥32
 ·(
 rw[if_pos a]at H
 have c2b0:decide (32≤a0)=true:=zT a
 clear a
 obtain rfl:=zI H
 go_enter Tryd.func131,Tryd.ntmps131
 go_wp2
 go_ret
 exact⟨by first|rfl|(simp;done)|(simp[*];done),by repeat(first|exact Drawn0.refl _|apply Drawn0.step)⟩)
 rw[if_neg a]at H
 have c2b0:decide (32≤a0)=false:=zF a
 clear a
 obtain rfl:=zI H
 go_enter Tryd.func131,Tryd.ntmps131
 go_wp2
 go_ret
 exact⟨by first|rfl|(simp;done)|(simp[*];done),by repeat(first|exact Drawn0.refl _|apply Drawn0.step)⟩
def impl_areAll_byte__impl_isPlain.l0 : Nat → List Int → Int → Int → Option (Bool)
 |0,_,_,_=>none
 |k+1,x7,x8,x9=>if x9<x8 then(if 0≤x9 then(if x9<(x7.length:Int)then((impl_isPlain.f (rd x7 x9)).bind fun t170=>(if t170=true then(impl_areAll_byte__impl_isPlain.l0 k x7 x8 (wrap64 (x9+1)))else(some false)))else(none))else(none))else(some true)
def impl_areAll_byte__impl_isPlain.f (k:Nat) (l0:List Int):Option (Bool):=impl_areAll_byte__impl_isPlain.l0 k l0 (l0.length:Int) 0
set_option maxHeartbeats 8000000 in
set_option maxRecDepth 100000 in
theorem impl_areAll_byte__impl_isPlain.calls (k:Nat) (A0:Option Addr) (c0:Nat) (l0:List Int) (r:Bool) (w:World) (hr0:Kd.C (Kd.int .u8) w A0 l0.length l0) (hc0:l0.length≤c0) (h:impl_areAll_byte__impl_isPlain.f k l0=some r):
  Calls Tryd.prog 93 #[.slice A0 l0.length c0,.func (.func 131) #[] #[]] w fun e w'=>e= .returned (.bool r)∧Drawn0 w w':=by
 have m:=zM hr0
 have u:=zM hc0
 clear hr0 hc0
 have H:(impl_areAll_byte__impl_isPlain.l0 k l0 (l0.length:Int) 0)=some r:=h
 clear h
 have H':=zM H
 clear H
 go_enter Tryd.func93,Tryd.ntmps93
 go_wp2
 go_loopg [9] k (fun kq p w'=>∃(a:Int),p= .int .i64 a∧Aside0 (impl_areAll_byte__impl_isPlain.l0 kq l0 (l0.length:Int) a=some r)∧Aside0 (kq≤k)∧Drawn0 w w')
 case atStart=>exact⟨(0),sr,H',⟨Nat.le_refl _⟩,by repeat(first|exact Drawn0.refl _|apply Drawn0.step)⟩
 case round=>(
 clear H'
 obtain⟨a,rfl,HA,n,⟨v,rfl⟩⟩:=hrel
 cases gk with
 |zero=>exact absurd HA.out (by simp[impl_areAll_byte__impl_isPlain.l0])
 |succ k1=>(
 have H:=HA.out
 clear HA
 simp only[impl_areAll_byte__impl_isPlain.l0]at H
 by_cases d:a<(l0.length:Int)
 ·(
 rw[if_pos d]at H
 have c3b0:=zT d
 clear d
 by_cases g:0≤a
 ·(
 rw[if_pos g]at H
 have c4b0:=zT g
 clear g
 by_cases i:a<(l0.length:Int)
 ·(
 rw[if_pos i]at H
 have c5b0:=zT i
 clear i
 obtain⟨q,o,H⟩:=sO H
 by_cases j:q=true
 ·(
 subst j
 rewrite[if_pos rfl]at H
 have H':=zM H
 clear H
 have b:0≤(a:Int):=zzA
 have c:a<(l0.length:Int):=zzA
 obtain⟨s,l,t⟩:=Kd.at_int m.out a b c
 cases l
 replace b:=eq_true b
 replace c:=eq_true c
 go_wp2_with (first|(go_at_call 131;(with_reducible refine(impl_isPlain.calls (rd l0 a) true _ o.out).mono ?_);rintro e w' ⟨rfl,⟨nd,rfl⟩⟩))
 go_roundg k1
 case measure=>have:=n.out;omega
 case rel=>exact⟨(wrap64 (a+1)),sr,H',⟨by have:=n.out;omega⟩,by repeat(first|exact Drawn0.refl _|apply Drawn0.step)⟩)
 replace j:=zB j
 subst j
 rewrite[if_neg zQ]at H
 obtain rfl:=zI H
 have b:0≤(a:Int):=zzA
 have c:a<(l0.length:Int):=zzA
 obtain⟨s,l,t⟩:=Kd.at_int m.out a b c
 cases l
 replace b:=eq_true b
 replace c:=eq_true c
 go_wp2_with (first|(go_at_call 131;(with_reducible refine(impl_isPlain.calls (rd l0 a) false _ o.out).mono ?_);rintro e w' ⟨rfl,⟨nd,rfl⟩⟩))
 go_ret
 exact⟨by first|rfl|(simp;done)|(simp[*];done),by repeat(first|exact Drawn0.refl _|apply Drawn0.step)⟩)
 rw[if_neg i]at H
 exact absurd H (by simp))
 rw[if_neg g]at H
 exact absurd H (by simp))
 rw[if_neg d]at H
 have c3b0:=zF d
 clear d
 obtain rfl:=zI H
 go_wp2
 go_ret
 exact⟨by first|rfl|(simp;done)|(simp[*];done),by repeat(first|exact Drawn0.refl _|apply Drawn0.step)⟩))
def impl_isPlainText.f (k:Nat) (a0:ByteArray):Option (Bool):=(conv_bytes.f a0).bind fun t171=>((impl_areAll_byte__impl_isPlain.f k t171).bind fun t174=>(some t174))
set_option maxHeartbeats 8000000 in
set_option maxRecDepth 100000 in
theorem impl_isPlainText.calls (k:Nat) (a0:ByteArray) (r:Bool) (w:World) (h:impl_isPlainText.f k a0=some r):
  Calls Tryd.prog 103 #[.string a0] w fun e w'=>e= .returned (.bool r)∧Below w.heap.size w w':=by
 have HB:=zM (Below.refl w.heap.size w)
 have H:((conv_bytes.f a0).bind fun a=>((impl_areAll_byte__impl_isPlain.f k a).bind fun b=>(some b)))=some r:=h
 clear h
 obtain⟨a,g,H⟩:=sO H
 obtain⟨b,i,H⟩:=sO H
 obtain rfl:=zI H
 go_enter Tryd.func103,Tryd.ntmps103
 go_wp2_with (first|((with_reducible refine gate_conv (src:=9) (dst:=51) rfl ?_);(try(refine gate_guard (by rfl) ?_;dsimp only));refine conv_at rfl rfl _ rfl _ rfl Tryd.underlying9 Tryd.underlying51 Tryd.underlying5 ?_;refine(conv_bytes.calls 5 a0 a _ g.out).mono ?_;rintro e o ⟨p,rfl,d,hb⟩;refine⟨_,rfl,?_⟩;have c:=zM (Kd.V_lower (Kd.V_mono (ok':=fun j=>True) d (fun j q=>trivial)) (below_size (sH HB.out)));replace HB:=sB HB hb;(try clear hb);(try clear d);obtain⟨l,m,n⟩:=Kd.V_slice c.out;subst n)|((with_reducible refine gate_callee (f:=93) rfl ?_);refine sC (some 5) Tryd.func93 #[.slice l a.length m,.func (.func 131) #[] #[]] (impl_areAll_byte__impl_isPlain.calls k _ _ a b _ ?side1 ?side2 i.out) ?_;(case side1=>exact sD ((Kd.V_reads' c.out).2.2));(case side2=>exact(Kd.V_reads' c.out).2.1);rintro e w' ⟨rfl,⟨nd,rfl⟩⟩;refine⟨_,rfl,?_⟩))
 go_ret
 exact⟨sq,sb⟩
def stringslite_HasSuffix.f (a0:ByteArray) (a1:ByteArray):Option (Bool):=if(a0.size:Int)≥(a1.size:Int)then(if 0≤(wrap64 ((a0.size:Int)-(a1.size:Int)))then(if(wrap64 ((a0.size:Int)-(a1.size:Int)))≤(a0.size:Int)then(some ((a0.extract ((wrap64 ((a0.size:Int)-(a1.size:Int))):Int).toNat a0.size).toList==a1.toList))else(none))else(none))else(some false)
set_option maxHeartbeats 8000000 in
set_option maxRecDepth 100000 in
theorem stringslite_HasSuffix.calls (a0:ByteArray) (a1:ByteArray) (r:Bool) (w:World) (h:stringslite_HasSuffix.f a0 a1=some r):
  Calls Tryd.prog 170 #[.string a0,.string a1] w fun e w'=>e= .returned (.bool r)∧Drawn0 w w':=by
 have H:(if(a0.size:Int)≥(a1.size:Int)then(if 0≤(wrap64 ((a0.size:Int)-(a1.size:Int)))then(if(wrap64 ((a0.size:Int)-(a1.size:Int)))≤(a0.size:Int)then(some ((a0.extract ((wrap64 ((a0.size:Int)-(a1.size:Int))):Int).toNat a0.size).toList==a1.toList))else(none))else(none))else(some false))=some r:=h
 clear h
 by_cases a:(a0.size:Int)≥(a1.size:Int)
 ·(
 rw[if_pos a]at H
 have c3b0:decide ((a1.size:Int)≤(a0.size:Int))=true:=zT a
 have c3b1:decide (a1.size≤a0.size)=true:=zT (Int.ofNat_le.mp a)
 clear a
 obtain⟨ji4,hji4⟩:∃j_:Int,(wrap64 ((a0.size:Int)-(a1.size:Int)))=j_:=⟨_,rfl⟩
 replace H:(if 0≤(ji4)then(if(ji4)≤(a0.size:Int)then(some ((a0.extract ((ji4):Int).toNat a0.size).toList==a1.toList))else(none))else(none))=some r:=by first|(rw[hji4]at H;exact H)|(simp only[hji4]at H ⊢;exact H)
 have hji4w:(IntKind.i64.wrap ((a0.size:Int)-(a1.size:Int)))=ji4:=(i64_w _).trans hji4
 by_cases b:0≤(ji4)
 ·(
 rw[if_pos b]at H
 have c5b0:=eq_true b
 have c5b1:=zT b
 clear b
 by_cases c:(ji4)≤(a0.size:Int)
 ·(
 rw[if_pos c]at H
 have c6b0:=eq_true c
 have c6b1:=zT c
 clear c
 obtain rfl:=zI H
 go_enter Tryd.func170,Tryd.ntmps170
 go_wp2
 go_ret
 exact⟨by first|rfl|(simp;done)|(simp only[←hji4]<;>(first|rfl|simp))|(simp[*];done),by repeat(first|exact Drawn0.refl _|apply Drawn0.step)⟩)
 rw[if_neg c]at H
 exact absurd H (by simp))
 rw[if_neg b]at H
 exact absurd H (by simp))
 rw[if_neg a]at H
 have c3b0:decide ((a1.size:Int)≤(a0.size:Int))=false:=zF a
 have c3b1:decide (a1.size≤a0.size)=false:=zF (fun h=>a (Int.ofNat_le.mpr h))
 clear a
 obtain rfl:=zI H
 go_enter Tryd.func170,Tryd.ntmps170
 go_wp2
 go_ret
 exact⟨by first|rfl|(simp;done)|(simp[*];done),by repeat(first|exact Drawn0.refl _|apply Drawn0.step)⟩
def stringslite_TrimSuffix.f (a0:ByteArray) (a1:ByteArray):Option (ByteArray):=(stringslite_HasSuffix.f a0 a1).bind fun t175=>(if t175=true then(if 0≤(wrap64 ((a0.size:Int)-(a1.size:Int)))then(if(wrap64 ((a0.size:Int)-(a1.size:Int)))≤(a0.size:Int)then(some (a0.extract 0 ((wrap64 ((a0.size:Int)-(a1.size:Int))):Int).toNat))else(none))else(none))else(some a0))
set_option maxHeartbeats 8000000 in
set_option maxRecDepth 100000 in
theorem stringslite_TrimSuffix.calls (a0:ByteArray) (a1:ByteArray) (r:ByteArray) (w:World) (h:stringslite_TrimSuffix.f a0 a1=some r):
  Calls Tryd.prog 155 #[.string a0,.string a1] w fun e w'=>e= .returned (.string r)∧Drawn0 w w':=by
 have H:((stringslite_HasSuffix.f a0 a1).bind fun d=>(if d=true then(if 0≤(wrap64 ((a0.size:Int)-(a1.size:Int)))then(if(wrap64 ((a0.size:Int)-(a1.size:Int)))≤(a0.size:Int)then(some (a0.extract 0 ((wrap64 ((a0.size:Int)-(a1.size:Int))):Int).toNat))else(none))else(none))else(some a0)))=some r:=h
 clear h
 obtain⟨d,g,H⟩:=sO H
 by_cases c:d=true
 ·(
 subst c
 rewrite[if_pos rfl]at H
 obtain⟨ji5,hji5⟩:∃j_:Int,(wrap64 ((a0.size:Int)-(a1.size:Int)))=j_:=⟨_,rfl⟩
 replace H:(if 0≤(ji5)then(if(ji5)≤(a0.size:Int)then(some (a0.extract 0 ((ji5):Int).toNat))else(none))else(none))=some r:=by first|(rw[hji5]at H;exact H)|(simp only[hji5]at H ⊢;exact H)
 (try rw[hji5]at g)
 have hji5w:(IntKind.i64.wrap ((a0.size:Int)-(a1.size:Int)))=ji5:=(i64_w _).trans hji5
 by_cases a:0≤(ji5)
 ·(
 rw[if_pos a]at H
 have c6b0:=eq_true a
 have c6b1:=zT a
 clear a
 by_cases b:(ji5)≤(a0.size:Int)
 ·(
 rw[if_pos b]at H
 have c7b0:=eq_true b
 have c7b1:=zT b
 clear b
 obtain rfl:=zI H
 go_enter Tryd.func155,Tryd.ntmps155
 go_wp2_with (first|((with_reducible refine gate_callee (f:=170) rfl ?_);refine sC (some 7) Tryd.func170 #[.string a0,.string a1] (stringslite_HasSuffix.calls a0 a1 true _ g.out) ?_;rintro e w' ⟨rfl,⟨nd,rfl⟩⟩;refine⟨_,rfl,?_⟩))
 go_ret
 exact⟨by first|rfl|(simp;done)|(simp only[←hji5]<;>(first|rfl|simp))|(simp[*];done),by repeat(first|exact Drawn0.refl _|apply Drawn0.step)⟩)
 rw[if_neg b]at H
 exact absurd H (by simp))
 rw[if_neg a]at H
 exact absurd H (by simp))
 replace c:=zB c
 subst c
 rewrite[if_neg zQ]at H
 obtain rfl:=zI H
 go_enter Tryd.func155,Tryd.ntmps155
 go_wp2_with (first|((with_reducible refine gate_callee (f:=170) rfl ?_);refine sC (some 7) Tryd.func170 #[.string a0,.string a1] (stringslite_HasSuffix.calls a0 a1 false _ g.out) ?_;rintro e w' ⟨rfl,⟨nd,rfl⟩⟩;refine⟨_,rfl,?_⟩))
 go_ret
 exact⟨by first|rfl|(simp;done)|(simp[*];done),by repeat(first|exact Drawn0.refl _|apply Drawn0.step)⟩
def strings_TrimSuffix.f (a0:ByteArray) (a1:ByteArray):Option (ByteArray):=(stringslite_TrimSuffix.f a0 a1).bind fun t176=>(some t176)
set_option maxHeartbeats 8000000 in
set_option maxRecDepth 100000 in
theorem strings_TrimSuffix.calls (a0:ByteArray) (a1:ByteArray) (r:ByteArray) (w:World) (h:strings_TrimSuffix.f a0 a1=some r):
  Calls Tryd.prog 133 #[.string a0,.string a1] w fun e w'=>e= .returned (.string r)∧Drawn0 w w':=by
 have H:((stringslite_TrimSuffix.f a0 a1).bind fun a=>(some a))=some r:=h
 clear h
 obtain⟨a,b,H⟩:=sO H
 obtain rfl:=zI H
 go_enter Tryd.func133,Tryd.ntmps133
 go_wp2_with (first|((with_reducible refine gate_callee (f:=155) rfl ?_);refine sC (some 7) Tryd.func155 #[.string a0,.string a1] (stringslite_TrimSuffix.calls a0 a1 a _ b.out) ?_;rintro e w' ⟨rfl,⟨nd,rfl⟩⟩;refine⟨_,rfl,?_⟩))
 go_ret
 exact⟨by first|rfl|(simp;done)|(simp[*];done),by repeat(first|exact Drawn0.refl _|apply Drawn0.step)⟩
end Go.Proofs.YtjmojijopammjaaDoor.PFnExactLogicalLines
