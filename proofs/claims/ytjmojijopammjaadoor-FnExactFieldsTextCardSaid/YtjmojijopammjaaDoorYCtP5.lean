/- Printed functions: strconv_FormatInt_85, impl_decimal, strings_ReplaceAll, impl_QuoteText. -/
import Derived.Test.YtjmojijopammjaaDoorYCtP0
namespace Go.Proofs.YtjmojijopammjaaDoor.PFnExactCaptureText
open Go.RowKit Go.Proofs.YtjmojijopammjaaDoorG Go.Proofs.YtjmojijopammjaaDoorW.PrintWords Go.Proofs.YtjmojijopammjaaDoorW.PrintLast Go.Proofs.YtjmojijopammjaaDoorW.PrintMore
attribute [local go_sem] max2_int min2_int max_two min_two max_three min_three max_four min_four
set_option linter.unusedVariables false
set_option linter.unusedSimpArgs false
def strconv_FormatInt_85.f (a0:Int) (a1:Int):Option (ByteArray):=if a1=10 then(if-9223372036854775808≤a0 then(if a0≤9223372036854775807 then(some ⟨(Lib.itoa a0).toArray⟩)else(none))else(none))else(none)
theorem strconv_FormatInt_85.calls (a0:Int) (a1:Int) (r:ByteArray) (w:World) (h:strconv_FormatInt_85.f a0 a1=some r) (HT:EnvT w):
  Calls Tryd.prog 85 #[.int .i64 a0,.int .i64 a1] w fun e w'=>e= .returned (.string r)∧Below w.heap.size w w':=by
 unfold strconv_FormatInt_85.f at h
 split at h
 ·(
 rename_i h1
 subst h1
 split at h
 ·(
 split at h
 ·(
 rename_i h0 h2
 obtain rfl:=zI h
 exact format_calls a0 h0 h2 w HT)
 ·cases h)
 ·cases h)
 ·cases h
def impl_decimal.f (a0:Int):Option (ByteArray):=(strconv_FormatInt_85.f a0 10).bind fun t153=>(some t153)
set_option maxHeartbeats 8000000 in
set_option maxRecDepth 100000 in
theorem impl_decimal.calls (a0:Int) (r:ByteArray) (w:World) (h:impl_decimal.f a0=some r) (HT:EnvT w):
  Calls Tryd.prog 37 #[.int .i64 a0] w fun e w'=>e= .returned (.string r)∧Below w.heap.size w w':=by
 have HB:=zM (Below.refl w.heap.size w)
 have H:((strconv_FormatInt_85.f a0 10).bind fun a=>(some a))=some r:=h
 clear h
 obtain⟨a,b,H⟩:=sO H
 obtain rfl:=zI H
 go_enter Tryd.func37,Tryd.ntmps37
 go_wp2_with (first|((with_reducible refine gate_callee (f:=85) rfl ?_);refine sC (some 4) Tryd.func85 #[.int .i64 a0,.int .i64 10] (strconv_FormatInt_85.calls a0 10 a _ b.out (by first|with_reducible exact HT|exact EnvT.below HT sb)) ?_;rintro e c ⟨rfl,hb⟩;refine⟨_,rfl,?_⟩;replace HB:=sB HB hb;(try clear hb)))
 go_ret
 exact⟨sq,sb⟩
def strings_ReplaceAll.f (a0:ByteArray) (a1:ByteArray) (a2:ByteArray):Option (ByteArray):=if a0.size<4294967281 then(if 1≤a1.size then(if a0.size+Lib.countB a0 a1*a2.size≤140737488355328 then(some ⟨(Lib.replaceAll a0.data.toList a1.data.toList a2.data.toList).toArray⟩)else(none))else(none))else(none)
theorem strings_ReplaceAll.calls (a0:ByteArray) (a1:ByteArray) (a2:ByteArray) (r:ByteArray) (w:World) (h:strings_ReplaceAll.f a0 a1 a2=some r) (HT:EnvT w):
  Calls Tryd.prog 86 #[.string a0,.string a1,.string a2] w fun e w'=>e= .returned (.string r)∧Below w.heap.size w w':=by
 unfold strings_ReplaceAll.f at h
 split at h
 ·(
 rename_i h1
 split at h
 ·(
 rename_i h2
 split at h
 ·(
 rename_i h3
 obtain rfl:=zI h
 exact replace_calls a0 a1 a2 w HT h1 h2 h3)
 ·cases h)
 ·cases h)
 ·cases h
def impl_QuoteText.f (a0:ByteArray):Option (ByteArray):=(strings_ReplaceAll.f a0 (⟨#[34]⟩:ByteArray) (⟨#[34,34]⟩:ByteArray)).bind fun t157=>(if 1+t157.size≤9223372036854775807 then(if 1+t157.size+1≤9223372036854775807 then(some (((⟨#[34]⟩:ByteArray)++t157)++(⟨#[34]⟩:ByteArray)))else(none))else(none))
set_option maxHeartbeats 8000000 in
set_option maxRecDepth 100000 in
theorem impl_QuoteText.calls (a0:ByteArray) (r:ByteArray) (w:World) (h:impl_QuoteText.f a0=some r) (HT:EnvT w):
  Calls Tryd.prog 38 #[.string a0] w fun e w'=>e= .returned (.string r)∧Below w.heap.size w w':=by
 have HB:=zM (Below.refl w.heap.size w)
 have H:((strings_ReplaceAll.f a0 (⟨#[34]⟩:ByteArray) (⟨#[34,34]⟩:ByteArray)).bind fun a=>(if 1+a.size≤9223372036854775807 then(if 1+a.size+1≤9223372036854775807 then(some (((⟨#[34]⟩:ByteArray)++a)++(⟨#[34]⟩:ByteArray)))else(none))else(none)))=some r:=h
 clear h
 obtain⟨a,d,H⟩:=sO H
 by_cases b:1+a.size≤9223372036854775807
 ·(
 rw[if_pos b]at H
 have c3b0:=eq_true b
 have c3b1:=zT b
 try have c3b2:(9223372036854775807<1+a.size)=False:=eq_false (Nat.not_lt.2 b)
 by_cases c:1+a.size+1≤9223372036854775807
 ·(
 rw[if_pos c]at H
 have c4b0:=eq_true c
 have c4b1:=zT c
 try have c4b2:(9223372036854775807<1+a.size+1)=False:=eq_false (Nat.not_lt.2 c)
 obtain rfl:=zI H
 go_enter Tryd.func38,Tryd.ntmps38
 go_wp2_with (first|((with_reducible refine gate_callee (f:=86) rfl ?_);refine sC (some 4) Tryd.func86 #[.string a0,.string (⟨#[34]⟩:ByteArray),.string (⟨#[34,34]⟩:ByteArray)] (strings_ReplaceAll.calls a0 (⟨#[34]⟩:ByteArray) (⟨#[34,34]⟩:ByteArray) a _ d.out (by first|with_reducible exact HT|exact EnvT.below HT sb)) ?_;rintro e g ⟨rfl,hb⟩;refine⟨_,rfl,?_⟩;replace HB:=sB HB hb;(try clear hb)))
 go_ret
 exact⟨sq,sb⟩)
 rw[if_neg c]at H
 exact absurd H (by simp))
 rw[if_neg b]at H
 exact absurd H (by simp)
end Go.Proofs.YtjmojijopammjaaDoor.PFnExactCaptureText
