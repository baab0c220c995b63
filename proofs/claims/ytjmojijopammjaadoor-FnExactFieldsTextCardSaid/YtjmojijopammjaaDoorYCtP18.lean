/- Printed functions: impl_Field_text. -/
import Derived.Test.YtjmojijopammjaaDoorYCtP0
import Derived.Test.YtjmojijopammjaaDoorYCtP5
namespace Go.Proofs.YtjmojijopammjaaDoor.PFnExactCaptureText
open Go.RowKit Go.Proofs.YtjmojijopammjaaDoorG Go.Proofs.YtjmojijopammjaaDoorW.PrintWords Go.Proofs.YtjmojijopammjaaDoorW.PrintLast Go.Proofs.YtjmojijopammjaaDoorW.PrintMore
attribute [local go_sem] max2_int min2_int max_two min_two max_three min_three max_four min_four
set_option linter.unusedVariables false
set_option linter.unusedSimpArgs false
def impl_Field_text.f (a0_0:Bool) (a0_1:Int) (a0_2:ByteArray):Option (ByteArray):=if a0_0=true then((impl_QuoteText.f a0_2).bind fun t300=>(some t300))else((impl_decimal.f a0_1).bind fun t301=>(some t301))
set_option maxHeartbeats 8000000 in
set_option maxRecDepth 100000 in
theorem impl_Field_text.calls (a0_0:Bool) (a0_1:Int) (a0_2:ByteArray) (r:ByteArray) (w:World) (h:impl_Field_text.f a0_0 a0_1 a0_2=some r) (HT:EnvT w):
  Calls Tryd.prog 46 #[.agg #[.bool a0_0,.int .i64 a0_1,.string a0_2]] w fun e w'=>e= .returned (.string r)∧Below w.heap.size w w':=by
 have m:=Tryd.underlying64
 have HB:=zM (Below.refl w.heap.size w)
 have H:(if a0_0=true then((impl_QuoteText.f a0_2).bind fun c=>(some c))else((impl_decimal.f a0_1).bind fun d=>(some d)))=some r:=h
 clear h
 by_cases b:a0_0=true
 ·(
 subst b
 rewrite[if_pos rfl]at H
 obtain⟨c,g,H⟩:=sO H
 obtain rfl:=zI H
 go_enter Tryd.func46,Tryd.ntmps46
 go_wp2_with (first|((with_reducible refine gate_dst (N:=1) rfl ?_);refine sV (N:=1) (cs:= #[.bool true,.int .i64 a0_1,.string a0_2]) (t:=64) ?_;intro i hg n hbox hb;have a:=zM (hbox);have j:=sG HB hg;have k:=sG HB hg;replace HB:=sB HB hb;clear hb hbox hg;obtain⟨o,p,q,s,u,v⟩:=cells3 a.out)|((with_reducible refine gate_callee (f:=38) rfl ?_);refine sC (some 7) Tryd.func38 #[.string a0_2] (impl_QuoteText.calls a0_2 c _ g.out (by first|with_reducible exact HT|exact EnvT.below HT sb)) ?_;rintro e x ⟨rfl,hb⟩;refine⟨_,rfl,?_⟩;replace a:=sK a hb;replace HB:=sB HB hb;(try clear hb)))
 go_ret
 exact⟨sq,sb⟩)
 replace b:=zB b
 subst b
 rewrite[if_neg zQ]at H
 obtain⟨d,l,H⟩:=sO H
 obtain rfl:=zI H
 go_enter Tryd.func46,Tryd.ntmps46
 go_wp2_with (first|((with_reducible refine gate_dst (N:=1) rfl ?_);refine sV (N:=1) (cs:= #[.bool false,.int .i64 a0_1,.string a0_2]) (t:=64) ?_;intro i hg y hbox hb;have a:=zM (hbox);have j:=sG HB hg;have k:=sG HB hg;replace HB:=sB HB hb;clear hb hbox hg;obtain⟨z,A,B,C,D,E⟩:=cells3 a.out)|((with_reducible refine gate_callee (f:=37) rfl ?_);refine sC (some 10) Tryd.func37 #[.int .i64 a0_1] (impl_decimal.calls a0_1 d _ l.out (by first|with_reducible exact HT|exact EnvT.below HT sb)) ?_;rintro e F ⟨rfl,hb⟩;refine⟨_,rfl,?_⟩;replace a:=sK a hb;replace HB:=sB HB hb;(try clear hb)))
 go_ret
 exact⟨sq,sb⟩
end Go.Proofs.YtjmojijopammjaaDoor.PFnExactCaptureText
