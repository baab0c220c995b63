/- Printed functions: laws_FnExactOpenImage. -/
import Derived.Test.YtjmojijopammjaaDoorYOiP0
import Derived.Test.YtjmojijopammjaaDoorYOiP2
import Derived.Test.YtjmojijopammjaaDoorYOiP3
namespace Go.Proofs.YtjmojijopammjaaDoor.PFnExactOpenImage
open Go.RowKit Go.Proofs.YtjmojijopammjaaDoorG Go.Proofs.YtjmojijopammjaaDoorW.PrintWords Go.Proofs.YtjmojijopammjaaDoorW.PrintLast Go.Proofs.YtjmojijopammjaaDoorW.PrintMore
attribute [local go_sem] max2_int min2_int max_two min_two max_three min_three max_four min_four
set_option linter.unusedVariables false
set_option linter.unusedSimpArgs false
def laws_FnExactOpenImage.f (k:Nat) (a0:ByteArray):Option (Bool):=if(a0.size:Int)>1048576 then(some true)else((spec_OpenImage.f k a0).bind fun bt159=>((impl_OpenImage.f k a0).bind fun bt161=>(if bt161.1.toList=bt159.1.toList then(if bt161.2=bt159.2 then(some true)else(some false))else(some false))))
set_option maxHeartbeats 8000000 in
set_option maxRecDepth 100000 in
theorem laws_FnExactOpenImage.calls (k:Nat) (a0:ByteArray) (r:Bool) (w:World) (h:laws_FnExactOpenImage.f k a0=some r) (HT:EnvT w):
  Calls Tryd.prog 6 #[.string a0] w fun e w'=>e= .returned (.bool r)∧Below w.heap.size w w':=by
 have HB:=zM (Below.refl w.heap.size w)
 have H:(if(a0.size:Int)>1048576 then(some true)else((spec_OpenImage.f k a0).bind fun o=>((impl_OpenImage.f k a0).bind fun l=>(if l.1.toList=o.1.toList then(if l.2=o.2 then(some true)else(some false))else(some false)))))=some r:=h
 clear h
 by_cases j:(a0.size:Int)>1048576
 ·(
 rw[if_pos j]at H
 have c2b0:decide (1048576<(a0.size:Int))=true:=zT j
 have c2b1:decide (1048576<a0.size)=true:=zT (by omega)
 clear j
 obtain rfl:=zI H
 go_enter Tryd.func6,Tryd.ntmps6
 go_wp2
 go_ret
 exact⟨sq,sb⟩)
 rw[if_neg j]at H
 have c2b0:decide (1048576<(a0.size:Int))=false:=zF j
 have c2b1:decide (1048576<a0.size)=false:=zF (by omega)
 clear j
 replace H:=Option.bind_eq_some_iff.mp H
 obtain⟨⟨a,b⟩,p,H⟩:=H
 replace H:((impl_OpenImage.f k a0).bind fun l=>(if l.1.toList=a.toList then(if l.2=b then(some true)else(some false))else(some false)))=some r:=H
 have m:=zM p
 clear p
 replace H:=Option.bind_eq_some_iff.mp H
 obtain⟨⟨c,d⟩,q,H⟩:=H
 replace H:(if c.toList=a.toList then(if d=b then(some true)else(some false))else(some false))=some r:=H
 have n:=zM q
 clear q
 by_cases g:c.toList=a.toList
 ·(
 rw[if_pos g]at H
 have c5b0:(c.toList==a.toList)=true:=zE g
 have c5b1:(c.toList !=a.toList)=false:=zY g
 clear g
 by_cases i:d=b
 ·(
 rw[if_pos i]at H
 have c6b0:(d==b)=true:=zE i
 have c6b1:(d !=b)=false:=zY i
 clear i
 obtain rfl:=zI H
 go_enter Tryd.func6,Tryd.ntmps6
 go_wp2_with (first|((with_reducible refine gate_callee (f:=22) rfl ?_);refine sC (some 12) Tryd.func22 #[.string a0] (spec_OpenImage.calls k a0 a b _ m.out) ?_;rintro e s ⟨rfl,hb⟩;refine⟨_,rfl,?_⟩;replace HB:=sB HB hb;(try clear hb))|((with_reducible refine gate_callee (f:=23) rfl ?_);refine sC (some 17) Tryd.func23 #[.string a0] (impl_OpenImage.calls k a0 c d _ n.out (by first|with_reducible exact HT|exact EnvT.below HT sb)) ?_;rintro e t ⟨rfl,hb⟩;refine⟨_,rfl,?_⟩;replace HB:=sB HB hb;(try clear hb)))
 go_ret
 exact⟨sq,sb⟩)
 rw[if_neg i]at H
 have c6b0:(d==b)=false:=zN i
 have c6b1:(d !=b)=true:=zX i
 obtain rfl:=zI H
 go_enter Tryd.func6,Tryd.ntmps6
 go_wp2_with (first|((with_reducible refine gate_callee (f:=22) rfl ?_);refine sC (some 12) Tryd.func22 #[.string a0] (spec_OpenImage.calls k a0 a b _ m.out) ?_;rintro e u ⟨rfl,hb⟩;refine⟨_,rfl,?_⟩;replace HB:=sB HB hb;(try clear hb))|((with_reducible refine gate_callee (f:=23) rfl ?_);refine sC (some 17) Tryd.func23 #[.string a0] (impl_OpenImage.calls k a0 c d _ n.out (by first|with_reducible exact HT|exact EnvT.below HT sb)) ?_;rintro e v ⟨rfl,hb⟩;refine⟨_,rfl,?_⟩;replace HB:=sB HB hb;(try clear hb)))
 go_ret
 exact⟨sq,sb⟩)
 rw[if_neg g]at H
 have c5b0:(c.toList==a.toList)=false:=zN g
 have c5b1:(c.toList !=a.toList)=true:=zX g
 obtain rfl:=zI H
 go_enter Tryd.func6,Tryd.ntmps6
 go_wp2_with (first|((with_reducible refine gate_callee (f:=22) rfl ?_);refine sC (some 12) Tryd.func22 #[.string a0] (spec_OpenImage.calls k a0 a b _ m.out) ?_;rintro e x ⟨rfl,hb⟩;refine⟨_,rfl,?_⟩;replace HB:=sB HB hb;(try clear hb))|((with_reducible refine gate_callee (f:=23) rfl ?_);refine sC (some 17) Tryd.func23 #[.string a0] (impl_OpenImage.calls k a0 c d _ n.out (by first|with_reducible exact HT|exact EnvT.below HT sb)) ?_;rintro e y ⟨rfl,hb⟩;refine⟨_,rfl,?_⟩;replace HB:=sB HB hb;(try clear hb)))
 go_ret
 exact⟨sq,sb⟩
end Go.Proofs.YtjmojijopammjaaDoor.PFnExactOpenImage
