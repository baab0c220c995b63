/- What the reference's and the program's functions on names and values come to: isNameS, validV. No condition. -/
import Derived.Test.YtjmojijopammjaaDoorYCtP0
import Derived.Test.YtjmojijopammjaaDoorYCtP8
import Derived.Test.YtjmojijopammjaaDoorYCtW3
namespace Go.Proofs.YtjmojijopammjaaDoor.PureFnExactFieldsText
open Go.RowKit Go.Proofs.YtjmojijopammjaaDoorG Go.Proofs.YtjmojijopammjaaDoor.PFnExactCaptureText Go.Proofs.YtjmojijopammjaaDoorW.PrintWords Go.Proofs.YtjmojijopammjaaDoorW.PrintLast Go.Proofs.YtjmojijopammjaaDoorW.PrintMore
set_option linter.unusedSimpArgs false
theorem spec_l00In_eq (a b c:Int):spec_l00In.f a b c=some (decide (b≤a)&&decide (a≤c)):=by
  simp only[spec_l00In.f];split<;>simp_all<;>omega
theorem impl_within_eq (a b c:Int):impl_within.f a b c=some (decide (b≤a)&&decide (a≤c)):=by
  simp only[impl_within.f];split<;>simp_all<;>omega
theorem all_takeWhile (l:List Int) (p:Int→Bool):(l.takeWhile p).length=l.length↔l.all p=true:=by
  induction l with
  |nil=>simp
  |cons a l ih=>
    rw[List.takeWhile_cons,List.all_cons]
    cases hp:p a with
    |true=>simp[ih]
    |false=>simp
theorem conv_eq (s:ByteArray) (hs:s.size≤9223372036854775807):conv_bytes.f s=some (bytesOf s):=by simp only[conv_bytes.f];rw[if_pos hs]
theorem toList_isEmpty (s:ByteArray):s.toList.isEmpty=decide (s.size=0):=by
  rw[Bool.eq_iff_iff,List.isEmpty_iff,toList_nil];simp
end Go.Proofs.YtjmojijopammjaaDoor.PureFnExactFieldsText
