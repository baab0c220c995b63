/- What the reference's and the program's functions on names and values come to: isNameS, validV. No condition. -/
import Derived.Test.YtjmojijopammjaaDoorYLlP0
import Derived.Test.YtjmojijopammjaaDoorYLlW3
namespace Go.Proofs.YtjmojijopammjaaDoor.PureFnExactLogicalLines
open Go.RowKit Go.Proofs.YtjmojijopammjaaDoorG Go.Proofs.YtjmojijopammjaaDoor.PFnExactLogicalLines Go.Proofs.YtjmojijopammjaaDoorW.PrintWords Go.Proofs.YtjmojijopammjaaDoorW.PrintLast Go.Proofs.YtjmojijopammjaaDoorW.PrintMore
set_option linter.unusedSimpArgs false
theorem all_takeWhile (l:List Int) (p:Int→Bool):(l.takeWhile p).length=l.length↔l.all p=true:=by
  induction l with
  |nil=>simp
  |cons a l ih=>
    rw[List.takeWhile_cons,List.all_cons]
    cases hp:p a with
    |true=>simp[ih]
    |false=>simp
theorem conv_eq (s:ByteArray) (hs:s.size≤9223372036854775807):conv_bytes.f s=some (bytesOf s):=by simp only[conv_bytes.f];rw[if_pos hs]
theorem toList_isEmpty (s:ByteArray):s.toList.isEmpty=decide (s.size=0):=by
  rw[Bool.eq_iff_iff,List.isEmpty_iff,toList_nil];simp
end Go.Proofs.YtjmojijopammjaaDoor.PureFnExactLogicalLines
