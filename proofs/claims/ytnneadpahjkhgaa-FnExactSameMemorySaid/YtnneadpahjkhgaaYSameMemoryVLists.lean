/- What the functions that compare two lists come to. No condition. -/
import Derived.Test.YtnneadpahjkhgaaYSmP0
import Derived.Test.YtnneadpahjkhgaaYSmP17
import Derived.Test.YtnneadpahjkhgaaYSmP19
import Derived.Test.YtnneadpahjkhgaaYSmP24
import Derived.Test.YtnneadpahjkhgaaYSmW4
namespace Go.Proofs.Ytnneadpahjkhgaa.PureFnExactSameMemory
open Go.RowKit Go.Proofs.YtnneadpahjkhgaaG Go.Proofs.Ytnneadpahjkhgaa.PFnExactSameMemory Go.Proofs.YtnneadpahjkhgaaW.PrintWords Go.Proofs.YtnneadpahjkhgaaW.PrintLast Go.Proofs.YtnneadpahjkhgaaW.PrintMore
set_option linter.unusedSimpArgs false
set_option linter.unusedVariables false
def sameI (l m:List Int):Bool:=decide (l.length=m.length)&&allN l.length (fun i=>decide (rd l (i:Int)=rd m (i:Int)))
def sameT (l m:List ByteArray):Bool:=decide (l.length=m.length)&&allN l.length (fun i=>decide ((rdOf ByteArray.empty l (i:Int)).toList=(rdOf ByteArray.empty m (i:Int)).toList))
theorem spec_l21SameTexts_ev (l m:List ByteArray) (hl:l.length≤1048576):Ev (fun k=>spec_l21SameTexts.f k l m) (sameT l m):=by
  simp only[spec_l21SameTexts.f,sameT]
  by_cases h:l.length=m.length
  · refine ev_pos (by omega) ?_
    rw[decide_eq_true h,Bool.true_and]
    refine idx_all (g:=(fun k i=>spec_l21SameTexts.l0 k l m i)) l.length (fun i=>decide ((rdOf ByteArray.empty l (i:Int)).toList=(rdOf ByteArray.empty m (i:Int)).toList)) ?_ ?_ ?_
    · refine ev_shift ?_;simp only[spec_l21SameTexts.l0];exact ev_neg (by omega) (ev_some _)
    · intro i hi hp r hr
      refine ev_shift ?_;simp only[spec_l21SameTexts.l0]
      refine ev_pos (by omega) (ev_pos (by omega) (ev_pos (by omega) (ev_pos (of_decide_eq_true hp) ?_)))
      rw[wrap_up (by omega) (show(i:Int)<(l.length:Int) by omega) (by omega)];exact hr
    · intro i hi hp
      refine ev_shift ?_;simp only[spec_l21SameTexts.l0]
      exact ev_pos (by omega) (ev_pos (by omega) (ev_pos (by omega) (ev_neg (of_decide_eq_false hp) (ev_some _))))
  · refine ev_neg (by omega) ?_
    rw[decide_eq_false h];exact ev_some _
theorem spec_l18SameTexts_ev (l m:List ByteArray) (hl:l.length≤1048576):Ev (fun k=>spec_l18SameTexts.f k l m) (sameT l m):=by
  simp only[spec_l18SameTexts.f,sameT]
  by_cases h:l.length=m.length
  · refine ev_pos (by omega) ?_
    rw[decide_eq_true h,Bool.true_and]
    refine idx_all (g:=(fun k i=>spec_l18SameTexts.l0 k l m i)) l.length (fun i=>decide ((rdOf ByteArray.empty l (i:Int)).toList=(rdOf ByteArray.empty m (i:Int)).toList)) ?_ ?_ ?_
    · refine ev_shift ?_;simp only[spec_l18SameTexts.l0];exact ev_neg (by omega) (ev_some _)
    · intro i hi hp r hr
      refine ev_shift ?_;simp only[spec_l18SameTexts.l0]
      refine ev_pos (by omega) (ev_pos (by omega) (ev_pos (by omega) (ev_pos (of_decide_eq_true hp) ?_)))
      rw[wrap_up (by omega) (show(i:Int)<(l.length:Int) by omega) (by omega)];exact hr
    · intro i hi hp
      refine ev_shift ?_;simp only[spec_l18SameTexts.l0]
      exact ev_pos (by omega) (ev_pos (by omega) (ev_pos (by omega) (ev_neg (of_decide_eq_false hp) (ev_some _))))
  · refine ev_neg (by omega) ?_
    rw[decide_eq_false h];exact ev_some _
theorem slices_Equal_string_string_ev (l m:List ByteArray) (hl:l.length≤1048576):Ev (fun k=>slices_Equal_string_string.f k l m) (sameT l m):=by
  simp only[slices_Equal_string_string.f,sameT]
  by_cases h:l.length=m.length
  · refine ev_pos (by omega) ?_
    rw[decide_eq_true h,Bool.true_and]
    refine idx_all (g:=(fun k i=>slices_Equal_string_string.l0 k l m (l.length:Int) i)) l.length (fun i=>decide ((rdOf ByteArray.empty l (i:Int)).toList=(rdOf ByteArray.empty m (i:Int)).toList)) ?_ ?_ ?_
    · refine ev_shift ?_;simp only[slices_Equal_string_string.l0];exact ev_neg (by omega) (ev_some _)
    · intro i hi hp r hr
      refine ev_shift ?_;simp only[slices_Equal_string_string.l0]
      refine ev_pos (by omega) (ev_pos (by omega) (ev_pos (by omega) (ev_pos (by omega) (ev_pos (of_decide_eq_true hp) ?_))))
      rw[wrap_up (by omega) (show(i:Int)<(l.length:Int) by omega) (by omega)];exact hr
    · intro i hi hp
      refine ev_shift ?_;simp only[slices_Equal_string_string.l0]
      exact ev_pos (by omega) (ev_pos (by omega) (ev_pos (by omega) (ev_pos (by omega) (ev_neg (of_decide_eq_false hp) (ev_some _)))))
  · refine ev_neg (by omega) ?_
    rw[decide_eq_false h];exact ev_some _
end Go.Proofs.Ytnneadpahjkhgaa.PureFnExactSameMemory
