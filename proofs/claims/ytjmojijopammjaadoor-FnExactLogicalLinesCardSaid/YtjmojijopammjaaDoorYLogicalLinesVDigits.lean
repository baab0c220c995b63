/- What the functions that spell numbers come to: Lib.itoa. No condition. -/
import Derived.Test.YtjmojijopammjaaDoorYLlW3
import Derived.Test.YtjmojijopammjaaDoorYLogicalLinesO
import Derived.Lib.ItoaNum
import Derived.Test.YtjmojijopammjaaDoorYLlP0
namespace Go.Proofs.YtjmojijopammjaaDoor.PureFnExactLogicalLines
open Go.RowKit Go.Proofs.YtjmojijopammjaaDoorG Go.Proofs.YtjmojijopammjaaDoor.PFnExactLogicalLines Go.Proofs.YtjmojijopammjaaDoorW.PrintWords Go.Proofs.YtjmojijopammjaaDoorW.PrintLast Go.Proofs.YtjmojijopammjaaDoorW.PrintMore
set_option linter.unusedSimpArgs false
set_option linter.unusedVariables false
def itoaB (n:Int):ByteArray:=⟨(Lib.itoa n).toArray⟩
def decOf (m:Nat):List UInt8:=if m=0 then[]else Lib.decDigits m
theorem decOf_step {m:Nat} (h:m≠0):decOf m=decOf (m/10)++[UInt8.ofNat (48+m%10)]:=by
  rw[decOf,if_neg h,Lib.decDigits]
  by_cases h1:m<10
  · rw[dif_pos h1,decOf,if_pos (by omega),Nat.mod_eq_of_lt h1];rfl
  · rw[dif_neg h1,decOf,if_neg (by omega)]
theorem decOf_length:∀(d m:Nat),m<10^d→(decOf m).length≤d:=by
  intro d
  induction d with
  |zero=>intro m h;rw[decOf,if_pos (by simpa using h)];simp
  |succ d ih=>
    intro m h
    by_cases h0:m=0
    · rw[decOf,if_pos h0];simp
    · rw [decOf_step h0, List.length_append]
      have:=ih (m/10) (by rw[Nat.pow_succ]at h;omega)
      simpa using this
theorem one_num (c:Nat) (h:c<256):strOfNums [(c:Int)]=⟨#[UInt8.ofNat c]⟩:=by
  simp[strOfNums]
theorem itoa_pos (m:Nat) (h:m≠0):itoaB (m:Int)=⟨(decOf m).toArray⟩:=by
  rw[itoaB,Lib.itoa,if_neg (by omega),decOf,if_neg h,Int.toNat_natCast]
theorem itoa_neg (m:Nat) (h:m≠0):itoaB (-(m:Int))=⟨(45::decOf m).toArray⟩:=by
  rw[itoaB,Lib.itoa,if_pos (by omega),decOf,if_neg h,Int.natAbs_neg,Int.natAbs_natCast]
theorem itoa_size (n:Int) (h0: -9223372036854775808≤n) (h1:n≤9223372036854775807):(itoaB n).size≤21:=by
  obtain⟨m,hm⟩:∃m:Nat,n=(m:Int)∨n= -(m:Int):=⟨n.natAbs,by omega⟩
  have hp:m<10^20:=by omega
  have hl:=decOf_length 20 m hp
  by_cases h:m=0
  · subst h
    have:n=0:=by omega
    subst this
    rw[itoaB,Lib.itoa,if_neg (by decide),show(0:Int).toNat=0 from rfl,Lib.decDigits,dif_pos (by decide)]
    decide
  · rcases hm with rfl | rfl
    · rw [itoa_pos m h]
      show(decOf m).toArray.size≤21
      simp;omega
    · rw [itoa_neg m h]
      show(45::decOf m).toArray.size≤21
      simp;omega
theorem cat_bytes (a b:List UInt8):(⟨a.toArray⟩:ByteArray)++(⟨b.toArray⟩:ByteArray)=⟨(a++b).toArray⟩:=by
  apply ByteArray.ext
  rw[ByteArray.data_append]
  simp
theorem size_bytes (a:List UInt8):(⟨a.toArray⟩:ByteArray).size=a.length:=by
  show a.toArray.size=_
  simp
end Go.Proofs.YtjmojijopammjaaDoor.PureFnExactLogicalLines
