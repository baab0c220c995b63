/- Printed functions: strings_Trim, impl_IsBlankLine, stringslite_HasPrefix, strings_HasPrefix, impl_IsComment, impl_IsContinuation, impl_SplitStatements. -/
import Derived.Test.YtjmojijopammjaaDoorYLlP0
namespace Go.Proofs.YtjmojijopammjaaDoor.PFnExactLogicalLines
open Go.RowKit Go.Proofs.YtjmojijopammjaaDoorG Go.Proofs.YtjmojijopammjaaDoorW.PrintWords Go.Proofs.YtjmojijopammjaaDoorW.PrintLast Go.Proofs.YtjmojijopammjaaDoorW.PrintMore
attribute [local go_sem] max2_int min2_int max_two min_two max_three min_three max_four min_four
set_option linter.unusedVariables false
set_option linter.unusedSimpArgs false
def strings_Trim.f (a0:ByteArray) (a1:ByteArray):Option (ByteArray):=if a1.toList=([32]:List UInt8)then(if a0.size≤9223372036854775807 then(some ⟨(Lib.trimB a0.data.toList 32).toArray⟩)else(none))else(none)
theorem strings_Trim.calls (a0:ByteArray) (a1:ByteArray) (r:ByteArray) (w:World) (h:strings_Trim.f a0 a1=some r):
  Calls Tryd.prog 107 #[.string a0,.string a1] w fun e w'=>e= .returned (.string r)∧Below w.heap.size w w':=by
 unfold strings_Trim.f at h
 split at h
 ·(
 rename_i h1
 obtain rfl:a1=⟨#[32]⟩:=by(
 rw[Go.ByteArray.toList_eq]at h1
 exact ByteArray.ext (Array.toList_inj.1 h1))
 split at h
 ·(
 rename_i h2
 obtain rfl:=zI h
 exact(Tryd.strings_Trim_one a0 32 (by decide) w h2).mono fun e w' ⟨he,hw⟩=>⟨he,hw.elim (fun h=>h▸Below.refl _ _) (fun h=>h▸⟨rfl,rfl,rfl,Nat.le_refl _,fun _ _=>rfl⟩)⟩)
 ·cases h)
 ·cases h
def impl_IsBlankLine.f (a0:ByteArray):Option (Bool):=(strings_Trim.f a0 (⟨#[32]⟩:ByteArray)).bind fun t189=>(some (t189.toList.isEmpty))
set_option maxHeartbeats 8000000 in
set_option maxRecDepth 100000 in
theorem impl_IsBlankLine.calls (a0:ByteArray) (r:Bool) (w:World) (h:impl_IsBlankLine.f a0=some r):
  Calls Tryd.prog 71 #[.string a0] w fun e w'=>e= .returned (.bool r)∧Below w.heap.size w w':=by
 have HB:=zM (Below.refl w.heap.size w)
 have H:((strings_Trim.f a0 (⟨#[32]⟩:ByteArray)).bind fun a=>(some (a.toList.isEmpty)))=some r:=h
 clear h
 obtain⟨a,c,H⟩:=sO H
 obtain rfl:=zI H
 go_enter Tryd.func71,Tryd.ntmps71
 go_wp2_with (first|((with_reducible refine gate_callee (f:=107) rfl ?_);refine sC (some 4) Tryd.func107 #[.string a0,.string (⟨#[32]⟩:ByteArray)] (strings_Trim.calls a0 (⟨#[32]⟩:ByteArray) a _ c.out) ?_;rintro e d ⟨rfl,hb⟩;refine⟨_,rfl,?_⟩;replace HB:=sB HB hb;(try clear hb)))
 go_ret
 exact⟨sq,sb⟩
def stringslite_HasPrefix.f (a0:ByteArray) (a1:ByteArray):Option (Bool):=if(a0.size:Int)≥(a1.size:Int)then(if 0≤(a1.size:Int)then(if(a1.size:Int)≤(a0.size:Int)then(some ((a0.extract 0 ((a1.size:Int):Int).toNat).toList==a1.toList))else(none))else(none))else(some false)
set_option maxHeartbeats 8000000 in
set_option maxRecDepth 100000 in
theorem stringslite_HasPrefix.calls (a0:ByteArray) (a1:ByteArray) (r:Bool) (w:World) (h:stringslite_HasPrefix.f a0 a1=some r):
  Calls Tryd.prog 142 #[.string a0,.string a1] w fun e w'=>e= .returned (.bool r)∧Drawn0 w w':=by
 have H:(if(a0.size:Int)≥(a1.size:Int)then(if 0≤(a1.size:Int)then(if(a1.size:Int)≤(a0.size:Int)then(some ((a0.extract 0 ((a1.size:Int):Int).toNat).toList==a1.toList))else(none))else(none))else(some false))=some r:=h
 clear h
 by_cases a:(a0.size:Int)≥(a1.size:Int)
 ·(
 rw[if_pos a]at H
 have c3b0:decide ((a1.size:Int)≤(a0.size:Int))=true:=zT a
 have c3b1:decide (a1.size≤a0.size)=true:=zT (Int.ofNat_le.mp a)
 clear a
 by_cases c:0≤(a1.size:Int)
 ·(
 rw[if_pos c]at H
 have c4b0:=eq_true c
 have c4b1:=zT c
 clear c
 by_cases d:(a1.size:Int)≤(a0.size:Int)
 ·(
 rw[if_pos d]at H
 have c5b0:=eq_true d
 have c5b1:=zT d
 clear d
 obtain rfl:=zI H
 go_enter Tryd.func142,Tryd.ntmps142
 go_wp2
 go_ret
 exact⟨by first|rfl|(simp;done)|(simp[*];done),by repeat(first|exact Drawn0.refl _|apply Drawn0.step)⟩)
 rw[if_neg d]at H
 exact absurd H (by simp))
 rw[if_neg c]at H
 exact absurd H (by simp))
 rw[if_neg a]at H
 have c3b0:decide ((a1.size:Int)≤(a0.size:Int))=false:=zF a
 have c3b1:decide (a1.size≤a0.size)=false:=zF (fun h=>a (Int.ofNat_le.mpr h))
 clear a
 obtain rfl:=zI H
 go_enter Tryd.func142,Tryd.ntmps142
 go_wp2
 go_ret
 exact⟨by first|rfl|(simp;done)|(simp[*];done),by repeat(first|exact Drawn0.refl _|apply Drawn0.step)⟩
def strings_HasPrefix.f (a0:ByteArray) (a1:ByteArray):Option (Bool):=(stringslite_HasPrefix.f a0 a1).bind fun t190=>(some t190)
set_option maxHeartbeats 8000000 in
set_option maxRecDepth 100000 in
theorem strings_HasPrefix.calls (a0:ByteArray) (a1:ByteArray) (r:Bool) (w:World) (h:strings_HasPrefix.f a0 a1=some r):
  Calls Tryd.prog 115 #[.string a0,.string a1] w fun e w'=>e= .returned (.bool r)∧Drawn0 w w':=by
 have H:((stringslite_HasPrefix.f a0 a1).bind fun a=>(some a))=some r:=h
 clear h
 obtain⟨a,c,H⟩:=sO H
 obtain rfl:=zI H
 go_enter Tryd.func115,Tryd.ntmps115
 go_wp2_with (first|((with_reducible refine gate_callee (f:=142) rfl ?_);refine sC (some 7) Tryd.func142 #[.string a0,.string a1] (stringslite_HasPrefix.calls a0 a1 a _ c.out) ?_;rintro e w' ⟨rfl,⟨nd,rfl⟩⟩;refine⟨_,rfl,?_⟩))
 go_ret
 exact⟨by first|rfl|(simp;done)|(simp[*];done),by repeat(first|exact Drawn0.refl _|apply Drawn0.step)⟩
def impl_IsComment.f (a0:ByteArray):Option (Bool):=(strings_HasPrefix.f a0 (⟨#[42]⟩:ByteArray)).bind fun t191=>(some t191)
set_option maxHeartbeats 8000000 in
set_option maxRecDepth 100000 in
theorem impl_IsComment.calls (a0:ByteArray) (r:Bool) (w:World) (h:impl_IsComment.f a0=some r):
  Calls Tryd.prog 105 #[.string a0] w fun e w'=>e= .returned (.bool r)∧Drawn0 w w':=by
 have H:((strings_HasPrefix.f a0 (⟨#[42]⟩:ByteArray)).bind fun a=>(some a))=some r:=h
 clear h
 obtain⟨a,c,H⟩:=sO H
 obtain rfl:=zI H
 go_enter Tryd.func105,Tryd.ntmps105
 go_wp2_with (first|((with_reducible refine gate_callee (f:=115) rfl ?_);refine sC (some 4) Tryd.func115 #[.string a0,.string (⟨#[42]⟩:ByteArray)] (strings_HasPrefix.calls a0 (⟨#[42]⟩:ByteArray) a _ c.out) ?_;rintro e w' ⟨rfl,⟨nd,rfl⟩⟩;refine⟨_,rfl,?_⟩))
 go_ret
 exact⟨by first|rfl|(simp;done)|(simp[*];done),by repeat(first|exact Drawn0.refl _|apply Drawn0.step)⟩
def impl_IsContinuation.f (a0:ByteArray):Option (Bool):=(strings_HasPrefix.f a0 (⟨#[43]⟩:ByteArray)).bind fun t192=>(some t192)
set_option maxHeartbeats 8000000 in
set_option maxRecDepth 100000 in
theorem impl_IsContinuation.calls (a0:ByteArray) (r:Bool) (w:World) (h:impl_IsContinuation.f a0=some r):
  Calls Tryd.prog 106 #[.string a0] w fun e w'=>e= .returned (.bool r)∧Drawn0 w w':=by
 have H:((strings_HasPrefix.f a0 (⟨#[43]⟩:ByteArray)).bind fun a=>(some a))=some r:=h
 clear h
 obtain⟨a,c,H⟩:=sO H
 obtain rfl:=zI H
 go_enter Tryd.func106,Tryd.ntmps106
 go_wp2_with (first|((with_reducible refine gate_callee (f:=115) rfl ?_);refine sC (some 4) Tryd.func115 #[.string a0,.string (⟨#[43]⟩:ByteArray)] (strings_HasPrefix.calls a0 (⟨#[43]⟩:ByteArray) a _ c.out) ?_;rintro e w' ⟨rfl,⟨nd,rfl⟩⟩;refine⟨_,rfl,?_⟩))
 go_ret
 exact⟨by first|rfl|(simp;done)|(simp[*];done),by repeat(first|exact Drawn0.refl _|apply Drawn0.step)⟩
mutual
def impl_SplitStatements.l0 : Nat → ByteArray → List ByteArray → Int → Int → Int → Int → Option (List ByteArray)
 |0,_,_,_,_,_,_=>none
 |k+1,x0,x3,x4,x5,x10,x11=>if x11<x10 then(if 0≤x11 then(if x11<(x0.size:Int)then(if x5=0 then(if(bt x0 x11)=39 then(impl_SplitStatements.j1 k x0 x3 x4 x5 x11 (bt x0 x11) x10 x11 true)else(impl_SplitStatements.j1 k x0 x3 x4 x5 x11 (bt x0 x11) x10 x11 ((bt x0 x11)==34)))else(if(bt x0 x11)=x5 then(impl_SplitStatements.l0 k x0 x3 x4 0 x10 (wrap64 (x11+1)))else(impl_SplitStatements.l0 k x0 x3 x4 x5 x10 (wrap64 (x11+1)))))else(none))else(none))else(if 0≤x4 then(if x4≤(x0.size:Int)then(if x3.length<8796093022208 then(some (x3++[x0.extract (x4:Int).toNat x0.size]))else(none))else(none))else(none))
def impl_SplitStatements.j1 : Nat → ByteArray → List ByteArray → Int → Int → Int → Int → Int → Int → Bool → Option (List ByteArray)
 |0,_,_,_,_,_,_,_,_,_=>none
 |k+1,x0,x3,x4,x5,x6,x7,x10,x11,x23=>if x23=true then(impl_SplitStatements.l0 k x0 x3 x4 x7 x10 (wrap64 (x11+1)))else(if x7=59 then(if 0≤x4 then(if x4≤x6 then(if x6≤(x0.size:Int)then(if x3.length<8796093022208 then(impl_SplitStatements.l0 k x0 (x3++[x0.extract (x4:Int).toNat (x6:Int).toNat]) (wrap64 (x6+1)) x5 x10 (wrap64 (x11+1)))else(none))else(none))else(none))else(none))else(impl_SplitStatements.l0 k x0 x3 x4 x5 x10 (wrap64 (x11+1))))
end
def impl_SplitStatements.f (k:Nat) (a0:ByteArray):Option (List ByteArray):=impl_SplitStatements.l0 k a0 (([]:List ByteArray)) 0 0 (a0.size:Int) 0
set_option maxHeartbeats 8000000 in
set_option maxRecDepth 100000 in
theorem impl_SplitStatements.calls (k:Nat) (a0:ByteArray) (r:List ByteArray) (w:World) (h:impl_SplitStatements.f k a0=some r):
  Calls Tryd.prog 70 #[.string a0] w fun e w'=>∃M:Value,e= .returned (M)∧Kd.R Kd.string 9 w' w.heap.size (fun _=>True) M r∧Below w.heap.size w w':=by
 have HB:=zM (Below.refl w.heap.size w)
 have H:(impl_SplitStatements.l0 k a0 (([]:List ByteArray)) 0 0 (a0.size:Int) 0)=some r:=h
 clear h
 obtain⟨y208,hy208⟩:∃v:List ByteArray,v=(([]:List ByteArray)):=⟨_,rfl⟩
 replace H:(impl_SplitStatements.l0 k a0 y208 0 0 (a0.size:Int) 0)=some r:=by first|(rw[hy208];with_reducible exact H)|(have j:=(Option.bind_some _ _).symm.trans H;rw[hy208];with_reducible exact j)|(have j:=(Option.bind_some _ _).symm.trans H;with_reducible exact j)|with_reducible exact H|(rw[hy208];exact H)|exact H
 have O:=zM hy208
 clear hy208
 have H':=zM H
 clear H
 go_enter Tryd.func70,Tryd.ntmps70
 go_wp2_with (first|((with_reducible refine gate_dst (N:=8) rfl ?_);refine Kd.R_lit Kd.string _ 9 ?hg (N:=8) ?hd (xs:=([]:List ByteArray)) (inner:=[]) (ok:=fun _=>True) (okp:=fun _=>True) ?hr ?hp (fun _ hk=>hk) trivial (Below.refl _ _) (Nat.le_refl _) (by simp) ?_;(case hd=>rfl);(case hg=>rfl);(case hr=>first|(go_simp;done)|(go_simp;rfl));(case hp=>exact(Reps.none _ _));intro ae w2 x hb P Q;clear P Q;(first|rw[←O.out]at x|(simp only[Int.reduceToNat]at x;rw[←O.out]at x));have S:=zM (Kd.R_lower x (below_size (sH HB.out)));replace HB:=sB HB hb;clear hb x))
 go_loopg [3,4,5,11] k (fun kq T U V W w'=>∃(g:List ByteArray) (c:Int) (d:Int) (a:Int),U= .int .i64 c∧V= .int .u8 d∧W= .int .i64 a∧Aside0 (impl_SplitStatements.l0 kq a0 g c d (a0.size:Int) a=some r)∧Aside0 (kq≤k)∧Aside0 (Kd.R Kd.string 9 w' w.heap.size (fun _=>True) T g)∧Aside0 (Below w.heap.size w w'))
 case atStart=>exact⟨(y208),(0),(0),(0),sr,sr,sr,H',⟨Nat.le_refl _⟩,⟨by exact sE S.out⟩,⟨sb⟩⟩
 case round=>(
 clear H'
 obtain⟨g,c,d,a,rfl,rfl,rfl,HA,i,l,HB⟩:=hrel
 cases gk with
 |zero=>exact absurd HA.out (by simp[impl_SplitStatements.l0])
 |succ k1=>(
 have H:=HA.out
 clear HA
 simp only[impl_SplitStatements.l0]at H
 by_cases p:a<(a0.size:Int)
 ·(
 rw[if_pos p]at H
 have c4b0:=zT p
 clear p
 by_cases y:0≤a
 ·(
 rw[if_pos y]at H
 have c5b0:=zT y
 clear y
 by_cases z:a<(a0.size:Int)
 ·(
 rw[if_pos z]at H
 have c6b0:=zT z
 clear z
 by_cases o:d=0
 ·(
 rw[if_pos o]at H
 have c8b0:(d==0)=true:=zE o
 have c8b1:(d !=0)=false:=zY o
 clear o
 have K:=zM H
 clear H
 have m:0≤(a:Int):=zzA
 have n:a<(a0.size:Int):=zzA
 have L:=bt_at a0 a
 replace m:=eq_true m
 replace n:=eq_true n
 go_upto_region 9 with(fail)
 go_cut [23] (fun X wc=>∃(kq:Nat) (F:Bool),X= .bool F∧Aside0 (impl_SplitStatements.j1 kq a0 g c d a (bt a0 a) (a0.size:Int) a F=some r)∧Aside0 (kq≤k1)∧Aside0 (Kd.R Kd.string 9 wc w.heap.size (fun _=>True) u3 g)∧Aside0 (Below w.heap.size w wc))
 case first=>(
 have H:=K.out
 clear K
 by_cases q:(bt a0 a)=39
 ·(
 rw[if_pos q]at H
 have c10b0:((bt a0 a)==39)=true:=zE q
 have c10b1:((bt a0 a) !=39)=false:=zY q
 clear q
 (first|rw[c10b0]|(simp only[i64_w,i32_w];rw[c10b0])|rw[c10b2]|skip)
 have H':=zM H
 clear H
 go_wp2
 go_meet
 case rel=>exact⟨_,(true),sr,H',⟨by have:=i.out;first|omega|exact Nat.le_refl _⟩,⟨by exact sE l.out⟩,⟨sb⟩⟩)
 rw[if_neg q]at H
 have c10b0:((bt a0 a)==39)=false:=zN q
 have c10b1:((bt a0 a) !=39)=true:=zX q
 (first|rw[c10b0]|(simp only[i64_w,i32_w];rw[c10b0])|rw[c10b2]|skip)
 have H':=zM H
 clear H
 go_wp2
 go_meet
 case rel=>exact⟨_,(((bt a0 a)==34)),sr,H',⟨by have:=i.out;first|omega|exact Nat.le_refl _⟩,⟨by exact sE l.out⟩,⟨sb⟩⟩)
 case rest=>(
 clear K
 try clear p
 try clear c4b0
 try clear y
 try clear c5b0
 try clear z
 try clear c6b0
 try clear m
 try clear n
 try clear L
 try clear o
 try clear c8b0
 try clear c8b1
 try clear m
 try clear n
 obtain⟨kq,F,rfl,HA,u,l,HB⟩:=hcut
 cases kq with
 |zero=>exact absurd HA.out (by simp[impl_SplitStatements.j1])
 |succ kj8=>(
 have H:=HA.out
 clear HA
 simp only[impl_SplitStatements.j1]at H
 by_cases G:F=true
 ·(
 subst G
 rewrite[if_pos rfl]at H
 have H':=zM H
 clear H
 go_wp2
 go_roundg kj8
 case measure=>have:=i.out;have:=u.out;omega
 case rel=>exact⟨(g),(c),((bt a0 a)),(wrap64 (a+1)),sr,sr,sr,H',⟨by have:=i.out;have:=u.out;omega⟩,⟨by exact sE l.out⟩,⟨sb⟩⟩)
 replace G:=zB G
 subst G
 rewrite[if_neg zQ]at H
 by_cases s:(bt a0 a)=59
 ·(
 rw[if_pos s]at H
 have c12b0:((bt a0 a)==59)=true:=zE s
 have c12b1:((bt a0 a) !=59)=false:=zY s
 clear s
 by_cases A:0≤c
 ·(
 rw[if_pos A]at H
 have c13b0:=eq_true A
 have c13b1:=zT A
 clear A
 by_cases B:c≤a
 ·(
 rw[if_pos B]at H
 have c14b0:=eq_true B
 have c14b1:=zT B
 clear B
 by_cases C:a≤(a0.size:Int)
 ·(
 rw[if_pos C]at H
 have c15b0:=eq_true C
 have c15b1:=zT C
 clear C
 by_cases I:g.length<8796093022208
 ·(
 rw[if_pos I]at H
 have Y:=zM I
 clear I
 obtain⟨y214,hy214⟩:∃v:List ByteArray,v=(g++[a0.extract (c:Int).toNat (a:Int).toNat]):=⟨_,rfl⟩
 replace H:(impl_SplitStatements.l0 kj8 a0 y214 (wrap64 (a+1)) d (a0.size:Int) (wrap64 (a+1)))=some r:=by first|(rw[hy214];with_reducible exact H)|(have j:=(Option.bind_some _ _).symm.trans H;rw[hy214];with_reducible exact j)|(have j:=(Option.bind_some _ _).symm.trans H;with_reducible exact j)|with_reducible exact H|(rw[hy214];exact H)|exact H
 have Z:=zM hy214
 clear hy214
 have H':=zM H
 clear H
 go_wp2_with (first|((with_reducible refine gate_builtin (b:= .append) (xs:= #[.tmp 34,.tmp 39]) rfl ?_);at_builtin;refine Kd.R_append Kd.string (w0:=w) w.heap.size rfl (.tmp 34) (.tmp 39) 85 9 (.string ⟨#[]⟩) 16 rfl Tryd.underlying85 info9 rfl (by decide) (by omega) u3 g (a0.extract (c:Int).toNat (a:Int).toNat) [.string (a0.extract (c:Int).toNat (a:Int).toNat)] (fun _=>True) (fun _=>False) rfl rfl ?aP (fun _ hk=>hk.elim) ?aF ?aO ?aB ?aS ?aL ?_;(case aP=>exact rfl);(case aB=>exact(sH HB.out));(case aF=>exact(fun _ _=>trivial));(case aO=>exact(sE l.out));(case aS=>exact(below_size (sH HB.out)));(case aL=>have:=Y.out;omega);intro af ag ho hb hg hat;rw[←Z.out]at ho;replace HB:=zM (hb);have aa:=zM (ho);clear l;clear ho hb hg hat))
 go_roundg kj8
 case measure=>have:=i.out;have:=u.out;omega
 case rel=>exact⟨(y214),(wrap64 (a+1)),(d),(wrap64 (a+1)),sr,sr,sr,H',⟨by have:=i.out;have:=u.out;omega⟩,⟨by exact sE aa.out⟩,⟨sb⟩⟩)
 rw[if_neg I]at H
 exact absurd H (by simp))
 rw[if_neg C]at H
 exact absurd H (by simp))
 rw[if_neg B]at H
 exact absurd H (by simp))
 rw[if_neg A]at H
 exact absurd H (by simp))
 rw[if_neg s]at H
 have c12b0:((bt a0 a)==59)=false:=zN s
 have c12b1:((bt a0 a) !=59)=true:=zX s
 have H':=zM H
 clear H
 go_wp2
 go_roundg kj8
 case measure=>have:=i.out;have:=u.out;omega
 case rel=>exact⟨(g),(c),(d),(wrap64 (a+1)),sr,sr,sr,H',⟨by have:=i.out;have:=u.out;omega⟩,⟨by exact sE l.out⟩,⟨sb⟩⟩)))
 rw[if_neg o]at H
 have c8b0:(d==0)=false:=zN o
 have c8b1:(d !=0)=true:=zX o
 by_cases t:(bt a0 a)=d
 ·(
 rw[if_pos t]at H
 have c18b0:((bt a0 a)==d)=true:=zE t
 have c18b1:((bt a0 a) !=d)=false:=zY t
 clear t
 have H':=zM H
 clear H
 have m:0≤(a:Int):=zzA
 have n:a<(a0.size:Int):=zzA
 have L:=bt_at a0 a
 replace m:=eq_true m
 replace n:=eq_true n
 go_wp2
 go_roundg k1
 case measure=>have:=i.out;omega
 case rel=>exact⟨(g),(c),(0),(wrap64 (a+1)),sr,sr,sr,H',⟨by have:=i.out;omega⟩,⟨by exact sE l.out⟩,⟨sb⟩⟩)
 rw[if_neg t]at H
 have c18b0:((bt a0 a)==d)=false:=zN t
 have c18b1:((bt a0 a) !=d)=true:=zX t
 have H':=zM H
 clear H
 have m:0≤(a:Int):=zzA
 have n:a<(a0.size:Int):=zzA
 have L:=bt_at a0 a
 replace m:=eq_true m
 replace n:=eq_true n
 go_wp2
 go_roundg k1
 case measure=>have:=i.out;omega
 case rel=>exact⟨(g),(c),(d),(wrap64 (a+1)),sr,sr,sr,H',⟨by have:=i.out;omega⟩,⟨by exact sE l.out⟩,⟨sb⟩⟩)
 rw[if_neg z]at H
 exact absurd H (by simp))
 rw[if_neg y]at H
 exact absurd H (by simp))
 rw[if_neg p]at H
 have c4b0:=zF p
 clear p
 by_cases D:0≤c
 ·(
 rw[if_pos D]at H
 have c19b0:=eq_true D
 have c19b1:=zT D
 clear D
 by_cases E:c≤(a0.size:Int)
 ·(
 rw[if_pos E]at H
 have c20b0:=eq_true E
 have c20b1:=zT E
 clear E
 by_cases J:g.length<8796093022208
 ·(
 rw[if_pos J]at H
 have ab:=zM J
 clear J
 obtain⟨y211,hy211⟩:∃v:List ByteArray,v=(g++[a0.extract (c:Int).toNat a0.size]):=⟨_,rfl⟩
 replace H:(some y211)=some r:=by first|(rw[hy211];with_reducible exact H)|(have j:=(Option.bind_some _ _).symm.trans H;rw[hy211];with_reducible exact j)|(have j:=(Option.bind_some _ _).symm.trans H;with_reducible exact j)|with_reducible exact H|(rw[hy211];exact H)|exact H
 have ac:=zM hy211
 clear hy211
 obtain rfl:=zI H
 go_wp2_with (first|((with_reducible refine gate_builtin (b:= .append) (xs:= #[.tmp 44,.tmp 48]) rfl ?_);at_builtin;refine Kd.R_append Kd.string (w0:=w) w.heap.size rfl (.tmp 44) (.tmp 48) 85 9 (.string ⟨#[]⟩) 16 rfl Tryd.underlying85 info9 rfl (by decide) (by omega) u3 g (a0.extract (c:Int).toNat a0.size) [.string (a0.extract (c:Int).toNat a0.size)] (fun _=>True) (fun _=>False) rfl rfl ?aP (fun _ hk=>hk.elim) ?aF ?aO ?aB ?aS ?aL ?_;(case aP=>exact rfl);(case aB=>exact(sH HB.out));(case aF=>exact(fun _ _=>trivial));(case aO=>exact(sE l.out));(case aS=>exact(below_size (sH HB.out)));(case aL=>have:=ab.out;omega);intro ah ai ho hb hg hat;rw[←ac.out]at ho;replace HB:=zM (hb);have ad:=zM (ho);clear l;clear ho hb hg hat))
 go_ret
 exact⟨_,sq,by exact sE ad.out,sb⟩)
 rw[if_neg J]at H
 exact absurd H (by simp))
 rw[if_neg E]at H
 exact absurd H (by simp))
 rw[if_neg D]at H
 exact absurd H (by simp)))
end Go.Proofs.YtjmojijopammjaaDoor.PFnExactLogicalLines
