/- Printed functions: spec_IsBlankLine, spec_IsComment, spec_IsContinuation, spec_SplitStatements. -/
import Derived.Test.YtjmojijopammjaaDoorYLlP0
namespace Go.Proofs.YtjmojijopammjaaDoor.PFnExactLogicalLines
open Go.RowKit Go.Proofs.YtjmojijopammjaaDoorG Go.Proofs.YtjmojijopammjaaDoorW.PrintWords Go.Proofs.YtjmojijopammjaaDoorW.PrintLast Go.Proofs.YtjmojijopammjaaDoorW.PrintMore
attribute [local go_sem] max2_int min2_int max_two min_two max_three min_three max_four min_four
set_option linter.unusedVariables false
set_option linter.unusedSimpArgs false
def spec_IsBlankLine.l0 : Nat → ByteArray → Int → Option (Bool)
 |0,_,_=>none
 |k+1,x0,x3=>if x3<(x0.size:Int)then(if 0≤x3 then(if(bt x0 x3)=32 then(spec_IsBlankLine.l0 k x0 (wrap64 (x3+1)))else(some false))else(none))else(some true)
def spec_IsBlankLine.f (k:Nat) (a0:ByteArray):Option (Bool):=spec_IsBlankLine.l0 k a0 0
set_option maxHeartbeats 8000000 in
set_option maxRecDepth 100000 in
theorem spec_IsBlankLine.calls (k:Nat) (a0:ByteArray) (r:Bool) (w:World) (h:spec_IsBlankLine.f k a0=some r):
  Calls Tryd.prog 64 #[.string a0] w fun e w'=>e= .returned (.bool r)∧Drawn0 w w':=by
 have H:(spec_IsBlankLine.l0 k a0 0)=some r:=h
 clear h
 have H':=zM H
 clear H
 go_enter Tryd.func64,Tryd.ntmps64
 go_wp2
 go_loopg [3] k (fun kq m w'=>∃(a:Int),m= .int .i64 a∧Aside0 (spec_IsBlankLine.l0 kq a0 a=some r)∧Aside0 (kq≤k)∧Drawn0 w w')
 case atStart=>exact⟨(0),sr,H',⟨Nat.le_refl _⟩,by repeat(first|exact Drawn0.refl _|apply Drawn0.step)⟩
 case round=>(
 clear H'
 obtain⟨a,rfl,HA,l,⟨o,rfl⟩⟩:=hrel
 cases gk with
 |zero=>exact absurd HA.out (by simp[spec_IsBlankLine.l0])
 |succ k1=>(
 have H:=HA.out
 clear HA
 simp only[spec_IsBlankLine.l0]at H
 by_cases d:a<(a0.size:Int)
 ·(
 rw[if_pos d]at H
 have c2b0:=zT d
 clear d
 by_cases j:0≤a
 ·(
 rw[if_pos j]at H
 have c3b0:=zT j
 clear j
 by_cases c:(bt a0 a)=32
 ·(
 rw[if_pos c]at H
 have c5b0:((bt a0 a)==32)=true:=zE c
 have c5b1:((bt a0 a) !=32)=false:=zY c
 clear c
 have H':=zM H
 clear H
 have g:0≤(a:Int):=zzA
 have i:a<(a0.size:Int):=zzA
 have n:=bt_at a0 a
 replace g:=eq_true g
 replace i:=eq_true i
 go_wp2
 go_roundg k1
 case measure=>have:=l.out;omega
 case rel=>exact⟨(wrap64 (a+1)),sr,H',⟨by have:=l.out;omega⟩,by repeat(first|exact Drawn0.refl _|apply Drawn0.step)⟩)
 rw[if_neg c]at H
 have c5b0:((bt a0 a)==32)=false:=zN c
 have c5b1:((bt a0 a) !=32)=true:=zX c
 obtain rfl:=zI H
 have g:0≤(a:Int):=zzA
 have i:a<(a0.size:Int):=zzA
 have n:=bt_at a0 a
 replace g:=eq_true g
 replace i:=eq_true i
 go_wp2
 go_ret
 exact⟨by first|rfl|(simp;done)|(simp[*];done),by repeat(first|exact Drawn0.refl _|apply Drawn0.step)⟩)
 rw[if_neg j]at H
 exact absurd H (by simp))
 rw[if_neg d]at H
 have c2b0:=zF d
 clear d
 obtain rfl:=zI H
 go_wp2
 go_ret
 exact⟨by first|rfl|(simp;done)|(simp[*];done),by repeat(first|exact Drawn0.refl _|apply Drawn0.step)⟩))
def spec_IsComment.f (a0:ByteArray):Option (Bool):=if a0.toList=([]:List UInt8)then(some false)else(if 0<(a0.size:Int)then(some ((bt a0 0)==42))else(none))
set_option maxHeartbeats 8000000 in
set_option maxRecDepth 100000 in
theorem spec_IsComment.calls (a0:ByteArray) (r:Bool) (w:World) (h:spec_IsComment.f a0=some r):
  Calls Tryd.prog 65 #[.string a0] w fun e w'=>e= .returned (.bool r)∧Drawn0 w w':=by
 have H:(if a0.toList=([]:List UInt8)then(some false)else(if 0<(a0.size:Int)then(some ((bt a0 0)==42))else(none)))=some r:=h
 clear h
 by_cases a:a0.toList=([]:List UInt8)
 ·(
 rw[if_pos a]at H
 have c2b0:(a0.toList==([]:List UInt8))=true:=zE a
 have c2b1:(a0.toList !=([]:List UInt8))=false:=zY a
 have c2b2:a0.toList.isEmpty=true:=by simpa using a
 clear a
 obtain rfl:=zI H
 go_enter Tryd.func65,Tryd.ntmps65
 go_wp2
 go_ret
 exact⟨by first|rfl|(simp;done)|(simp[*];done),by repeat(first|exact Drawn0.refl _|apply Drawn0.step)⟩)
 rw[if_neg a]at H
 have c2b0:(a0.toList==([]:List UInt8))=false:=zN a
 have c2b1:(a0.toList !=([]:List UInt8))=true:=zX a
 have c2b2:a0.toList.isEmpty=false:=by simpa using a
 by_cases c:0<(a0.size:Int)
 ·(
 rw[if_pos c]at H
 have c3b0:=zT c
 have c3b1:decide (0<a0.size)=true:=zT (by omega)
 clear c
 obtain rfl:=zI H
 have g:0≤(0:Int):=(by omega)
 have d:0<a0.size:=(by have:(0:Int)<(a0.size:Int):=zzA;omega)
 have i:∀h:0<a0.size,((a0[0]'h).toNat:Int)=bt a0 0:=bt_at a0 0
 clear g
 have j:(0<(a0.size:Int))=True:=eq_true (zzA)
 replace d:=eq_true d
 go_enter Tryd.func65,Tryd.ntmps65
 go_wp2
 go_ret
 exact⟨by first|rfl|(simp;done)|(simp[*];done),by repeat(first|exact Drawn0.refl _|apply Drawn0.step)⟩)
 rw[if_neg c]at H
 exact absurd H (by simp)
def spec_IsContinuation.f (a0:ByteArray):Option (Bool):=if a0.toList=([]:List UInt8)then(some false)else(if 0<(a0.size:Int)then(some ((bt a0 0)==43))else(none))
set_option maxHeartbeats 8000000 in
set_option maxRecDepth 100000 in
theorem spec_IsContinuation.calls (a0:ByteArray) (r:Bool) (w:World) (h:spec_IsContinuation.f a0=some r):
  Calls Tryd.prog 66 #[.string a0] w fun e w'=>e= .returned (.bool r)∧Drawn0 w w':=by
 have H:(if a0.toList=([]:List UInt8)then(some false)else(if 0<(a0.size:Int)then(some ((bt a0 0)==43))else(none)))=some r:=h
 clear h
 by_cases a:a0.toList=([]:List UInt8)
 ·(
 rw[if_pos a]at H
 have c2b0:(a0.toList==([]:List UInt8))=true:=zE a
 have c2b1:(a0.toList !=([]:List UInt8))=false:=zY a
 have c2b2:a0.toList.isEmpty=true:=by simpa using a
 clear a
 obtain rfl:=zI H
 go_enter Tryd.func66,Tryd.ntmps66
 go_wp2
 go_ret
 exact⟨by first|rfl|(simp;done)|(simp[*];done),by repeat(first|exact Drawn0.refl _|apply Drawn0.step)⟩)
 rw[if_neg a]at H
 have c2b0:(a0.toList==([]:List UInt8))=false:=zN a
 have c2b1:(a0.toList !=([]:List UInt8))=true:=zX a
 have c2b2:a0.toList.isEmpty=false:=by simpa using a
 by_cases c:0<(a0.size:Int)
 ·(
 rw[if_pos c]at H
 have c3b0:=zT c
 have c3b1:decide (0<a0.size)=true:=zT (by omega)
 clear c
 obtain rfl:=zI H
 have g:0≤(0:Int):=(by omega)
 have d:0<a0.size:=(by have:(0:Int)<(a0.size:Int):=zzA;omega)
 have i:∀h:0<a0.size,((a0[0]'h).toNat:Int)=bt a0 0:=bt_at a0 0
 clear g
 have j:(0<(a0.size:Int))=True:=eq_true (zzA)
 replace d:=eq_true d
 go_enter Tryd.func66,Tryd.ntmps66
 go_wp2
 go_ret
 exact⟨by first|rfl|(simp;done)|(simp[*];done),by repeat(first|exact Drawn0.refl _|apply Drawn0.step)⟩)
 rw[if_neg c]at H
 exact absurd H (by simp)
mutual
def spec_SplitStatements.l0 : Nat → ByteArray → List ByteArray → Int → Int → Int → Option (List ByteArray)
 |0,_,_,_,_,_=>none
 |k+1,x0,x3,x4,x5,x6=>if x6<(x0.size:Int)then(if 0≤x6 then(if x5=0 then(if(bt x0 x6)=39 then(spec_SplitStatements.j1 k x0 x3 x4 x5 x6 (bt x0 x6) true)else(spec_SplitStatements.j1 k x0 x3 x4 x5 x6 (bt x0 x6) ((bt x0 x6)==34)))else(if(bt x0 x6)=x5 then(spec_SplitStatements.l0 k x0 x3 x4 0 (wrap64 (x6+1)))else(spec_SplitStatements.l0 k x0 x3 x4 x5 (wrap64 (x6+1)))))else(none))else(if 0≤x4 then(if x4≤(x0.size:Int)then(if x3.length<8796093022208 then(some (x3++[x0.extract (x4:Int).toNat x0.size]))else(none))else(none))else(none))
def spec_SplitStatements.j1 : Nat → ByteArray → List ByteArray → Int → Int → Int → Int → Bool → Option (List ByteArray)
 |0,_,_,_,_,_,_,_=>none
 |k+1,x0,x3,x4,x5,x6,x7,x24=>if x24=true then(spec_SplitStatements.l0 k x0 x3 x4 x7 (wrap64 (x6+1)))else(if x7=59 then(if 0≤x4 then(if x4≤x6 then(if x6≤(x0.size:Int)then(if x3.length<8796093022208 then(spec_SplitStatements.l0 k x0 (x3++[x0.extract (x4:Int).toNat (x6:Int).toNat]) (wrap64 (x6+1)) x5 (wrap64 (x6+1)))else(none))else(none))else(none))else(none))else(spec_SplitStatements.l0 k x0 x3 x4 x5 (wrap64 (x6+1))))
end
def spec_SplitStatements.f (k:Nat) (a0:ByteArray):Option (List ByteArray):=spec_SplitStatements.l0 k a0 (([]:List ByteArray)) 0 0 0
set_option maxHeartbeats 8000000 in
set_option maxRecDepth 100000 in
theorem spec_SplitStatements.calls (k:Nat) (a0:ByteArray) (r:List ByteArray) (w:World) (h:spec_SplitStatements.f k a0=some r):
  Calls Tryd.prog 67 #[.string a0] w fun e w'=>∃L:Value,e= .returned (L)∧Kd.R Kd.string 9 w' w.heap.size (fun _=>True) L r∧Below w.heap.size w w':=by
 have HB:=zM (Below.refl w.heap.size w)
 have H:(spec_SplitStatements.l0 k a0 (([]:List ByteArray)) 0 0 0)=some r:=h
 clear h
 obtain⟨y121,hy121⟩:∃v:List ByteArray,v=(([]:List ByteArray)):=⟨_,rfl⟩
 replace H:(spec_SplitStatements.l0 k a0 y121 0 0 0)=some r:=by first|(rw[hy121];with_reducible exact H)|(have j:=(Option.bind_some _ _).symm.trans H;rw[hy121];with_reducible exact j)|(have j:=(Option.bind_some _ _).symm.trans H;with_reducible exact j)|with_reducible exact H|(rw[hy121];exact H)|exact H
 have M:=zM hy121
 clear hy121
 have H':=zM H
 clear H
 go_enter Tryd.func67,Tryd.ntmps67
 go_wp2_with (first|((with_reducible refine gate_dst (N:=8) rfl ?_);refine Kd.R_lit Kd.string _ 9 ?hg (N:=8) ?hd (xs:=([]:List ByteArray)) (inner:=[]) (ok:=fun _=>True) (okp:=fun _=>True) ?hr ?hp (fun _ hk=>hk) trivial (Below.refl _ _) (Nat.le_refl _) (by simp) ?_;(case hd=>rfl);(case hg=>rfl);(case hr=>first|(go_simp;done)|(go_simp;rfl));(case hp=>exact(Reps.none _ _));intro ad w2 x hb O P;clear O P;(first|rw[←M.out]at x|(simp only[Int.reduceToNat]at x;rw[←M.out]at x));have Q:=zM (Kd.R_lower x (below_size (sH HB.out)));replace HB:=sB HB hb;clear hb x))
 go_loopg [3,4,5,6] k (fun kq S T U V w'=>∃(g:List ByteArray) (c:Int) (d:Int) (a:Int),T= .int .i64 c∧U= .int .u8 d∧V= .int .i64 a∧Aside0 (spec_SplitStatements.l0 kq a0 g c d a=some r)∧Aside0 (kq≤k)∧Aside0 (Kd.R Kd.string 9 w' w.heap.size (fun _=>True) S g)∧Aside0 (Below w.heap.size w w'))
 case atStart=>exact⟨(y121),(0),(0),(0),sr,sr,sr,H',⟨Nat.le_refl _⟩,⟨by exact sE Q.out⟩,⟨sb⟩⟩
 case round=>(
 clear H'
 obtain⟨g,c,d,a,rfl,rfl,rfl,HA,i,l,HB⟩:=hrel
 cases gk with
 |zero=>exact absurd HA.out (by simp[spec_SplitStatements.l0])
 |succ k1=>(
 have H:=HA.out
 clear HA
 simp only[spec_SplitStatements.l0]at H
 by_cases p:a<(a0.size:Int)
 ·(
 rw[if_pos p]at H
 have c4b0:=zT p
 clear p
 by_cases y:0≤a
 ·(
 rw[if_pos y]at H
 have c5b0:=zT y
 clear y
 by_cases o:d=0
 ·(
 rw[if_pos o]at H
 have c7b0:(d==0)=true:=zE o
 have c7b1:(d !=0)=false:=zY o
 clear o
 have J:=zM H
 clear H
 have m:0≤(a:Int):=zzA
 have n:a<(a0.size:Int):=zzA
 have K:=bt_at a0 a
 replace m:=eq_true m
 replace n:=eq_true n
 go_upto_region 11 with(fail)
 go_cut [24] (fun W wc=>∃(kq:Nat) (E:Bool),W= .bool E∧Aside0 (spec_SplitStatements.j1 kq a0 g c d a (bt a0 a) E=some r)∧Aside0 (kq≤k1)∧Aside0 (Kd.R Kd.string 9 wc w.heap.size (fun _=>True) u3 g)∧Aside0 (Below w.heap.size w wc))
 case first=>(
 have H:=J.out
 clear J
 by_cases q:(bt a0 a)=39
 ·(
 rw[if_pos q]at H
 have c9b0:((bt a0 a)==39)=true:=zE q
 have c9b1:((bt a0 a) !=39)=false:=zY q
 clear q
 (first|rw[c9b0]|(simp only[i64_w,i32_w];rw[c9b0])|rw[c9b2]|skip)
 have H':=zM H
 clear H
 go_wp2
 go_meet
 case rel=>exact⟨_,(true),sr,H',⟨by have:=i.out;first|omega|exact Nat.le_refl _⟩,⟨by exact sE l.out⟩,⟨sb⟩⟩)
 rw[if_neg q]at H
 have c9b0:((bt a0 a)==39)=false:=zN q
 have c9b1:((bt a0 a) !=39)=true:=zX q
 (first|rw[c9b0]|(simp only[i64_w,i32_w];rw[c9b0])|rw[c9b2]|skip)
 have H':=zM H
 clear H
 go_wp2
 go_meet
 case rel=>exact⟨_,(((bt a0 a)==34)),sr,H',⟨by have:=i.out;first|omega|exact Nat.le_refl _⟩,⟨by exact sE l.out⟩,⟨sb⟩⟩)
 case rest=>(
 clear J
 try clear p
 try clear c4b0
 try clear y
 try clear c5b0
 try clear m
 try clear n
 try clear K
 try clear o
 try clear c7b0
 try clear c7b1
 try clear m
 try clear n
 obtain⟨kq,E,rfl,HA,u,l,HB⟩:=hcut
 cases kq with
 |zero=>exact absurd HA.out (by simp[spec_SplitStatements.j1])
 |succ kj7=>(
 have H:=HA.out
 clear HA
 simp only[spec_SplitStatements.j1]at H
 by_cases F:E=true
 ·(
 subst F
 rewrite[if_pos rfl]at H
 have H':=zM H
 clear H
 go_wp2
 go_roundg kj7
 case measure=>have:=i.out;have:=u.out;omega
 case rel=>exact⟨(g),(c),((bt a0 a)),(wrap64 (a+1)),sr,sr,sr,H',⟨by have:=i.out;have:=u.out;omega⟩,⟨by exact sE l.out⟩,⟨sb⟩⟩)
 replace F:=zB F
 subst F
 rewrite[if_neg zQ]at H
 by_cases s:(bt a0 a)=59
 ·(
 rw[if_pos s]at H
 have c11b0:((bt a0 a)==59)=true:=zE s
 have c11b1:((bt a0 a) !=59)=false:=zY s
 clear s
 by_cases z:0≤c
 ·(
 rw[if_pos z]at H
 have c12b0:=eq_true z
 have c12b1:=zT z
 clear z
 by_cases A:c≤a
 ·(
 rw[if_pos A]at H
 have c13b0:=eq_true A
 have c13b1:=zT A
 clear A
 by_cases B:a≤(a0.size:Int)
 ·(
 rw[if_pos B]at H
 have c14b0:=eq_true B
 have c14b1:=zT B
 clear B
 by_cases G:g.length<8796093022208
 ·(
 rw[if_pos G]at H
 have X:=zM G
 clear G
 obtain⟨y127,hy127⟩:∃v:List ByteArray,v=(g++[a0.extract (c:Int).toNat (a:Int).toNat]):=⟨_,rfl⟩
 replace H:(spec_SplitStatements.l0 kj7 a0 y127 (wrap64 (a+1)) d (wrap64 (a+1)))=some r:=by first|(rw[hy127];with_reducible exact H)|(have j:=(Option.bind_some _ _).symm.trans H;rw[hy127];with_reducible exact j)|(have j:=(Option.bind_some _ _).symm.trans H;with_reducible exact j)|with_reducible exact H|(rw[hy127];exact H)|exact H
 have Y:=zM hy127
 clear hy127
 have H':=zM H
 clear H
 go_wp2_with (first|((with_reducible refine gate_builtin (b:= .append) (xs:= #[.tmp 35,.tmp 40]) rfl ?_);at_builtin;refine Kd.R_append Kd.string (w0:=w) w.heap.size rfl (.tmp 35) (.tmp 40) 85 9 (.string ⟨#[]⟩) 16 rfl Tryd.underlying85 info9 rfl (by decide) (by omega) u3 g (a0.extract (c:Int).toNat (a:Int).toNat) [.string (a0.extract (c:Int).toNat (a:Int).toNat)] (fun _=>True) (fun _=>False) rfl rfl ?aP (fun _ hk=>hk.elim) ?aF ?aO ?aB ?aS ?aL ?_;(case aP=>exact rfl);(case aB=>exact(sH HB.out));(case aF=>exact(fun _ _=>trivial));(case aO=>exact(sE l.out));(case aS=>exact(below_size (sH HB.out)));(case aL=>have:=X.out;omega);intro ae af ho hb hg hat;rw[←Y.out]at ho;replace HB:=zM (hb);have Z:=zM (ho);clear l;clear ho hb hg hat))
 go_roundg kj7
 case measure=>have:=i.out;have:=u.out;omega
 case rel=>exact⟨(y127),(wrap64 (a+1)),(d),(wrap64 (a+1)),sr,sr,sr,H',⟨by have:=i.out;have:=u.out;omega⟩,⟨by exact sE Z.out⟩,⟨sb⟩⟩)
 rw[if_neg G]at H
 exact absurd H (by simp))
 rw[if_neg B]at H
 exact absurd H (by simp))
 rw[if_neg A]at H
 exact absurd H (by simp))
 rw[if_neg z]at H
 exact absurd H (by simp))
 rw[if_neg s]at H
 have c11b0:((bt a0 a)==59)=false:=zN s
 have c11b1:((bt a0 a) !=59)=true:=zX s
 have H':=zM H
 clear H
 go_wp2
 go_roundg kj7
 case measure=>have:=i.out;have:=u.out;omega
 case rel=>exact⟨(g),(c),(d),(wrap64 (a+1)),sr,sr,sr,H',⟨by have:=i.out;have:=u.out;omega⟩,⟨by exact sE l.out⟩,⟨sb⟩⟩)))
 rw[if_neg o]at H
 have c7b0:(d==0)=false:=zN o
 have c7b1:(d !=0)=true:=zX o
 by_cases t:(bt a0 a)=d
 ·(
 rw[if_pos t]at H
 have c17b0:((bt a0 a)==d)=true:=zE t
 have c17b1:((bt a0 a) !=d)=false:=zY t
 clear t
 have H':=zM H
 clear H
 have m:0≤(a:Int):=zzA
 have n:a<(a0.size:Int):=zzA
 have K:=bt_at a0 a
 replace m:=eq_true m
 replace n:=eq_true n
 go_wp2
 go_roundg k1
 case measure=>have:=i.out;omega
 case rel=>exact⟨(g),(c),(0),(wrap64 (a+1)),sr,sr,sr,H',⟨by have:=i.out;omega⟩,⟨by exact sE l.out⟩,⟨sb⟩⟩)
 rw[if_neg t]at H
 have c17b0:((bt a0 a)==d)=false:=zN t
 have c17b1:((bt a0 a) !=d)=true:=zX t
 have H':=zM H
 clear H
 have m:0≤(a:Int):=zzA
 have n:a<(a0.size:Int):=zzA
 have K:=bt_at a0 a
 replace m:=eq_true m
 replace n:=eq_true n
 go_wp2
 go_roundg k1
 case measure=>have:=i.out;omega
 case rel=>exact⟨(g),(c),(d),(wrap64 (a+1)),sr,sr,sr,H',⟨by have:=i.out;omega⟩,⟨by exact sE l.out⟩,⟨sb⟩⟩)
 rw[if_neg y]at H
 exact absurd H (by simp))
 rw[if_neg p]at H
 have c4b0:=zF p
 clear p
 by_cases C:0≤c
 ·(
 rw[if_pos C]at H
 have c18b0:=eq_true C
 have c18b1:=zT C
 clear C
 by_cases D:c≤(a0.size:Int)
 ·(
 rw[if_pos D]at H
 have c19b0:=eq_true D
 have c19b1:=zT D
 clear D
 by_cases I:g.length<8796093022208
 ·(
 rw[if_pos I]at H
 have aa:=zM I
 clear I
 obtain⟨y124,hy124⟩:∃v:List ByteArray,v=(g++[a0.extract (c:Int).toNat a0.size]):=⟨_,rfl⟩
 replace H:(some y124)=some r:=by first|(rw[hy124];with_reducible exact H)|(have j:=(Option.bind_some _ _).symm.trans H;rw[hy124];with_reducible exact j)|(have j:=(Option.bind_some _ _).symm.trans H;with_reducible exact j)|with_reducible exact H|(rw[hy124];exact H)|exact H
 have ab:=zM hy124
 clear hy124
 obtain rfl:=zI H
 go_wp2_with (first|((with_reducible refine gate_builtin (b:= .append) (xs:= #[.tmp 44,.tmp 48]) rfl ?_);at_builtin;refine Kd.R_append Kd.string (w0:=w) w.heap.size rfl (.tmp 44) (.tmp 48) 85 9 (.string ⟨#[]⟩) 16 rfl Tryd.underlying85 info9 rfl (by decide) (by omega) u3 g (a0.extract (c:Int).toNat a0.size) [.string (a0.extract (c:Int).toNat a0.size)] (fun _=>True) (fun _=>False) rfl rfl ?aP (fun _ hk=>hk.elim) ?aF ?aO ?aB ?aS ?aL ?_;(case aP=>exact rfl);(case aB=>exact(sH HB.out));(case aF=>exact(fun _ _=>trivial));(case aO=>exact(sE l.out));(case aS=>exact(below_size (sH HB.out)));(case aL=>have:=aa.out;omega);intro ag ah ho hb hg hat;rw[←ab.out]at ho;replace HB:=zM (hb);have ac:=zM (ho);clear l;clear ho hb hg hat))
 go_ret
 exact⟨_,sq,by exact sE ac.out,sb⟩)
 rw[if_neg I]at H
 exact absurd H (by simp))
 rw[if_neg D]at H
 exact absurd H (by simp))
 rw[if_neg C]at H
 exact absurd H (by simp)))
end Go.Proofs.YtjmojijopammjaaDoor.PFnExactLogicalLines
