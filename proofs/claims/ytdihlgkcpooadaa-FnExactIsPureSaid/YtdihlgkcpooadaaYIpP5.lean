/- Printed functions: spec_l00In, spec_l11Word, spec_l11Form. -/
import Derived.Test.YtdihlgkcpooadaaYIpP0
namespace Go.Proofs.Ytdihlgkcpooadaa.PFnExactIsPure
open Go.RowKit Go.Proofs.YtdihlgkcpooadaaG Go.Proofs.YtdihlgkcpooadaaW.PrintWords Go.Proofs.YtdihlgkcpooadaaW.PrintLast Go.Proofs.YtdihlgkcpooadaaW.PrintMore
attribute [local go_sem] max2_int min2_int max_two min_two max_three min_three max_four min_four
set_option linter.unusedVariables false
set_option linter.unusedSimpArgs false
def spec_l00In.f (a0:Int) (a1:Int) (a2:Int):Option (Bool):=if a0≥a1 then(some (decide (a0≤a2)))else(some false)
set_option maxHeartbeats 8000000 in
set_option maxRecDepth 100000 in
theorem spec_l00In.calls (a0:Int) (a1:Int) (a2:Int) (r:Bool) (w:World) (h:spec_l00In.f a0 a1 a2=some r):
  Calls Try.prog 86 #[.int .i64 a0,.int .i64 a1,.int .i64 a2] w fun e w'=>e= .returned (.bool r)∧Drawn0 w w':=by
 have H:(if a0≥a1 then(some (decide (a0≤a2)))else(some false))=some r:=h
 clear h
 by_cases a:a0≥a1
 ·(
 rw[if_pos a]at H
 have c4b0:decide (a1≤a0)=true:=zT a
 clear a
 obtain rfl:=zI H
 go_enter Try.func86,Try.ntmps86
 go_wp2
 go_ret
 exact⟨by first|rfl|(simp;done)|(simp[*];done),by repeat(first|exact Drawn0.refl _|apply Drawn0.step)⟩)
 rw[if_neg a]at H
 have c4b0:decide (a1≤a0)=false:=zF a
 clear a
 obtain rfl:=zI H
 go_enter Try.func86,Try.ntmps86
 go_wp2
 go_ret
 exact⟨by first|rfl|(simp;done)|(simp[*];done),by repeat(first|exact Drawn0.refl _|apply Drawn0.step)⟩
def spec_l11Word.f (a0:Int):Option (ByteArray×ByteArray):=if a0=2 then(some ((⟨#[97,110,121]⟩:ByteArray),(⟨#[115]⟩:ByteArray)))else(if a0=3 then(some ((⟨#[110,111,116,97,110,121]⟩:ByteArray),(⟨#[115]⟩:ByteArray)))else(if a0=4 then(some ((⟨#[115,112,97,110]⟩:ByteArray),(⟨#[115]⟩:ByteArray)))else(if a0=5 then(some ((⟨#[98,114,101,97,107]⟩:ByteArray),(⟨#[115]⟩:ByteArray)))else(if a0=6 then(some ((⟨#[108,101,110]⟩:ByteArray),(⟨#[110]⟩:ByteArray)))else(if a0=7 then(some ((⟨#[112,111,115]⟩:ByteArray),(⟨#[110]⟩:ByteArray)))else(if a0=8 then(some ((⟨#[114,112,111,115]⟩:ByteArray),(⟨#[110]⟩:ByteArray)))else(if a0=9 then(some ((⟨#[116,97,98]⟩:ByteArray),(⟨#[110]⟩:ByteArray)))else(if a0=10 then(some ((⟨#[114,116,97,98]⟩:ByteArray),(⟨#[110]⟩:ByteArray)))else(if a0=11 then(some ((⟨#[114,101,109]⟩:ByteArray),(⟨#[]⟩:ByteArray)))else(if a0=12 then(some ((⟨#[97,114,98]⟩:ByteArray),(⟨#[]⟩:ByteArray)))else(if a0=13 then(some ((⟨#[98,97,108]⟩:ByteArray),(⟨#[]⟩:ByteArray)))else(if a0=14 then(some ((⟨#[102,101,110,99,101]⟩:ByteArray),(⟨#[]⟩:ByteArray)))else(if a0=15 then(some ((⟨#[97,98,111,114,116]⟩:ByteArray),(⟨#[]⟩:ByteArray)))else(if a0=16 then(some ((⟨#[102,97,105,108]⟩:ByteArray),(⟨#[]⟩:ByteArray)))else(if a0=17 then(some ((⟨#[115,117,99,99,101,101,100]⟩:ByteArray),(⟨#[]⟩:ByteArray)))else(if a0=18 then(some ((⟨#[97,108,116]⟩:ByteArray),(⟨#[112,112]⟩:ByteArray)))else(if a0=19 then(some ((⟨#[99,97,116]⟩:ByteArray),(⟨#[112,112]⟩:ByteArray)))else(if a0=20 then(some ((⟨#[97,114,98,110,111]⟩:ByteArray),(⟨#[112]⟩:ByteArray)))else(if a0=21 then(some ((⟨#[99,111,110,100]⟩:ByteArray),(⟨#[112,120]⟩:ByteArray)))else(if a0=22 then(some ((⟨#[110,111,119]⟩:ByteArray),(⟨#[112,120]⟩:ByteArray)))else(if a0=23 then(some ((⟨#[99,117,114,115,111,114]⟩:ByteArray),(⟨#[120]⟩:ByteArray)))else(if a0=24 then(some ((⟨#[100,101,102,101,114]⟩:ByteArray),(⟨#[120]⟩:ByteArray)))else(some ((⟨#[]⟩:ByteArray),(⟨#[]⟩:ByteArray)))))))))))))))))))))))))
set_option maxHeartbeats 8000000 in
set_option maxRecDepth 100000 in
theorem spec_l11Word.calls (a0:Int) (r1:ByteArray) (r2:ByteArray) (w:World) (h:spec_l11Word.f a0=some (r1,r2)):
  Calls Try.prog 95 #[.int .i64 a0] w fun e w'=>e= .returned (.tuple #[.string r1,.string r2])∧Drawn0 w w':=by
 have H:(if a0=2 then(some ((⟨#[97,110,121]⟩:ByteArray),(⟨#[115]⟩:ByteArray)))else(if a0=3 then(some ((⟨#[110,111,116,97,110,121]⟩:ByteArray),(⟨#[115]⟩:ByteArray)))else(if a0=4 then(some ((⟨#[115,112,97,110]⟩:ByteArray),(⟨#[115]⟩:ByteArray)))else(if a0=5 then(some ((⟨#[98,114,101,97,107]⟩:ByteArray),(⟨#[115]⟩:ByteArray)))else(if a0=6 then(some ((⟨#[108,101,110]⟩:ByteArray),(⟨#[110]⟩:ByteArray)))else(if a0=7 then(some ((⟨#[112,111,115]⟩:ByteArray),(⟨#[110]⟩:ByteArray)))else(if a0=8 then(some ((⟨#[114,112,111,115]⟩:ByteArray),(⟨#[110]⟩:ByteArray)))else(if a0=9 then(some ((⟨#[116,97,98]⟩:ByteArray),(⟨#[110]⟩:ByteArray)))else(if a0=10 then(some ((⟨#[114,116,97,98]⟩:ByteArray),(⟨#[110]⟩:ByteArray)))else(if a0=11 then(some ((⟨#[114,101,109]⟩:ByteArray),(⟨#[]⟩:ByteArray)))else(if a0=12 then(some ((⟨#[97,114,98]⟩:ByteArray),(⟨#[]⟩:ByteArray)))else(if a0=13 then(some ((⟨#[98,97,108]⟩:ByteArray),(⟨#[]⟩:ByteArray)))else(if a0=14 then(some ((⟨#[102,101,110,99,101]⟩:ByteArray),(⟨#[]⟩:ByteArray)))else(if a0=15 then(some ((⟨#[97,98,111,114,116]⟩:ByteArray),(⟨#[]⟩:ByteArray)))else(if a0=16 then(some ((⟨#[102,97,105,108]⟩:ByteArray),(⟨#[]⟩:ByteArray)))else(if a0=17 then(some ((⟨#[115,117,99,99,101,101,100]⟩:ByteArray),(⟨#[]⟩:ByteArray)))else(if a0=18 then(some ((⟨#[97,108,116]⟩:ByteArray),(⟨#[112,112]⟩:ByteArray)))else(if a0=19 then(some ((⟨#[99,97,116]⟩:ByteArray),(⟨#[112,112]⟩:ByteArray)))else(if a0=20 then(some ((⟨#[97,114,98,110,111]⟩:ByteArray),(⟨#[112]⟩:ByteArray)))else(if a0=21 then(some ((⟨#[99,111,110,100]⟩:ByteArray),(⟨#[112,120]⟩:ByteArray)))else(if a0=22 then(some ((⟨#[110,111,119]⟩:ByteArray),(⟨#[112,120]⟩:ByteArray)))else(if a0=23 then(some ((⟨#[99,117,114,115,111,114]⟩:ByteArray),(⟨#[120]⟩:ByteArray)))else(if a0=24 then(some ((⟨#[100,101,102,101,114]⟩:ByteArray),(⟨#[120]⟩:ByteArray)))else(some ((⟨#[]⟩:ByteArray),(⟨#[]⟩:ByteArray))))))))))))))))))))))))))=some (r1,r2):=h
 clear h
 by_cases a:a0=2
 ·(
 rw[if_pos a]at H
 have c2b0:(a0==2)=true:=zE a
 have c2b1:(a0 !=2)=false:=zY a
 clear a
 simp only[Option.some.injEq,Prod.mk.injEq]at H
 obtain⟨rfl,rfl⟩:=H
 go_enter Try.func95,Try.ntmps95
 go_wp2
 go_ret2
 exact⟨by first|rfl|(simp;done)|(simp[*];done),by repeat(first|exact Drawn0.refl _|apply Drawn0.step)⟩)
 rw[if_neg a]at H
 have c2b0:(a0==2)=false:=zN a
 have c2b1:(a0 !=2)=true:=zX a
 by_cases b:a0=3
 ·(
 rw[if_pos b]at H
 have c3b0:(a0==3)=true:=zE b
 have c3b1:(a0 !=3)=false:=zY b
 clear b
 simp only[Option.some.injEq,Prod.mk.injEq]at H
 obtain⟨rfl,rfl⟩:=H
 go_enter Try.func95,Try.ntmps95
 go_wp2
 go_ret2
 exact⟨by first|rfl|(simp;done)|(simp[*];done),by repeat(first|exact Drawn0.refl _|apply Drawn0.step)⟩)
 rw[if_neg b]at H
 have c3b0:(a0==3)=false:=zN b
 have c3b1:(a0 !=3)=true:=zX b
 by_cases c:a0=4
 ·(
 rw[if_pos c]at H
 have c4b0:(a0==4)=true:=zE c
 have c4b1:(a0 !=4)=false:=zY c
 clear c
 simp only[Option.some.injEq,Prod.mk.injEq]at H
 obtain⟨rfl,rfl⟩:=H
 go_enter Try.func95,Try.ntmps95
 go_wp2
 go_ret2
 exact⟨by first|rfl|(simp;done)|(simp[*];done),by repeat(first|exact Drawn0.refl _|apply Drawn0.step)⟩)
 rw[if_neg c]at H
 have c4b0:(a0==4)=false:=zN c
 have c4b1:(a0 !=4)=true:=zX c
 by_cases d:a0=5
 ·(
 rw[if_pos d]at H
 have c5b0:(a0==5)=true:=zE d
 have c5b1:(a0 !=5)=false:=zY d
 clear d
 simp only[Option.some.injEq,Prod.mk.injEq]at H
 obtain⟨rfl,rfl⟩:=H
 go_enter Try.func95,Try.ntmps95
 go_wp2
 go_ret2
 exact⟨by first|rfl|(simp;done)|(simp[*];done),by repeat(first|exact Drawn0.refl _|apply Drawn0.step)⟩)
 rw[if_neg d]at H
 have c5b0:(a0==5)=false:=zN d
 have c5b1:(a0 !=5)=true:=zX d
 by_cases g:a0=6
 ·(
 rw[if_pos g]at H
 have c6b0:(a0==6)=true:=zE g
 have c6b1:(a0 !=6)=false:=zY g
 clear g
 simp only[Option.some.injEq,Prod.mk.injEq]at H
 obtain⟨rfl,rfl⟩:=H
 go_enter Try.func95,Try.ntmps95
 go_wp2
 go_ret2
 exact⟨by first|rfl|(simp;done)|(simp[*];done),by repeat(first|exact Drawn0.refl _|apply Drawn0.step)⟩)
 rw[if_neg g]at H
 have c6b0:(a0==6)=false:=zN g
 have c6b1:(a0 !=6)=true:=zX g
 by_cases i:a0=7
 ·(
 rw[if_pos i]at H
 have c7b0:(a0==7)=true:=zE i
 have c7b1:(a0 !=7)=false:=zY i
 clear i
 simp only[Option.some.injEq,Prod.mk.injEq]at H
 obtain⟨rfl,rfl⟩:=H
 go_enter Try.func95,Try.ntmps95
 go_wp2
 go_ret2
 exact⟨by first|rfl|(simp;done)|(simp[*];done),by repeat(first|exact Drawn0.refl _|apply Drawn0.step)⟩)
 rw[if_neg i]at H
 have c7b0:(a0==7)=false:=zN i
 have c7b1:(a0 !=7)=true:=zX i
 by_cases j:a0=8
 ·(
 rw[if_pos j]at H
 have c8b0:(a0==8)=true:=zE j
 have c8b1:(a0 !=8)=false:=zY j
 clear j
 simp only[Option.some.injEq,Prod.mk.injEq]at H
 obtain⟨rfl,rfl⟩:=H
 go_enter Try.func95,Try.ntmps95
 go_wp2
 go_ret2
 exact⟨by first|rfl|(simp;done)|(simp[*];done),by repeat(first|exact Drawn0.refl _|apply Drawn0.step)⟩)
 rw[if_neg j]at H
 have c8b0:(a0==8)=false:=zN j
 have c8b1:(a0 !=8)=true:=zX j
 by_cases l:a0=9
 ·(
 rw[if_pos l]at H
 have c9b0:(a0==9)=true:=zE l
 have c9b1:(a0 !=9)=false:=zY l
 clear l
 simp only[Option.some.injEq,Prod.mk.injEq]at H
 obtain⟨rfl,rfl⟩:=H
 go_enter Try.func95,Try.ntmps95
 go_wp2
 go_ret2
 exact⟨by first|rfl|(simp;done)|(simp[*];done),by repeat(first|exact Drawn0.refl _|apply Drawn0.step)⟩)
 rw[if_neg l]at H
 have c9b0:(a0==9)=false:=zN l
 have c9b1:(a0 !=9)=true:=zX l
 by_cases m:a0=10
 ·(
 rw[if_pos m]at H
 have c10b0:(a0==10)=true:=zE m
 have c10b1:(a0 !=10)=false:=zY m
 clear m
 simp only[Option.some.injEq,Prod.mk.injEq]at H
 obtain⟨rfl,rfl⟩:=H
 go_enter Try.func95,Try.ntmps95
 go_wp2
 go_ret2
 exact⟨by first|rfl|(simp;done)|(simp[*];done),by repeat(first|exact Drawn0.refl _|apply Drawn0.step)⟩)
 rw[if_neg m]at H
 have c10b0:(a0==10)=false:=zN m
 have c10b1:(a0 !=10)=true:=zX m
 by_cases n:a0=11
 ·(
 rw[if_pos n]at H
 have c11b0:(a0==11)=true:=zE n
 have c11b1:(a0 !=11)=false:=zY n
 clear n
 simp only[Option.some.injEq,Prod.mk.injEq]at H
 obtain⟨rfl,rfl⟩:=H
 go_enter Try.func95,Try.ntmps95
 go_wp2
 go_ret2
 exact⟨by first|rfl|(simp;done)|(simp[*];done),by repeat(first|exact Drawn0.refl _|apply Drawn0.step)⟩)
 rw[if_neg n]at H
 have c11b0:(a0==11)=false:=zN n
 have c11b1:(a0 !=11)=true:=zX n
 by_cases o:a0=12
 ·(
 rw[if_pos o]at H
 have c12b0:(a0==12)=true:=zE o
 have c12b1:(a0 !=12)=false:=zY o
 clear o
 simp only[Option.some.injEq,Prod.mk.injEq]at H
 obtain⟨rfl,rfl⟩:=H
 go_enter Try.func95,Try.ntmps95
 go_wp2
 go_ret2
 exact⟨by first|rfl|(simp;done)|(simp[*];done),by repeat(first|exact Drawn0.refl _|apply Drawn0.step)⟩)
 rw[if_neg o]at H
 have c12b0:(a0==12)=false:=zN o
 have c12b1:(a0 !=12)=true:=zX o
 by_cases p:a0=13
 ·(
 rw[if_pos p]at H
 have c13b0:(a0==13)=true:=zE p
 have c13b1:(a0 !=13)=false:=zY p
 clear p
 simp only[Option.some.injEq,Prod.mk.injEq]at H
 obtain⟨rfl,rfl⟩:=H
 go_enter Try.func95,Try.ntmps95
 go_wp2
 go_ret2
 exact⟨by first|rfl|(simp;done)|(simp[*];done),by repeat(first|exact Drawn0.refl _|apply Drawn0.step)⟩)
 rw[if_neg p]at H
 have c13b0:(a0==13)=false:=zN p
 have c13b1:(a0 !=13)=true:=zX p
 by_cases q:a0=14
 ·(
 rw[if_pos q]at H
 have c14b0:(a0==14)=true:=zE q
 have c14b1:(a0 !=14)=false:=zY q
 clear q
 simp only[Option.some.injEq,Prod.mk.injEq]at H
 obtain⟨rfl,rfl⟩:=H
 go_enter Try.func95,Try.ntmps95
 go_wp2
 go_ret2
 exact⟨by first|rfl|(simp;done)|(simp[*];done),by repeat(first|exact Drawn0.refl _|apply Drawn0.step)⟩)
 rw[if_neg q]at H
 have c14b0:(a0==14)=false:=zN q
 have c14b1:(a0 !=14)=true:=zX q
 by_cases s:a0=15
 ·(
 rw[if_pos s]at H
 have c15b0:(a0==15)=true:=zE s
 have c15b1:(a0 !=15)=false:=zY s
 clear s
 simp only[Option.some.injEq,Prod.mk.injEq]at H
 obtain⟨rfl,rfl⟩:=H
 go_enter Try.func95,Try.ntmps95
 go_wp2
 go_ret2
 exact⟨by first|rfl|(simp;done)|(simp[*];done),by repeat(first|exact Drawn0.refl _|apply Drawn0.step)⟩)
 rw[if_neg s]at H
 have c15b0:(a0==15)=false:=zN s
 have c15b1:(a0 !=15)=true:=zX s
 by_cases t:a0=16
 ·(
 rw[if_pos t]at H
 have c16b0:(a0==16)=true:=zE t
 have c16b1:(a0 !=16)=false:=zY t
 clear t
 simp only[Option.some.injEq,Prod.mk.injEq]at H
 obtain⟨rfl,rfl⟩:=H
 go_enter Try.func95,Try.ntmps95
 go_wp2
 go_ret2
 exact⟨by first|rfl|(simp;done)|(simp[*];done),by repeat(first|exact Drawn0.refl _|apply Drawn0.step)⟩)
 rw[if_neg t]at H
 have c16b0:(a0==16)=false:=zN t
 have c16b1:(a0 !=16)=true:=zX t
 by_cases u:a0=17
 ·(
 rw[if_pos u]at H
 have c17b0:(a0==17)=true:=zE u
 have c17b1:(a0 !=17)=false:=zY u
 clear u
 simp only[Option.some.injEq,Prod.mk.injEq]at H
 obtain⟨rfl,rfl⟩:=H
 go_enter Try.func95,Try.ntmps95
 go_wp2
 go_ret2
 exact⟨by first|rfl|(simp;done)|(simp[*];done),by repeat(first|exact Drawn0.refl _|apply Drawn0.step)⟩)
 rw[if_neg u]at H
 have c17b0:(a0==17)=false:=zN u
 have c17b1:(a0 !=17)=true:=zX u
 by_cases v:a0=18
 ·(
 rw[if_pos v]at H
 have c18b0:(a0==18)=true:=zE v
 have c18b1:(a0 !=18)=false:=zY v
 clear v
 simp only[Option.some.injEq,Prod.mk.injEq]at H
 obtain⟨rfl,rfl⟩:=H
 go_enter Try.func95,Try.ntmps95
 go_wp2
 go_ret2
 exact⟨by first|rfl|(simp;done)|(simp[*];done),by repeat(first|exact Drawn0.refl _|apply Drawn0.step)⟩)
 rw[if_neg v]at H
 have c18b0:(a0==18)=false:=zN v
 have c18b1:(a0 !=18)=true:=zX v
 by_cases x:a0=19
 ·(
 rw[if_pos x]at H
 have c19b0:(a0==19)=true:=zE x
 have c19b1:(a0 !=19)=false:=zY x
 clear x
 simp only[Option.some.injEq,Prod.mk.injEq]at H
 obtain⟨rfl,rfl⟩:=H
 go_enter Try.func95,Try.ntmps95
 go_wp2
 go_ret2
 exact⟨by first|rfl|(simp;done)|(simp[*];done),by repeat(first|exact Drawn0.refl _|apply Drawn0.step)⟩)
 rw[if_neg x]at H
 have c19b0:(a0==19)=false:=zN x
 have c19b1:(a0 !=19)=true:=zX x
 by_cases y:a0=20
 ·(
 rw[if_pos y]at H
 have c20b0:(a0==20)=true:=zE y
 have c20b1:(a0 !=20)=false:=zY y
 clear y
 simp only[Option.some.injEq,Prod.mk.injEq]at H
 obtain⟨rfl,rfl⟩:=H
 go_enter Try.func95,Try.ntmps95
 go_wp2
 go_ret2
 exact⟨by first|rfl|(simp;done)|(simp[*];done),by repeat(first|exact Drawn0.refl _|apply Drawn0.step)⟩)
 rw[if_neg y]at H
 have c20b0:(a0==20)=false:=zN y
 have c20b1:(a0 !=20)=true:=zX y
 by_cases z:a0=21
 ·(
 rw[if_pos z]at H
 have c21b0:(a0==21)=true:=zE z
 have c21b1:(a0 !=21)=false:=zY z
 clear z
 simp only[Option.some.injEq,Prod.mk.injEq]at H
 obtain⟨rfl,rfl⟩:=H
 go_enter Try.func95,Try.ntmps95
 go_wp2
 go_ret2
 exact⟨by first|rfl|(simp;done)|(simp[*];done),by repeat(first|exact Drawn0.refl _|apply Drawn0.step)⟩)
 rw[if_neg z]at H
 have c21b0:(a0==21)=false:=zN z
 have c21b1:(a0 !=21)=true:=zX z
 by_cases A:a0=22
 ·(
 rw[if_pos A]at H
 have c22b0:(a0==22)=true:=zE A
 have c22b1:(a0 !=22)=false:=zY A
 clear A
 simp only[Option.some.injEq,Prod.mk.injEq]at H
 obtain⟨rfl,rfl⟩:=H
 go_enter Try.func95,Try.ntmps95
 go_wp2
 go_ret2
 exact⟨by first|rfl|(simp;done)|(simp[*];done),by repeat(first|exact Drawn0.refl _|apply Drawn0.step)⟩)
 rw[if_neg A]at H
 have c22b0:(a0==22)=false:=zN A
 have c22b1:(a0 !=22)=true:=zX A
 by_cases B:a0=23
 ·(
 rw[if_pos B]at H
 have c23b0:(a0==23)=true:=zE B
 have c23b1:(a0 !=23)=false:=zY B
 clear B
 simp only[Option.some.injEq,Prod.mk.injEq]at H
 obtain⟨rfl,rfl⟩:=H
 go_enter Try.func95,Try.ntmps95
 go_wp2
 go_ret2
 exact⟨by first|rfl|(simp;done)|(simp[*];done),by repeat(first|exact Drawn0.refl _|apply Drawn0.step)⟩)
 rw[if_neg B]at H
 have c23b0:(a0==23)=false:=zN B
 have c23b1:(a0 !=23)=true:=zX B
 by_cases C:a0=24
 ·(
 rw[if_pos C]at H
 have c24b0:(a0==24)=true:=zE C
 have c24b1:(a0 !=24)=false:=zY C
 clear C
 simp only[Option.some.injEq,Prod.mk.injEq]at H
 obtain⟨rfl,rfl⟩:=H
 go_enter Try.func95,Try.ntmps95
 go_wp2
 go_ret2
 exact⟨by first|rfl|(simp;done)|(simp[*];done),by repeat(first|exact Drawn0.refl _|apply Drawn0.step)⟩)
 rw[if_neg C]at H
 have c24b0:(a0==24)=false:=zN C
 have c24b1:(a0 !=24)=true:=zX C
 simp only[Option.some.injEq,Prod.mk.injEq]at H
 obtain⟨rfl,rfl⟩:=H
 go_enter Try.func95,Try.ntmps95
 go_wp2
 go_ret2
 exact⟨by first|rfl|(simp;done)|(simp[*];done),by repeat(first|exact Drawn0.refl _|apply Drawn0.step)⟩
def spec_l11Form.l0 : Nat → ByteArray → Int → ByteArray → Int → Option (Int × ByteArray)
 |0,_,_,_,_=>none
 |k+1,x5,x6,x7,x8=>if x8<(x5.size:Int)then(if 0≤x8 then(if(bt x5 x8)=112 then(spec_l11Form.l0 k x5 (wrap64 (x6+1)) x7 (wrap64 (x8+1)))else(if x8≤(wrap64 (x8+1))then(if(wrap64 (x8+1))≤(x5.size:Int)then(if x7.size+((x5.extract (x8:Int).toNat ((wrap64 (x8+1)):Int).toNat).size)≤9223372036854775807 then(spec_l11Form.l0 k x5 x6 (x7++(x5.extract (x8:Int).toNat ((wrap64 (x8+1)):Int).toNat)) (wrap64 (x8+1)))else(none))else(none))else(none)))else(none))else(some (x6,x7))
def spec_l11Form.f (k:Nat) (a0:Int):Option (Int×ByteArray):=if a0=1 then(some (0,(⟨#[115]⟩:ByteArray)))else((spec_l11Word.f a0).bind fun bt151=>(spec_l11Form.l0 k bt151.2 0 (⟨#[]⟩:ByteArray) 0))
set_option maxHeartbeats 8000000 in
set_option maxRecDepth 100000 in
theorem spec_l11Form.calls (k:Nat) (a0:Int) (r1:Int) (r2:ByteArray) (w:World) (h:spec_l11Form.f k a0=some (r1,r2)):
  Calls Try.prog 87 #[.int .i64 a0] w fun e w'=>e= .returned (.tuple #[.int .i64 r1,.string r2])∧Drawn0 w w':=by
 have H:(if a0=1 then(some (0,(⟨#[115]⟩:ByteArray)))else((spec_l11Word.f a0).bind fun u=>(spec_l11Form.l0 k u.2 0 (⟨#[]⟩:ByteArray) 0)))=some (r1,r2):=h
 clear h
 by_cases c:a0=1
 ·(
 rw[if_pos c]at H
 have c2b0:(a0==1)=true:=zE c
 have c2b1:(a0 !=1)=false:=zY c
 clear c
 simp only[Option.some.injEq,Prod.mk.injEq]at H
 obtain⟨rfl,rfl⟩:=H
 go_enter Try.func87,Try.ntmps87
 go_wp2
 go_ret2
 exact⟨by first|rfl|(simp;done)|(simp[*];done),by repeat(first|exact Drawn0.refl _|apply Drawn0.step)⟩)
 rw[if_neg c]at H
 have c2b0:(a0==1)=false:=zN c
 have c2b1:(a0 !=1)=true:=zX c
 replace H:=Option.bind_eq_some_iff.mp H
 obtain⟨⟨v,b⟩,t,H⟩:=H
 replace H:(spec_l11Form.l0 k b 0 (⟨#[]⟩:ByteArray) 0)=some (r1,r2):=H
 have x:=zM t
 clear t
 have H':=zM H
 clear H
 go_enter Try.func87,Try.ntmps87
 go_wp2_with (first|((with_reducible refine gate_callee (f:=95) rfl ?_);refine sC (some 13) Try.func95 #[.int .i64 a0] (spec_l11Word.calls a0 v b _ x.out) ?_;rintro e w' ⟨rfl,⟨nd,rfl⟩⟩;refine⟨_,rfl,?_⟩))
 go_loopg [6,7,8] k (fun kq y z A w'=>∃(l:Int) (d:ByteArray) (a:Int),y= .int .i64 l∧z= .string d∧A= .int .i64 a∧Aside0 (spec_l11Form.l0 kq b l d a=some (r1,r2))∧Aside0 (kq≤k)∧Drawn0 w w')
 case atStart=>exact⟨(0),((⟨#[]⟩:ByteArray)),(0),sr,sr,sr,H',⟨Nat.le_refl _⟩,by repeat(first|exact Drawn0.refl _|apply Drawn0.step)⟩
 case round=>(
 clear H'
 try clear c
 try clear c2b0
 try clear c2b1
 obtain⟨l,d,a,rfl,rfl,rfl,HA,o,⟨C,rfl⟩⟩:=hrel
 cases gk with
 |zero=>exact absurd HA.out (by simp[spec_l11Form.l0])
 |succ k1=>(
 have H:=HA.out
 clear HA
 simp only[spec_l11Form.l0]at H
 by_cases i:a<(b.size:Int)
 ·(
 rw[if_pos i]at H
 have c4b0:=zT i
 clear i
 by_cases p:0≤a
 ·(
 rw[if_pos p]at H
 have c5b0:=zT p
 clear p
 by_cases g:(bt b a)=112
 ·(
 rw[if_pos g]at H
 have c7b0:((bt b a)==112)=true:=zE g
 have c7b1:((bt b a) !=112)=false:=zY g
 clear g
 have H':=zM H
 clear H
 have m:0≤(a:Int):=zzA
 have n:a<(b.size:Int):=zzA
 have B:=bt_at b a
 replace m:=eq_true m
 replace n:=eq_true n
 go_wp2
 go_roundg k1
 case measure=>have:=o.out;omega
 case rel=>exact⟨(wrap64 (l+1)),(d),(wrap64 (a+1)),sr,sr,sr,H',⟨by have:=o.out;omega⟩,by repeat(first|exact Drawn0.refl _|apply Drawn0.step)⟩)
 rw[if_neg g]at H
 have c7b0:((bt b a)==112)=false:=zN g
 have c7b1:((bt b a) !=112)=true:=zX g
 have c8b0:=eq_true (zzA:0≤a)
 by_cases q:a≤(wrap64 (a+1))
 ·(
 rw[if_pos q]at H
 have c9b0:=eq_true q
 have c9b1:=zT q
 by_cases s:(wrap64 (a+1))≤(b.size:Int)
 ·(
 rw[if_pos s]at H
 have c10b0:=eq_true s
 have c10b1:=zT s
 by_cases j:d.size+((b.extract (a:Int).toNat ((wrap64 (a+1)):Int).toNat).size)≤9223372036854775807
 ·(
 rw[if_pos j]at H
 have c11b0:=eq_true j
 have c11b1:=zT j
 try have c11b2:(9223372036854775807<d.size+((b.extract (a:Int).toNat ((wrap64 (a+1)):Int).toNat).size))=False:=eq_false (Nat.not_lt.2 j)
 try(have c11x:=j;simp only[ByteArray.size_extract]at c11x;have c11b3:=eq_true c11x;have c11b4:=zT c11x;have c11b5:=eq_false (Nat.not_lt.2 c11x))
 have H':=zM H
 clear H
 have m:0≤(a:Int):=zzA
 have n:a<(b.size:Int):=zzA
 have B:=bt_at b a
 replace m:=eq_true m
 replace n:=eq_true n
 go_wp2
 go_roundg k1
 case measure=>have:=o.out;omega
 case rel=>exact⟨(l),(d++(b.extract (a:Int).toNat ((wrap64 (a+1)):Int).toNat)),(wrap64 (a+1)),sr,sr,sr,H',⟨by have:=o.out;omega⟩,by repeat(first|exact Drawn0.refl _|apply Drawn0.step)⟩)
 rw[if_neg j]at H
 exact absurd H (by simp))
 rw[if_neg s]at H
 exact absurd H (by simp))
 rw[if_neg q]at H
 exact absurd H (by simp))
 rw[if_neg p]at H
 exact absurd H (by simp))
 rw[if_neg i]at H
 have c4b0:=zF i
 clear i
 simp only[Option.some.injEq,Prod.mk.injEq]at H
 obtain⟨rfl,rfl⟩:=H
 go_wp2
 go_ret2
 exact⟨by first|rfl|(simp;done)|(simp[*];done),by repeat(first|exact Drawn0.refl _|apply Drawn0.step)⟩))
end Go.Proofs.Ytdihlgkcpooadaa.PFnExactIsPure
