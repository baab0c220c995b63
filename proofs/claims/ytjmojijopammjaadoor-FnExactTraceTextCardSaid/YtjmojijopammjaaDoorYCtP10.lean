/- Printed functions: spec_QuoteText, spec_DataType, spec_ValueText. -/
import Derived.Test.YtjmojijopammjaaDoorYCtP0
import Derived.Test.YtjmojijopammjaaDoorYCtP8
import Derived.Test.YtjmojijopammjaaDoorYCtP9
namespace Go.Proofs.YtjmojijopammjaaDoor.PFnExactCaptureText
open Go.RowKit Go.Proofs.YtjmojijopammjaaDoorG Go.Proofs.YtjmojijopammjaaDoorW.PrintWords Go.Proofs.YtjmojijopammjaaDoorW.PrintLast Go.Proofs.YtjmojijopammjaaDoorW.PrintMore
attribute [local go_sem] max2_int min2_int max_two min_two max_three min_three max_four min_four
set_option linter.unusedVariables false
set_option linter.unusedSimpArgs false
def spec_QuoteText.l0 : Nat → ByteArray → ByteArray → Int → Option (ByteArray)
 |0,_,_,_=>none
 |k+1,x0,x3,x4=>if x4<(x0.size:Int)then(if 0≤x4 then(if(bt x0 x4)=34 then(if x3.size+1≤9223372036854775807 then(if x4≤(wrap64 (x4+1))then(if(wrap64 (x4+1))≤(x0.size:Int)then(if x3.size+1+((x0.extract (x4:Int).toNat ((wrap64 (x4+1)):Int).toNat).size)≤9223372036854775807 then(spec_QuoteText.l0 k x0 ((x3++(⟨#[34]⟩:ByteArray))++(x0.extract (x4:Int).toNat ((wrap64 (x4+1)):Int).toNat)) (wrap64 (x4+1)))else(none))else(none))else(none))else(none))else(if x4≤(wrap64 (x4+1))then(if(wrap64 (x4+1))≤(x0.size:Int)then(if x3.size+((x0.extract (x4:Int).toNat ((wrap64 (x4+1)):Int).toNat).size)≤9223372036854775807 then(spec_QuoteText.l0 k x0 (x3++(x0.extract (x4:Int).toNat ((wrap64 (x4+1)):Int).toNat)) (wrap64 (x4+1)))else(none))else(none))else(none)))else(none))else(if x3.size+1≤9223372036854775807 then(some (x3++(⟨#[34]⟩:ByteArray)))else(none))
def spec_QuoteText.f (k:Nat) (a0:ByteArray):Option (ByteArray):=spec_QuoteText.l0 k a0 (⟨#[34]⟩:ByteArray) 0
set_option maxHeartbeats 8000000 in
set_option maxRecDepth 100000 in
theorem spec_QuoteText.calls (k:Nat) (a0:ByteArray) (r:ByteArray) (w:World) (h:spec_QuoteText.f k a0=some r):
  Calls Tryd.prog 90 #[.string a0] w fun e w'=>e= .returned (.string r)∧Drawn0 w w':=by
 have H:(spec_QuoteText.l0 k a0 (⟨#[34]⟩:ByteArray) 0)=some r:=h
 clear h
 have H':=zM H
 clear H
 go_enter Tryd.func90,Tryd.ntmps90
 go_wp2
 go_loopg [3,4] k (fun kq A B w'=>∃(b:ByteArray) (a:Int),A= .string b∧B= .int .i64 a∧Aside0 (spec_QuoteText.l0 kq a0 b a=some r)∧Aside0 (kq≤k)∧Drawn0 w w')
 case atStart=>exact⟨((⟨#[34]⟩:ByteArray)),(0),sr,sr,H',⟨Nat.le_refl _⟩,by repeat(first|exact Drawn0.refl _|apply Drawn0.step)⟩
 case round=>(
 clear H'
 obtain⟨b,a,rfl,rfl,HA,q,⟨D,rfl⟩⟩:=hrel
 cases gk with
 |zero=>exact absurd HA.out (by simp[spec_QuoteText.l0])
 |succ k1=>(
 have H:=HA.out
 clear HA
 simp only[spec_QuoteText.l0]at H
 by_cases d:a<(a0.size:Int)
 ·(
 rw[if_pos d]at H
 have c2b0:=zT d
 clear d
 by_cases s:0≤a
 ·(
 rw[if_pos s]at H
 have c3b0:=zT s
 clear s
 by_cases c:(bt a0 a)=34
 ·(
 rw[if_pos c]at H
 have c5b0:((bt a0 a)==34)=true:=zE c
 have c5b1:((bt a0 a) !=34)=false:=zY c
 clear c
 by_cases l:b.size+1≤9223372036854775807
 ·(
 rw[if_pos l]at H
 have c6b0:=eq_true l
 have c6b1:=zT l
 try have c6b2:(9223372036854775807<b.size+1)=False:=eq_false (Nat.not_lt.2 l)
 have c7b0:=eq_true (zzA:0≤a)
 by_cases u:a≤(wrap64 (a+1))
 ·(
 rw[if_pos u]at H
 have c8b0:=eq_true u
 have c8b1:=zT u
 by_cases x:(wrap64 (a+1))≤(a0.size:Int)
 ·(
 rw[if_pos x]at H
 have c9b0:=eq_true x
 have c9b1:=zT x
 by_cases g:b.size+1+((a0.extract (a:Int).toNat ((wrap64 (a+1)):Int).toNat).size)≤9223372036854775807
 ·(
 rw[if_pos g]at H
 have c10b0:=eq_true g
 have c10b1:=zT g
 try have c10b2:(9223372036854775807<b.size+1+((a0.extract (a:Int).toNat ((wrap64 (a+1)):Int).toNat).size))=False:=eq_false (Nat.not_lt.2 g)
 try(have c10x:=g;simp only[ByteArray.size_extract]at c10x;have c10b3:=eq_true c10x;have c10b4:=zT c10x;have c10b5:=eq_false (Nat.not_lt.2 c10x))
 have H':=zM H
 clear H
 have m:0≤(a:Int):=zzA
 have o:a<(a0.size:Int):=zzA
 have C:=bt_at a0 a
 replace m:=eq_true m
 replace o:=eq_true o
 go_wp2
 go_roundg k1
 case measure=>have:=q.out;omega
 case rel=>exact⟨((b++(⟨#[34]⟩:ByteArray))++(a0.extract (a:Int).toNat ((wrap64 (a+1)):Int).toNat)),(wrap64 (a+1)),sr,sr,H',⟨by have:=q.out;omega⟩,by repeat(first|exact Drawn0.refl _|apply Drawn0.step)⟩)
 rw[if_neg g]at H
 exact absurd H (by simp))
 rw[if_neg x]at H
 exact absurd H (by simp))
 rw[if_neg u]at H
 exact absurd H (by simp))
 rw[if_neg l]at H
 exact absurd H (by simp))
 rw[if_neg c]at H
 have c5b0:((bt a0 a)==34)=false:=zN c
 have c5b1:((bt a0 a) !=34)=true:=zX c
 have c11b0:=eq_true (zzA:0≤a)
 by_cases y:a≤(wrap64 (a+1))
 ·(
 rw[if_pos y]at H
 have c12b0:=eq_true y
 have c12b1:=zT y
 by_cases z:(wrap64 (a+1))≤(a0.size:Int)
 ·(
 rw[if_pos z]at H
 have c13b0:=eq_true z
 have c13b1:=zT z
 by_cases j:b.size+((a0.extract (a:Int).toNat ((wrap64 (a+1)):Int).toNat).size)≤9223372036854775807
 ·(
 rw[if_pos j]at H
 have c14b0:=eq_true j
 have c14b1:=zT j
 try have c14b2:(9223372036854775807<b.size+((a0.extract (a:Int).toNat ((wrap64 (a+1)):Int).toNat).size))=False:=eq_false (Nat.not_lt.2 j)
 try(have c14x:=j;simp only[ByteArray.size_extract]at c14x;have c14b3:=eq_true c14x;have c14b4:=zT c14x;have c14b5:=eq_false (Nat.not_lt.2 c14x))
 have H':=zM H
 clear H
 have m:0≤(a:Int):=zzA
 have o:a<(a0.size:Int):=zzA
 have C:=bt_at a0 a
 replace m:=eq_true m
 replace o:=eq_true o
 go_wp2
 go_roundg k1
 case measure=>have:=q.out;omega
 case rel=>exact⟨(b++(a0.extract (a:Int).toNat ((wrap64 (a+1)):Int).toNat)),(wrap64 (a+1)),sr,sr,H',⟨by have:=q.out;omega⟩,by repeat(first|exact Drawn0.refl _|apply Drawn0.step)⟩)
 rw[if_neg j]at H
 exact absurd H (by simp))
 rw[if_neg z]at H
 exact absurd H (by simp))
 rw[if_neg y]at H
 exact absurd H (by simp))
 rw[if_neg s]at H
 exact absurd H (by simp))
 rw[if_neg d]at H
 have c2b0:=zF d
 clear d
 by_cases p:b.size+1≤9223372036854775807
 ·(
 rw[if_pos p]at H
 have c15b0:=eq_true p
 have c15b1:=zT p
 try have c15b2:(9223372036854775807<b.size+1)=False:=eq_false (Nat.not_lt.2 p)
 obtain rfl:=zI H
 go_wp2
 go_ret
 exact⟨by first|rfl|(simp;done)|(simp[*];done),by repeat(first|exact Drawn0.refl _|apply Drawn0.step)⟩)
 rw[if_neg p]at H
 exact absurd H (by simp)))
def spec_DataType.f (k:Nat) (a0_0:Int) (a0_1:Int) (a0_2:ByteArray) (a0_3:Int):Option (ByteArray):=(spec_ValidValue.f k a0_0 a0_1 a0_2 a0_3).bind fun t200=>(if t200=true then((some (([(⟨#[115,116,114,105,110,103]⟩:ByteArray),(⟨#[105,110,116,101,103,101,114]⟩:ByteArray),(⟨#[112,97,116,116,101,114,110]⟩:ByteArray),(⟨#[97,114,114,97,121]⟩:ByteArray),(⟨#[116,97,98,108,101]⟩:ByteArray),(⟨#[114,101,99,111,114,100]⟩:ByteArray),(⟨#[110,97,109,101]⟩:ByteArray),(⟨#[101,120,112,114,101,115,115,105,111,110]⟩:ByteArray)]:List ByteArray):List ByteArray)).bind fun y201=>(if 0≤(wrap64 (a0_0- 1))then(if(wrap64 (a0_0- 1))<(y201.length:Int)then(some (rdOf ByteArray.empty y201 (wrap64 (a0_0- 1))))else(none))else(none)))else(some (⟨#[]⟩:ByteArray)))
set_option maxHeartbeats 8000000 in
set_option maxRecDepth 100000 in
theorem spec_DataType.calls (k:Nat) (a0_0:Int) (a0_1:Int) (a0_2:ByteArray) (a0_3:Int) (r:ByteArray) (w:World) (h:spec_DataType.f k a0_0 a0_1 a0_2 a0_3=some r):
  Calls Tryd.prog 91 #[.agg #[.int .i64 a0_0,.int .i64 a0_1,.string a0_2,.int .i64 a0_3]] w fun e w'=>e= .returned (.string r)∧Below w.heap.size w w':=by
 have F:=Tryd.underlying40
 have HB:=zM (Below.refl w.heap.size w)
 have H:((spec_ValidValue.f k a0_0 a0_1 a0_2 a0_3).bind fun l=>(if l=true then((some (([(⟨#[115,116,114,105,110,103]⟩:ByteArray),(⟨#[105,110,116,101,103,101,114]⟩:ByteArray),(⟨#[112,97,116,116,101,114,110]⟩:ByteArray),(⟨#[97,114,114,97,121]⟩:ByteArray),(⟨#[116,97,98,108,101]⟩:ByteArray),(⟨#[114,101,99,111,114,100]⟩:ByteArray),(⟨#[110,97,109,101]⟩:ByteArray),(⟨#[101,120,112,114,101,115,115,105,111,110]⟩:ByteArray)]:List ByteArray):List ByteArray)).bind fun b=>(if 0≤(wrap64 (a0_0- 1))then(if(wrap64 (a0_0- 1))<(b.length:Int)then(some (rdOf ByteArray.empty b (wrap64 (a0_0- 1))))else(none))else(none)))else(some (⟨#[]⟩:ByteArray))))=some r:=h
 clear h
 obtain⟨l,m,H⟩:=sO H
 by_cases d:l=true
 ·(
 subst d
 rewrite[if_pos rfl]at H
 obtain⟨b,hy201⟩:∃y:List ByteArray,y=(([(⟨#[115,116,114,105,110,103]⟩:ByteArray),(⟨#[105,110,116,101,103,101,114]⟩:ByteArray),(⟨#[112,97,116,116,101,114,110]⟩:ByteArray),(⟨#[97,114,114,97,121]⟩:ByteArray),(⟨#[116,97,98,108,101]⟩:ByteArray),(⟨#[114,101,99,111,114,100]⟩:ByteArray),(⟨#[110,97,109,101]⟩:ByteArray),(⟨#[101,120,112,114,101,115,115,105,111,110]⟩:ByteArray)]:List ByteArray)):=⟨_,rfl⟩
 replace H:(if 0≤(wrap64 (a0_0- 1))then(if(wrap64 (a0_0- 1))<(b.length:Int)then(some (rdOf ByteArray.empty b (wrap64 (a0_0- 1))))else(none))else(none))=some r:=by first|(rw[hy201];with_reducible exact H)|(have o:=(Option.bind_some _ _).symm.trans H;rw[hy201];with_reducible exact o)|(have o:=(Option.bind_some _ _).symm.trans H;with_reducible exact o)|with_reducible exact H|(rw[hy201];exact H)|exact H
 have s:=zM hy201
 clear hy201
 obtain⟨ji4,hji4⟩:∃j_:Int,(wrap64 (a0_0- 1))=j_:=⟨_,rfl⟩
 replace H:(if 0≤(ji4)then(if(ji4)<(b.length:Int)then(some (rdOf ByteArray.empty b (ji4)))else(none))else(none))=some r:=by first|(rw[hji4]at H;exact H)|(simp only[hji4]at H ⊢;exact H)
 (try rw[hji4]at m)
 have hji4w:(IntKind.i64.wrap (a0_0- 1))=ji4:=(i64_w _).trans hji4
 by_cases g:0≤(ji4)
 ·(
 rw[if_pos g]at H
 have c5b0:=zT g
 clear g
 by_cases j:(ji4)<(b.length:Int)
 ·(
 rw[if_pos j]at H
 have c6b0:=zT j
 clear j
 obtain rfl:=zI H
 go_enter Tryd.func91,Tryd.ntmps91
 go_wp2_with (first|((with_reducible refine gate_dst (N:=1) rfl ?_);refine sV (N:=1) (cs:= #[.int .i64 a0_0,.int .i64 a0_1,.string a0_2,.int .i64 a0_3]) (t:=40) ?_;intro z hg G hbox hb;have a:=zM (hbox);have A:=sG HB hg;have u:=sG HB hg;replace HB:=sB HB hb;clear hb hbox hg;obtain⟨I,J,L,O,P,Q,R,T⟩:=cells4 a.out)|((with_reducible refine gate_callee (f:=51) rfl ?_);refine sC (some 4) Tryd.func51 #[.agg #[.int .i64 a0_0,.int .i64 a0_1,.string a0_2,.int .i64 a0_3]] (spec_ValidValue.calls k a0_0 a0_1 a0_2 a0_3 true _ m.out) ?_;rintro e U ⟨rfl,hb⟩;refine⟨_,rfl,?_⟩;replace a:=sK a hb;replace HB:=sB HB hb;(try clear hb))|((with_reducible refine gate_dst (N:=6) rfl ?_);refine Kd.R_lit Kd.string _ 9 ?hg (N:=6) ?hd (xs:=([(⟨#[115,116,114,105,110,103]⟩:ByteArray),(⟨#[105,110,116,101,103,101,114]⟩:ByteArray),(⟨#[112,97,116,116,101,114,110]⟩:ByteArray),(⟨#[97,114,114,97,121]⟩:ByteArray),(⟨#[116,97,98,108,101]⟩:ByteArray),(⟨#[114,101,99,111,114,100]⟩:ByteArray),(⟨#[110,97,109,101]⟩:ByteArray),(⟨#[101,120,112,114,101,115,115,105,111,110]⟩:ByteArray)]:List ByteArray)) (inner:=[.string (⟨#[115,116,114,105,110,103]⟩:ByteArray),.string (⟨#[105,110,116,101,103,101,114]⟩:ByteArray),.string (⟨#[112,97,116,116,101,114,110]⟩:ByteArray),.string (⟨#[97,114,114,97,121]⟩:ByteArray),.string (⟨#[116,97,98,108,101]⟩:ByteArray),.string (⟨#[114,101,99,111,114,100]⟩:ByteArray),.string (⟨#[110,97,109,101]⟩:ByteArray),.string (⟨#[101,120,112,114,101,115,115,105,111,110]⟩:ByteArray)]) (ok:=fun _=>True) (okp:=fun _=>True) ?hr ?hp (fun _ hk=>hk) trivial (Below.refl _ _) (Nat.le_refl _) (by simp) ?_;(case hd=>rfl);(case hg=>rfl);(case hr=>first|(go_simp;done)|(go_simp;rfl));(case hp=>exact(Reps.one (show Kd.M Kd.string _ _ _ (⟨#[115,116,114,105,110,103]⟩:ByteArray) [.string (⟨#[115,116,114,105,110,103]⟩:ByteArray)] from rfl) (Reps.one (show Kd.M Kd.string _ _ _ (⟨#[105,110,116,101,103,101,114]⟩:ByteArray) [.string (⟨#[105,110,116,101,103,101,114]⟩:ByteArray)] from rfl) (Reps.one (show Kd.M Kd.string _ _ _ (⟨#[112,97,116,116,101,114,110]⟩:ByteArray) [.string (⟨#[112,97,116,116,101,114,110]⟩:ByteArray)] from rfl) (Reps.one (show Kd.M Kd.string _ _ _ (⟨#[97,114,114,97,121]⟩:ByteArray) [.string (⟨#[97,114,114,97,121]⟩:ByteArray)] from rfl) (Reps.one (show Kd.M Kd.string _ _ _ (⟨#[116,97,98,108,101]⟩:ByteArray) [.string (⟨#[116,97,98,108,101]⟩:ByteArray)] from rfl) (Reps.one (show Kd.M Kd.string _ _ _ (⟨#[114,101,99,111,114,100]⟩:ByteArray) [.string (⟨#[114,101,99,111,114,100]⟩:ByteArray)] from rfl) (Reps.one (show Kd.M Kd.string _ _ _ (⟨#[110,97,109,101]⟩:ByteArray) [.string (⟨#[110,97,109,101]⟩:ByteArray)] from rfl) (Reps.one (show Kd.M Kd.string _ _ _ (⟨#[101,120,112,114,101,115,115,105,111,110]⟩:ByteArray) [.string (⟨#[101,120,112,114,101,115,115,105,111,110]⟩:ByteArray)] from rfl) (Reps.none _ _))))))))));intro V W c hb B C;clear B C;(first|rw[←s.out]at c|(simp only[Int.reduceToNat]at c;rw[←s.out]at c));have x:=zM (Kd.R_lower c (below_size zzR));replace a:=sK a hb;replace HB:=sB HB hb;clear hb c;obtain⟨X,Y,Z,aa,ab,ac,ad,ae⟩:=cells4 a.out;obtain⟨af,ag,D⟩:=Kd.R_slice x.out;subst D;have p:0≤((ji4):Int):=zzA;have q:(ji4)<(b.length:Int):=zzA;obtain⟨ah,E,ai⟩:=Kd.at_string (Kd.R_reads' x.out).2.2 (ji4) p q;cases E;replace p:=eq_true p;replace q:=eq_true q))
 go_ret
 exact⟨by first|rfl|(simp[errW_none,errW_some]<;>rfl)|(simp only[←hji4];first|rfl|(simp[errW_none,errW_some]<;>rfl))|(simp[*,errW_none,errW_some]<;>rfl),sb⟩)
 rw[if_neg j]at H
 exact absurd H (by simp))
 rw[if_neg g]at H
 exact absurd H (by simp))
 replace d:=zB d
 subst d
 rewrite[if_neg zQ]at H
 obtain rfl:=zI H
 go_enter Tryd.func91,Tryd.ntmps91
 go_wp2_with (first|((with_reducible refine gate_dst (N:=1) rfl ?_);refine sV (N:=1) (cs:= #[.int .i64 a0_0,.int .i64 a0_1,.string a0_2,.int .i64 a0_3]) (t:=40) ?_;intro z hg aj hbox hb;have a:=zM (hbox);have A:=sG HB hg;have u:=sG HB hg;replace HB:=sB HB hb;clear hb hbox hg;obtain⟨ak,al,am,an,ao,ap,aq,ar⟩:=cells4 a.out)|((with_reducible refine gate_callee (f:=51) rfl ?_);refine sC (some 4) Tryd.func51 #[.agg #[.int .i64 a0_0,.int .i64 a0_1,.string a0_2,.int .i64 a0_3]] (spec_ValidValue.calls k a0_0 a0_1 a0_2 a0_3 false _ m.out) ?_;rintro e au ⟨rfl,hb⟩;refine⟨_,rfl,?_⟩;replace a:=sK a hb;replace HB:=sB HB hb;(try clear hb)))
 go_ret
 exact⟨sq,sb⟩
def spec_ValueText.f (k:Nat) (a0_0:Int) (a0_1:Int) (a0_2:ByteArray) (a0_3:Int):Option (ByteArray):=(spec_ValidValue.f k a0_0 a0_1 a0_2 a0_3).bind fun t206=>(if t206=true then(if a0_0=1 then((spec_QuoteText.f k a0_2).bind fun t207=>(some t207))else(if a0_0=2 then((spec_l06Digits.f k a0_1).bind fun t208=>(some t208))else(if a0_0=3 then(if 1+a0_2.size≤9223372036854775807 then(if 1+a0_2.size+1≤9223372036854775807 then(some (((⟨#[60]⟩:ByteArray)++a0_2)++(⟨#[62]⟩:ByteArray)))else(none))else(none))else(if a0_0=7 then(if 1+a0_2.size≤9223372036854775807 then(some ((⟨#[46]⟩:ByteArray)++a0_2))else(none))else(if a0_0=8 then(if 1+a0_2.size≤9223372036854775807 then(some ((⟨#[42]⟩:ByteArray)++a0_2))else(none))else((spec_DataType.f k a0_0 a0_1 a0_2 a0_3).bind fun t209=>(if t209.size+1≤9223372036854775807 then((spec_l06Digits.f k a0_3).bind fun t210=>(if t209.size+1+t210.size≤9223372036854775807 then(some ((t209++(⟨#[35]⟩:ByteArray))++t210))else(none)))else(none))))))))else(some (⟨#[]⟩:ByteArray)))
def spec_ValueText.T14:Bool×List (List Nat×List Nat):=(true,[([],[]),([0],[0]),([1],[1]),([],[]),([3],[3]),([4,1],[4]),([2,5],[2,5]),([6,5,0,1,2,3,4,5,6],[6])])
def spec_ValueText.B14:List Nat:=[0,1,3,0,8,27,63,127]
theorem spec_ValueText.tab14:rtab .any (opsOf Tryd.f53 14)=spec_ValueText.T14:=by kernel_rfl
theorem spec_ValueText.bits14:waitsOk spec_ValueText.T14.2 spec_ValueText.B14=true:=by kernel_rfl
set_option maxHeartbeats 8000000 in
set_option maxRecDepth 100000 in
theorem spec_ValueText.calls (k:Nat) (a0_0:Int) (a0_1:Int) (a0_2:ByteArray) (a0_3:Int) (r:ByteArray) (w:World) (h:spec_ValueText.f k a0_0 a0_1 a0_2 a0_3=some r):
  Calls Tryd.prog 53 #[.agg #[.int .i64 a0_0,.int .i64 a0_1,.string a0_2,.int .i64 a0_3]] w fun e w'=>e= .returned (.string r)∧Below w.heap.size w w':=by
 have W:=Tryd.underlying40
 have HB:=zM (Below.refl w.heap.size w)
 have H:((spec_ValidValue.f k a0_0 a0_1 a0_2 a0_3).bind fun E=>(if E=true then(if a0_0=1 then((spec_QuoteText.f k a0_2).bind fun F=>(some F))else(if a0_0=2 then((spec_l06Digits.f k a0_1).bind fun G=>(some G))else(if a0_0=3 then(if 1+a0_2.size≤9223372036854775807 then(if 1+a0_2.size+1≤9223372036854775807 then(some (((⟨#[60]⟩:ByteArray)++a0_2)++(⟨#[62]⟩:ByteArray)))else(none))else(none))else(if a0_0=7 then(if 1+a0_2.size≤9223372036854775807 then(some ((⟨#[46]⟩:ByteArray)++a0_2))else(none))else(if a0_0=8 then(if 1+a0_2.size≤9223372036854775807 then(some ((⟨#[42]⟩:ByteArray)++a0_2))else(none))else((spec_DataType.f k a0_0 a0_1 a0_2 a0_3).bind fun c=>(if c.size+1≤9223372036854775807 then((spec_l06Digits.f k a0_3).bind fun q=>(if c.size+1+q.size≤9223372036854775807 then(some ((c++(⟨#[35]⟩:ByteArray))++q))else(none)))else(none))))))))else(some (⟨#[]⟩:ByteArray))))=some r:=h
 clear h
 obtain⟨E,g,H⟩:=sO H
 by_cases D:E=true
 ·(
 subst D
 rewrite[if_pos rfl]at H
 by_cases j:a0_0=1
 ·(
 rw[if_pos j]at H
 have c4b0:(a0_0==1)=true:=zE j
 have c4b1:(a0_0 !=1)=false:=zY j
 clear j
 obtain⟨F,J,H⟩:=sO H
 obtain rfl:=zI H
 go_enter Tryd.func53,Tryd.ntmps53
 go_wp2_with (first|((with_reducible refine gate_dst (N:=1) rfl ?_);refine sV (N:=1) (cs:= #[.int .i64 a0_0,.int .i64 a0_1,.string a0_2,.int .i64 a0_3]) (t:=40) ?_;intro b hg X hbox hb;have a:=zM (hbox);have s:=sG HB hg;have u:=sG HB hg;replace HB:=sB HB hb;clear hb hbox hg;obtain⟨Y,Z,aa,ab,ac,ad,ae,af⟩:=cells4 a.out)|((with_reducible refine gate_callee (f:=51) rfl ?_);refine sC (some 4) Tryd.func51 #[.agg #[.int .i64 a0_0,.int .i64 a0_1,.string a0_2,.int .i64 a0_3]] (spec_ValidValue.calls k a0_0 a0_1 a0_2 a0_3 true _ g.out) ?_;rintro e w8 ⟨rfl,hb⟩;refine⟨_,rfl,?_⟩;replace a:=sK a hb;replace HB:=sB HB hb;(try clear hb);obtain⟨ag,ah,ai,aj,ak,al,am,an⟩:=cells4 a.out)|((with_reducible refine gate_callee (f:=90) rfl ?_);refine sC (some 12) Tryd.func90 #[.string a0_2] (spec_QuoteText.calls k a0_2 F _ J.out) ?_;rintro e w' ⟨rfl,⟨nd,rfl⟩⟩;refine⟨_,rfl,?_⟩))
 go_ret
 exact⟨sq,sb⟩)
 rw[if_neg j]at H
 have c4b0:(a0_0==1)=false:=zN j
 have c4b1:(a0_0 !=1)=true:=zX j
 by_cases l:a0_0=2
 ·(
 rw[if_pos l]at H
 have c10b0:(a0_0==2)=true:=zE l
 have c10b1:(a0_0 !=2)=false:=zY l
 clear l
 obtain⟨G,L,H⟩:=sO H
 obtain rfl:=zI H
 go_enter Tryd.func53,Tryd.ntmps53
 go_wp2_with (first|((with_reducible refine gate_dst (N:=1) rfl ?_);refine sV (N:=1) (cs:= #[.int .i64 a0_0,.int .i64 a0_1,.string a0_2,.int .i64 a0_3]) (t:=40) ?_;intro b hg ao hbox hb;have a:=zM (hbox);have s:=sG HB hg;have u:=sG HB hg;replace HB:=sB HB hb;clear hb hbox hg;obtain⟨ap,aq,ar,au,av,aw,ax,ay⟩:=cells4 a.out)|((with_reducible refine gate_callee (f:=51) rfl ?_);refine sC (some 4) Tryd.func51 #[.agg #[.int .i64 a0_0,.int .i64 a0_1,.string a0_2,.int .i64 a0_3]] (spec_ValidValue.calls k a0_0 a0_1 a0_2 a0_3 true _ g.out) ?_;rintro e az ⟨rfl,hb⟩;refine⟨_,rfl,?_⟩;replace a:=sK a hb;replace HB:=sB HB hb;(try clear hb);obtain⟨aA,aB,aC,aD,aE,aF,aG,aH⟩:=cells4 a.out)|((with_reducible refine gate_callee (f:=52) rfl ?_);refine sC (some 17) Tryd.func52 #[.int .i64 a0_1] (spec_l06Digits.calls k a0_1 G _ L.out) ?_;rintro e aI ⟨rfl,hb⟩;refine⟨_,rfl,?_⟩;replace a:=sK a hb;replace HB:=sB HB hb;(try clear hb)))
 go_ret
 exact⟨sq,sb⟩)
 rw[if_neg l]at H
 have c10b0:(a0_0==2)=false:=zN l
 have c10b1:(a0_0 !=2)=true:=zX l
 by_cases m:a0_0=3
 ·(
 rw[if_pos m]at H
 have c17b0:(a0_0==3)=true:=zE m
 have c17b1:(a0_0 !=3)=false:=zY m
 clear m
 by_cases x:1+a0_2.size≤9223372036854775807
 ·(
 rw[if_pos x]at H
 have c18b0:=eq_true x
 have c18b1:=zT x
 try have c18b2:(9223372036854775807<1+a0_2.size)=False:=eq_false (Nat.not_lt.2 x)
 by_cases y:1+a0_2.size+1≤9223372036854775807
 ·(
 rw[if_pos y]at H
 have c19b0:=eq_true y
 have c19b1:=zT y
 try have c19b2:(9223372036854775807<1+a0_2.size+1)=False:=eq_false (Nat.not_lt.2 y)
 obtain rfl:=zI H
 go_enter Tryd.func53,Tryd.ntmps53
 go_wp2_with (first|((with_reducible refine gate_dst (N:=1) rfl ?_);refine sV (N:=1) (cs:= #[.int .i64 a0_0,.int .i64 a0_1,.string a0_2,.int .i64 a0_3]) (t:=40) ?_;intro b hg aJ hbox hb;have a:=zM (hbox);have s:=sG HB hg;have u:=sG HB hg;replace HB:=sB HB hb;clear hb hbox hg;obtain⟨aK,aL,aM,aN,aO,aP,aQ,aR⟩:=cells4 a.out)|((with_reducible refine gate_callee (f:=51) rfl ?_);refine sC (some 4) Tryd.func51 #[.agg #[.int .i64 a0_0,.int .i64 a0_1,.string a0_2,.int .i64 a0_3]] (spec_ValidValue.calls k a0_0 a0_1 a0_2 a0_3 true _ g.out) ?_;rintro e aS ⟨rfl,hb⟩;refine⟨_,rfl,?_⟩;replace a:=sK a hb;replace HB:=sB HB hb;(try clear hb);obtain⟨aT,aU,aV,aW,aX,aY,aZ,a1⟩:=cells4 a.out))
 go_ret
 exact⟨sq,sb⟩)
 rw[if_neg y]at H
 exact absurd H (by simp))
 rw[if_neg x]at H
 exact absurd H (by simp))
 rw[if_neg m]at H
 have c17b0:(a0_0==3)=false:=zN m
 have c17b1:(a0_0 !=3)=true:=zX m
 by_cases o:a0_0=7
 ·(
 rw[if_pos o]at H
 have c24b0:(a0_0==7)=true:=zE o
 have c24b1:(a0_0 !=7)=false:=zY o
 clear o
 by_cases z:1+a0_2.size≤9223372036854775807
 ·(
 rw[if_pos z]at H
 have c25b0:=eq_true z
 have c25b1:=zT z
 try have c25b2:(9223372036854775807<1+a0_2.size)=False:=eq_false (Nat.not_lt.2 z)
 obtain rfl:=zI H
 go_enter Tryd.func53,Tryd.ntmps53
 go_wp2_with (first|((with_reducible refine gate_dst (N:=1) rfl ?_);refine sV (N:=1) (cs:= #[.int .i64 a0_0,.int .i64 a0_1,.string a0_2,.int .i64 a0_3]) (t:=40) ?_;intro b hg a2 hbox hb;have a:=zM (hbox);have s:=sG HB hg;have u:=sG HB hg;replace HB:=sB HB hb;clear hb hbox hg;obtain⟨a3,a4,a5,a6,a7,a8,a9,ba⟩:=cells4 a.out)|((with_reducible refine gate_callee (f:=51) rfl ?_);refine sC (some 4) Tryd.func51 #[.agg #[.int .i64 a0_0,.int .i64 a0_1,.string a0_2,.int .i64 a0_3]] (spec_ValidValue.calls k a0_0 a0_1 a0_2 a0_3 true _ g.out) ?_;rintro e bb ⟨rfl,hb⟩;refine⟨_,rfl,?_⟩;replace a:=sK a hb;replace HB:=sB HB hb;(try clear hb);obtain⟨bc,bd,be,bf,bg,bh,bi,bj⟩:=cells4 a.out))
 go_ret
 exact⟨sq,sb⟩)
 rw[if_neg z]at H
 exact absurd H (by simp))
 rw[if_neg o]at H
 have c24b0:(a0_0==7)=false:=zN o
 have c24b1:(a0_0 !=7)=true:=zX o
 by_cases p:a0_0=8
 ·(
 rw[if_pos p]at H
 have c30b0:(a0_0==8)=true:=zE p
 have c30b1:(a0_0 !=8)=false:=zY p
 clear p
 by_cases A:1+a0_2.size≤9223372036854775807
 ·(
 rw[if_pos A]at H
 have c31b0:=eq_true A
 have c31b1:=zT A
 try have c31b2:(9223372036854775807<1+a0_2.size)=False:=eq_false (Nat.not_lt.2 A)
 obtain rfl:=zI H
 go_enter Tryd.func53,Tryd.ntmps53
 go_wp2_with (first|((with_reducible refine gate_dst (N:=1) rfl ?_);refine sV (N:=1) (cs:= #[.int .i64 a0_0,.int .i64 a0_1,.string a0_2,.int .i64 a0_3]) (t:=40) ?_;intro b hg bk hbox hb;have a:=zM (hbox);have s:=sG HB hg;have u:=sG HB hg;replace HB:=sB HB hb;clear hb hbox hg;obtain⟨bl,bm,bn,bo,bp,bq,br,bs⟩:=cells4 a.out)|((with_reducible refine gate_callee (f:=51) rfl ?_);refine sC (some 4) Tryd.func51 #[.agg #[.int .i64 a0_0,.int .i64 a0_1,.string a0_2,.int .i64 a0_3]] (spec_ValidValue.calls k a0_0 a0_1 a0_2 a0_3 true _ g.out) ?_;rintro e bu ⟨rfl,hb⟩;refine⟨_,rfl,?_⟩;replace a:=sK a hb;replace HB:=sB HB hb;(try clear hb);obtain⟨bv,bw,bx,bz,bA,bB,bC,bD⟩:=cells4 a.out))
 go_ret
 exact⟨sq,sb⟩)
 rw[if_neg A]at H
 exact absurd H (by simp))
 rw[if_neg p]at H
 have c30b0:(a0_0==8)=false:=zN p
 have c30b1:(a0_0 !=8)=true:=zX p
 obtain⟨c,O,H⟩:=sO H
 by_cases B:c.size+1≤9223372036854775807
 ·(
 rw[if_pos B]at H
 have c37b0:=eq_true B
 have c37b1:=zT B
 try have c37b2:(9223372036854775807<c.size+1)=False:=eq_false (Nat.not_lt.2 B)
 obtain⟨q,P,H⟩:=sO H
 by_cases C:c.size+1+q.size≤9223372036854775807
 ·(
 rw[if_pos C]at H
 have c39b0:=eq_true C
 have c39b1:=zT C
 try have c39b2:(9223372036854775807<c.size+1+q.size)=False:=eq_false (Nat.not_lt.2 C)
 obtain rfl:=zI H
 go_enter Tryd.func53,Tryd.ntmps53
 try go_wp2_with (first|((with_reducible refine gate_dst (N:=1) rfl ?_);refine sV (N:=1) (cs:= #[.int .i64 a0_0,.int .i64 a0_1,.string a0_2,.int .i64 a0_3]) (t:=40) ?_;intro b hg bE hbox hb;have a:=zM (hbox);have s:=sG HB hg;have u:=sG HB hg;replace HB:=sB HB hb;clear hb hbox hg;obtain⟨bF,bG,bH,bI,bJ,bK,bL,bM⟩:=cells4 a.out)|((with_reducible refine gate_callee (f:=51) rfl ?_);refine sC (some 4) Tryd.func51 #[.agg #[.int .i64 a0_0,.int .i64 a0_1,.string a0_2,.int .i64 a0_3]] (spec_ValidValue.calls k a0_0 a0_1 a0_2 a0_3 true _ g.out) ?_;rintro e Q ⟨rfl,hb⟩;refine⟨_,rfl,?_⟩;replace a:=sK a hb;replace HB:=sB HB hb;(try clear hb);obtain⟨bO,bP,bQ,bR,bS,bT,bU,bV⟩:=cells4 a.out))
 replace a:=zM (blk_drew a.out)
 replace HB:=zM (below_drew1 HB.out)
 refine start_ (n:=8) (S:=fun w'=>w'.cell? ⟨b,0,none⟩=some (.int .i64 a0_0)∧w'.cell? ⟨b,1,none⟩=some (.int .i64 a0_1)∧w'.cell? ⟨b,2,none⟩=some (.string a0_2)∧w'.cell? ⟨b,3,none⟩=some (.int .i64 a0_3)) (ds:=[]) #[false,false,false,false,false,false,false,false] (by kernel_rfl) rfl rfl ⟨(blk_cell a.out 0).trans rfl,(blk_cell a.out 1).trans rfl,(blk_cell a.out 2).trans rfl,(blk_cell a.out 3).trans rfl⟩ (fun hHeld=>?_);refine with_tabW spec_ValueText.tab14 spec_ValueText.bits14 (fun d I=>?_)
 generalize Q.drew=w44 at a HB hHeld ⊢
 refine pure_ (i:=3) (N:=some 37) (v:=?_) (a':=?_) (bN 8 8) rfl rfl (any_of d.out (by kernel_rfl)) (fun _ _ _ h=>h) (Or.inl ⟨by rfl,?_⟩) ?_ ?_
 rotate_left
 ·(
 intro w'
 go_simp
 with_reducible rfl)
 rotate_left
 ·(
 simp only[zP,i64_w,i32_w]
 rfl)
 refine take_ (i:=0) (N:=some 34) (v:=?_) (a':=?_) (bN 8 9) rfl rfl (take_ofW d.out I.out (by kernel_rfl)) (fun _ _ _ h=>h) (Or.inl ⟨by rfl,?_⟩) hHeld ?_ ?_
 rotate_left
 ·(
 rintro w' ⟨R,T,U,V⟩
 go_simp
 with_reducible rfl)
 rotate_left
 ·(
 simp only[zP,i64_w,i32_w]
 rfl)
 refine take_ (i:=4) (N:=some 38) (v:=?_) (a':=?_) (bN 8 25) rfl rfl (take_ofW d.out I.out (by kernel_rfl)) (fun _ _ _ h=>h) (Or.inl ⟨by rfl,?_⟩) hHeld ?_ ?_
 rotate_left
 ·(
 rintro w' ⟨R,T,U,V⟩
 go_simp
 with_reducible rfl)
 rotate_left
 ·(
 simp only[zP,i64_w,i32_w]
 rfl)
 refine one_ (i:=1) (N:=some 35) (bN 8 27) rfl rfl (one_of d.out (by kernel_rfl)) (by decide) (fun K hK=>?_)
 refine goes_ Tryd.func91 (by kernel_rfl) rfl #[.agg #[.int .i64 a0_0,.int .i64 a0_1,.string a0_2,.int .i64 a0_3]] (by rfl) rfl rfl (by(try simp only[List.map_toArray,List.map_cons,List.map_nil]);first|done|rfl|(simp only[List.length_drop,List.length_take];rfl)) ?_
 with_reducible refine(spec_DataType.calls k a0_0 a0_1 a0_2 a0_3 c _ O.out).mono ?_
 rintro e bW ⟨rfl,hb⟩
 refine⟨_,rfl,?_⟩
 replace a:=sK a hb
 replace HB:=sB HB hb
 (try clear hb)
 (try clear hb2)
 (try clear hk)
 (try clear hi)
 refine hK.out _ _ ⟨(blk_cell a.out 0).trans rfl,(blk_cell a.out 1).trans rfl,(blk_cell a.out 2).trans rfl,(blk_cell a.out 3).trans rfl⟩ (fun hHeld=>?_)
 clear hK K
 refine norm_ (a':=?_) ?_ ?_
 rotate_left
 ·(
 show Act.put _ (some 35) _=_
 simp only[zP,i64_w,i32_w]
 rfl)
 refine pure_ (i:=2) (N:=some 36) (v:=?_) (a':=?_) (bN 8 31) rfl rfl (any_of d.out (by kernel_rfl)) (fun _ _ _ h=>h) (Or.inl ⟨by rfl,?_⟩) ?_ ?_
 rotate_left
 ·(
 intro w'
 go_simp
 with_reducible rfl)
 rotate_left
 ·(
 simp only[zP,i64_w,i32_w]
 rfl)
 refine one_ (i:=5) (N:=some 39) (bN 8 63) rfl rfl (one_of d.out (by kernel_rfl)) (by decide) (fun K hK=>?_)
 refine goes_ Tryd.func52 (by kernel_rfl) rfl #[.int .i64 a0_3] (by rfl) rfl rfl (by(try simp only[List.map_toArray,List.map_cons,List.map_nil]);first|done|rfl|(simp only[List.length_drop,List.length_take];rfl)) ?_
 with_reducible refine(spec_l06Digits.calls k a0_3 q _ P.out).mono ?_
 rintro e bX ⟨rfl,hb⟩
 refine⟨_,rfl,?_⟩
 replace a:=sK a hb
 replace HB:=sB HB hb
 (try clear hb)
 (try clear hb2)
 (try clear hk)
 (try clear hi)
 refine hK.out _ _ ⟨(blk_cell a.out 0).trans rfl,(blk_cell a.out 1).trans rfl,(blk_cell a.out 2).trans rfl,(blk_cell a.out 3).trans rfl⟩ (fun hHeld=>?_)
 clear hK K
 refine norm_ (a':=?_) ?_ ?_
 rotate_left
 ·(
 show Act.put _ (some 39) _=_
 simp only[zP,i64_w,i32_w]
 rfl)
 refine pure_ (i:=6) (N:=some 40) (v:=?_) (a':=?_) (bN 8 127) rfl rfl (any_of d.out (by kernel_rfl)) (fun _ _ _ h=>h) (Or.inl ⟨by rfl,?_⟩) ?_ ?_
 rotate_left
 ·(
 intro w'
 go_simp
 with_reducible rfl)
 rotate_left
 ·(
 simp only[zP,i64_w,i32_w]
 rfl)
 refine pure_ (i:=7) (N:=some 2) (v:=?_) (a':=?_) (bN 8 255) rfl rfl (any_of d.out (by kernel_rfl)) (fun _ _ _ h=>h) (Or.inl ⟨by rfl,?_⟩) ?_ ?_
 rotate_left
 ·(
 intro w'
 go_simp
 with_reducible rfl)
 rotate_left
 ·(
 simp only[zP,i64_w,i32_w]
 rfl)
 refine done_ (done_of d.out (by kernel_rfl)) ?_
 try go_wp2
 go_ret
 exact⟨sq,sb⟩)
 rw[if_neg C]at H
 exact absurd H (by simp))
 rw[if_neg B]at H
 exact absurd H (by simp))
 replace D:=zB D
 subst D
 rewrite[if_neg zQ]at H
 obtain rfl:=zI H
 go_enter Tryd.func53,Tryd.ntmps53
 go_wp2_with (first|((with_reducible refine gate_dst (N:=1) rfl ?_);refine sV (N:=1) (cs:= #[.int .i64 a0_0,.int .i64 a0_1,.string a0_2,.int .i64 a0_3]) (t:=40) ?_;intro b hg bY hbox hb;have a:=zM (hbox);have s:=sG HB hg;have u:=sG HB hg;replace HB:=sB HB hb;clear hb hbox hg;obtain⟨bZ,b0,b1,b2,b3,b4,b5,b6⟩:=cells4 a.out)|((with_reducible refine gate_callee (f:=51) rfl ?_);refine sC (some 4) Tryd.func51 #[.agg #[.int .i64 a0_0,.int .i64 a0_1,.string a0_2,.int .i64 a0_3]] (spec_ValidValue.calls k a0_0 a0_1 a0_2 a0_3 false _ g.out) ?_;rintro e b7 ⟨rfl,hb⟩;refine⟨_,rfl,?_⟩;replace a:=sK a hb;replace HB:=sB HB hb;(try clear hb)))
 go_ret
 exact⟨sq,sb⟩
end Go.Proofs.YtjmojijopammjaaDoor.PFnExactCaptureText
