/- Printed functions: impl_ImageSum, impl_OpenImage. -/
import Derived.Test.YtjmojijopammjaaDoorYOiP0
import Derived.Test.YtjmojijopammjaaDoorYOiP1
namespace Go.Proofs.YtjmojijopammjaaDoor.PFnExactOpenImage
open Go.RowKit Go.Proofs.YtjmojijopammjaaDoorG Go.Proofs.YtjmojijopammjaaDoorW.PrintWords Go.Proofs.YtjmojijopammjaaDoorW.PrintLast Go.Proofs.YtjmojijopammjaaDoorW.PrintMore
attribute [local go_sem] max2_int min2_int max_two min_two max_three min_three max_four min_four
set_option linter.unusedVariables false
set_option linter.unusedSimpArgs false
def impl_ImageSum.l0 : Nat → ByteArray → Int → Int → Int → Int → Option (Int)
 |0,_,_,_,_,_=>none
 |k+1,x0,x3,x4,x7,x8=>if x8<x7 then(if 0≤x8 then(if x8<(x0.size:Int)then(impl_ImageSum.l0 k x0 (Int.tmod (wrap64 (x3+(wrap64 (bt x0 x8)))) 65521) (Int.tmod (wrap64 (x4+(Int.tmod (wrap64 (x3+(wrap64 (bt x0 x8)))) 65521))) 65521) x7 (wrap64 (x8+1)))else(none))else(none))else(some (wrap64 ((wrap64 (65536*x4))+x3)))
def impl_ImageSum.f (k:Nat) (a0:ByteArray):Option (Int):=impl_ImageSum.l0 k a0 1 0 (a0.size:Int) 0
set_option maxHeartbeats 8000000 in
set_option maxRecDepth 100000 in
theorem impl_ImageSum.calls (k:Nat) (a0:ByteArray) (r:Int) (w:World) (h:impl_ImageSum.f k a0=some r):
  Calls Tryd.prog 61 #[.string a0] w fun e w'=>e= .returned (.int .i64 r)∧Drawn0 w w':=by
 have H:(impl_ImageSum.l0 k a0 1 0 (a0.size:Int) 0)=some r:=h
 clear h
 have H':=zM H
 clear H
 go_enter Tryd.func61,Tryd.ntmps61
 go_wp2
 go_loopg [3,4,8] k (fun kq p q v w'=>∃(c:Int) (d:Int) (a:Int),p= .int .i64 c∧q= .int .i64 d∧v= .int .i64 a∧Aside0 (impl_ImageSum.l0 kq a0 c d (a0.size:Int) a=some r)∧Aside0 (kq≤k)∧Drawn0 w w')
 case atStart=>exact⟨(1),(0),(0),sr,sr,sr,H',⟨Nat.le_refl _⟩,by repeat(first|exact Drawn0.refl _|apply Drawn0.step)⟩
 case round=>(
 clear H'
 obtain⟨c,d,a,rfl,rfl,rfl,HA,m,⟨x,rfl⟩⟩:=hrel
 cases gk with
 |zero=>exact absurd HA.out (by simp[impl_ImageSum.l0])
 |succ k1=>(
 have H:=HA.out
 clear HA
 simp only[impl_ImageSum.l0]at H
 by_cases b:a<(a0.size:Int)
 ·(
 rw[if_pos b]at H
 have c2b0:=zT b
 clear b
 by_cases g:0≤a
 ·(
 rw[if_pos g]at H
 have c3b0:=zT g
 clear g
 by_cases l:a<(a0.size:Int)
 ·(
 rw[if_pos l]at H
 have c4b0:=zT l
 clear l
 have H':=zM H
 clear H
 have n:0≤(a:Int):=zzA
 have o:a<(a0.size:Int):=zzA
 have y:=bt_at a0 a
 replace n:=eq_true n
 replace o:=eq_true o
 go_wp2
 go_roundg k1
 case measure=>have:=m.out;omega
 case rel=>exact⟨(Int.tmod (wrap64 (c+(wrap64 (bt a0 a)))) 65521),(Int.tmod (wrap64 (d+(Int.tmod (wrap64 (c+(wrap64 (bt a0 a)))) 65521))) 65521),(wrap64 (a+1)),sr,sr,sr,H',⟨by have:=m.out;omega⟩,by repeat(first|exact Drawn0.refl _|apply Drawn0.step)⟩)
 rw[if_neg l]at H
 exact absurd H (by simp))
 rw[if_neg g]at H
 exact absurd H (by simp))
 rw[if_neg b]at H
 have c2b0:=zF b
 clear b
 obtain rfl:=zI H
 go_wp2
 go_ret
 exact⟨by first|rfl|(simp;done)|(simp[*];done),by repeat(first|exact Drawn0.refl _|apply Drawn0.step)⟩))
def impl_OpenImage.at (a0:ByteArray):Int:=Lib.lastIndex a0.data.toList [32,35]
theorem impl_OpenImage.at_le (a0:ByteArray):impl_OpenImage.at a0<0∨(0≤impl_OpenImage.at a0∧impl_OpenImage.at a0+2≤(a0.size:Int)):=by
 have hs:a0.data.toList.length=a0.size:=by simp
 unfold impl_OpenImage.at Lib.lastIndex
 split
 ·(
 rename_i h
 rcases Lib.lastOcc_spec a0.data.toList [32,35] (a0.data.toList.length-[(32:UInt8),35].length+1)with h1|⟨i,h1,h2,_⟩
 ·exact .inl (by rw[h1.1];decide)
 ·(
 refine .inr ?_
 rw[h2]
 have:[(32:UInt8),35].length=2:=rfl
 omega))
 ·exact .inl (by decide)
def impl_OpenImage.f (k : Nat) (a0 : ByteArray) : Option (ByteArray × Int) := if a0.size ≤ 4294967296 then (if impl_OpenImage.at a0 < 0 then (some ((⟨#[]⟩ : ByteArray), 2)) else (match Lib.parseUintB 32 (a0.extract (impl_OpenImage.at a0 + 2).toNat a0.size).data.toList with
  | .ok u=>if u≤4294967295 then((impl_decimal.f (u:Int)).bind fun t=>(if t.toList=(a0.extract (impl_OpenImage.at a0+2).toNat a0.size).toList then((impl_ImageSum.f k (a0.extract (0:Int).toNat (impl_OpenImage.at a0).toNat)).bind fun s=>(if(u:Int)=s then(some ((a0.extract (0:Int).toNat (impl_OpenImage.at a0).toNat),0))else(some ((⟨#[]⟩:ByteArray),10))))else(some ((⟨#[]⟩:ByteArray),2))))else none
  | .syntax=>some ((⟨#[]⟩:ByteArray),2)
  | .range=>some ((⟨#[]⟩:ByteArray),2)))else(none)
set_option maxHeartbeats 8000000 in
set_option maxRecDepth 100000 in
theorem impl_OpenImage.calls (k:Nat) (a0:ByteArray) (r1:ByteArray) (r2:Int) (w:World) (h:impl_OpenImage.f k a0=some (r1,r2)) (HT:EnvT w):
  Calls Tryd.prog 23 #[.string a0] w fun e w'=>e= .returned (.tuple #[.string r1,.int .i64 r2])∧Below w.heap.size w w':=by
 have HB:=zM (Below.refl w.heap.size w)
 unfold impl_OpenImage.f at h
 by_cases hs:a0.size≤4294967296
 ·(
 rw[if_pos hs]at h
 have hle:=impl_OpenImage.at_le a0
 have hc:∀w:World,Calls Tryd.prog 59 #[.string a0,.string ⟨#[32,35]⟩] w fun e w'=>e= .returned (.int .i64 (impl_OpenImage.at a0))∧w'=w:=fun w=>Tryd.strings_LastIndex a0 ⟨#[32,35]⟩ (by omega) w
 generalize impl_OpenImage.at a0=i at h hle hc
 by_cases d:i<0
 ·(
 rw[if_pos d]at h
 obtain⟨rfl,rfl⟩:=Prod.mk.inj (zI h)
 have c0b:=zT d
 clear h d hle
 go_enter Tryd.func23,Tryd.ntmps23
 go_wp2_with (go_at_call 59;refine(hc _).mono ?_;rintro e a ⟨rfl,rfl⟩)
 refine bodyPost_ret (results_tmp2 rfl _ _ _) rfl ?_
 exact⟨rfl,sb⟩)
 ·(
 rw[if_neg d]at h
 have c0b:=zF d
 have m:0≤i∧i+2≤(a0.size:Int):=by omega
 have g:wrap64 (i+2)=i+2:=by unfold wrap64;omega
 obtain⟨j,hj⟩:∃j_:Int,wrap64 (i+2)=j_:=⟨_,rfl⟩
 have hjw:IntKind.i64.wrap (i+2)=j:=(i64_w _).trans hj
 rw[←g,hj]at h
 rw[hj]at g
 have o:decide (0≤j)=true:=zT (by omega)
 have p:decide (j≤(a0.size:Int))=true:=zT (by omega)
 have q:decide (0≤i)=true:=zT (by omega)
 have v:decide (i≤(a0.size:Int))=true:=zT (by omega)
 have x:=eq_true (show 0≤j by omega)
 have y:=eq_true (show j≤(a0.size:Int) by omega)
 have z:=eq_true (show 0≤i by omega)
 have A:=eq_true (show i≤(a0.size:Int) by omega)
 obtain⟨D,hD⟩:∃D_,a0.extract j.toNat a0.size=D_:=⟨_,rfl⟩
 have hDs:D.size≤4294967296:=by rw[←hD,ByteArray.size_extract];omega
 rw[hD]at h
 obtain⟨tpS,pS,eS⟩:=HT.errS
 obtain⟨tpR,pR,eR⟩:=HT.errR
 clear hle m d g
 cases hp:Lib.parseUintB 32 D.data.toList with
 | «syntax» =>(
 rw[hp]at h
 obtain⟨rfl,rfl⟩:=Prod.mk.inj (zI h)
 clear h
 go_enter Tryd.func23,Tryd.ntmps23
 subst hD
 go_wp2_with (first|(go_at_call 59;refine(hc _).mono ?_;rintro e a ⟨rfl,rfl⟩)|(go_at_call 60;refine(Tryd.strconv_ParseUint_10_at32_syntax_var _ (by omega) hp tpS pS _ eS).mono ?_;rintro e w2 ⟨Nn,rfl,_,_,hb⟩;replace HB:=sB HB hb;clear hb))
 refine bodyPost_ret (results_tmp2 rfl _ _ _) rfl ?_
 exact⟨rfl,sb⟩)
 |range=>(
 rw[hp]at h
 obtain⟨rfl,rfl⟩:=Prod.mk.inj (zI h)
 clear h
 go_enter Tryd.func23,Tryd.ntmps23
 subst hD
 go_wp2_with (first|(go_at_call 59;refine(hc _).mono ?_;rintro e a ⟨rfl,rfl⟩)|(go_at_call 60;refine(Tryd.strconv_ParseUint_10_at32_range_var _ (by omega) hp tpR pR _ eR).mono ?_;rintro e w2 ⟨Nn,rfl,_,_,hb⟩;replace HB:=sB HB hb;clear hb))
 refine bodyPost_ret (results_tmp2 rfl _ _ _) rfl ?_
 exact⟨rfl,sb⟩)
 |ok u=>(
 rw[hp]at h
 by_cases cu:u≤4294967295
 ·(
 have h:((impl_decimal.f (u:Int)).bind fun t=>(if t.toList=D.toList then((impl_ImageSum.f k (a0.extract (0:Int).toNat i.toNat)).bind fun s=>(if(u:Int)=s then(some ((a0.extract (0:Int).toNat i.toNat),(0:Int)))else(some ((⟨#[]⟩:ByteArray),10))))else(some ((⟨#[]⟩:ByteArray),2))))=some (r1,r2):=(if_pos cu).symm.trans h
 have B:IntKind.i64.wrap (u:Int)=(u:Int):=(i64_w _).trans (by unfold wrap64;omega)
 have C:wrap64 (u:Int)=(u:Int):=by unfold wrap64;omega
 obtain⟨t,AT,h⟩:=sO h
 by_cases ct:t.toList=D.toList
 ·(
 rw[if_pos ct]at h
 have ctb:(t.toList==D.toList)=true:=zE ct
 have ctc:(t.toList !=D.toList)=false:=zY ct
 clear ct
 obtain⟨s,AS,h⟩:=sO h
 by_cases cs:(u:Int)=s
 ·(
 rw[if_pos cs]at h
 obtain⟨rfl,rfl⟩:=Prod.mk.inj (zI h)
 have csb:((u:Int)==s)=true:=zE cs
 have csc:((u:Int) !=s)=false:=zY cs
 clear h cs
 go_enter Tryd.func23,Tryd.ntmps23
 subst hD
 go_wp2_with (first|(go_at_call 59;refine(hc _).mono ?_;rintro e a ⟨rfl,rfl⟩)|(go_at_call 60;refine(Tryd.strconv_ParseUint_10_at32_ok _ (by omega) u hp _).mono ?_;rintro e w2 ⟨rfl,c⟩;have hb:Below a.heap.size a w2:=c.elim (fun b=>b▸Below.refl _ _) (fun b=>b▸Lib.bytesWorld_below _ _ _);replace HB:=sB HB hb;clear hb c)|(go_at_call 37;refine(impl_decimal.calls _ t _ AT.out (by first|with_reducible exact HT|exact EnvT.below HT sb)).mono ?_;rintro e l ⟨rfl,hb⟩;replace HB:=sB HB hb;clear hb)|(go_at_call 61;refine(impl_ImageSum.calls k _ s _ AS.out).mono ?_;rintro e n ⟨rfl,hd⟩;replace HB:=sB HB hd.below;clear hd))
 refine bodyPost_ret (results_tmp2 rfl _ _ _) rfl ?_
 exact⟨rfl,sb⟩)
 ·(
 rw[if_neg cs]at h
 obtain⟨rfl,rfl⟩:=Prod.mk.inj (zI h)
 have csb:((u:Int)==s)=false:=zN cs
 have csc:((u:Int) !=s)=true:=zX cs
 clear h cs
 go_enter Tryd.func23,Tryd.ntmps23
 subst hD
 go_wp2_with (first|(go_at_call 59;refine(hc _).mono ?_;rintro e a ⟨rfl,rfl⟩)|(go_at_call 60;refine(Tryd.strconv_ParseUint_10_at32_ok _ (by omega) u hp _).mono ?_;rintro e w2 ⟨rfl,c⟩;have hb:Below a.heap.size a w2:=c.elim (fun b=>b▸Below.refl _ _) (fun b=>b▸Lib.bytesWorld_below _ _ _);replace HB:=sB HB hb;clear hb c)|(go_at_call 37;refine(impl_decimal.calls _ t _ AT.out (by first|with_reducible exact HT|exact EnvT.below HT sb)).mono ?_;rintro e l ⟨rfl,hb⟩;replace HB:=sB HB hb;clear hb)|(go_at_call 61;refine(impl_ImageSum.calls k _ s _ AS.out).mono ?_;rintro e n ⟨rfl,hd⟩;replace HB:=sB HB hd.below;clear hd))
 refine bodyPost_ret (results_tmp2 rfl _ _ _) rfl ?_
 exact⟨rfl,sb⟩))
 ·(
 rw[if_neg ct]at h
 obtain⟨rfl,rfl⟩:=Prod.mk.inj (zI h)
 have ctb:(t.toList==D.toList)=false:=zN ct
 have ctc:(t.toList !=D.toList)=true:=zX ct
 clear h ct
 go_enter Tryd.func23,Tryd.ntmps23
 subst hD
 go_wp2_with (first|(go_at_call 59;refine(hc _).mono ?_;rintro e a ⟨rfl,rfl⟩)|(go_at_call 60;refine(Tryd.strconv_ParseUint_10_at32_ok _ (by omega) u hp _).mono ?_;rintro e w2 ⟨rfl,c⟩;have hb:Below a.heap.size a w2:=c.elim (fun b=>b▸Below.refl _ _) (fun b=>b▸Lib.bytesWorld_below _ _ _);replace HB:=sB HB hb;clear hb c)|(go_at_call 37;refine(impl_decimal.calls _ t _ AT.out (by first|with_reducible exact HT|exact EnvT.below HT sb)).mono ?_;rintro e l ⟨rfl,hb⟩;replace HB:=sB HB hb;clear hb))
 refine bodyPost_ret (results_tmp2 rfl _ _ _) rfl ?_
 exact⟨rfl,sb⟩))
 ·(
 have h:(none:Option (ByteArray×Int))=some (r1,r2):=(if_neg cu).symm.trans h
 cases h))))
 ·(
 rw[if_neg hs]at h
 cases h)
end Go.Proofs.YtjmojijopammjaaDoor.PFnExactOpenImage
