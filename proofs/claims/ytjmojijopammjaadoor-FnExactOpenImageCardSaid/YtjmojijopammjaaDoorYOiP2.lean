/- Printed functions: spec_OpenImage. -/
import Derived.Test.YtjmojijopammjaaDoorYOiP0
import Derived.Test.YtjmojijopammjaaDoorYOiP1
namespace Go.Proofs.YtjmojijopammjaaDoor.PFnExactOpenImage
open Go.RowKit Go.Proofs.YtjmojijopammjaaDoorG Go.Proofs.YtjmojijopammjaaDoorW.PrintWords Go.Proofs.YtjmojijopammjaaDoorW.PrintLast Go.Proofs.YtjmojijopammjaaDoorW.PrintMore
attribute [local go_sem] max2_int min2_int max_two min_two max_three min_three max_four min_four
set_option linter.unusedVariables false
set_option linter.unusedSimpArgs false
mutual
def spec_OpenImage.l0 : Nat → ByteArray → Int → Option (ByteArray × Int)
 |0,_,_=>none
 |k+1,x0,x4=>if x4>0 then(if 0≤(wrap64 (x4- 1))then(if(wrap64 (x4- 1))<(x0.size:Int)then(if(bt x0 (wrap64 (x4- 1)))≥48 then(if(bt x0 (wrap64 (x4- 1)))≤57 then(spec_OpenImage.j1 k x0 x4 (decide ((wrap64 ((x0.size:Int)-x4))<11)))else(spec_OpenImage.j1 k x0 x4 false))else(spec_OpenImage.j1 k x0 x4 false))else(none))else(none))else(spec_OpenImage.j1 k x0 x4 false)
def spec_OpenImage.j1 : Nat → ByteArray → Int → Bool → Option (ByteArray × Int)
 |0,_,_,_=>none
 |k+1,x0,x4,x31=>if x31=true then(spec_OpenImage.l0 k x0 (wrap64 (x4- 1)))else(spec_OpenImage.l1 k x0 x4 0 x4)
def spec_OpenImage.l1 : Nat → ByteArray → Int → Int → Int → Option (ByteArray × Int)
 |0,_,_,_,_=>none
 |k+1,x0,x4,x5,x6=>if x6<(x0.size:Int)then(if 0≤x6 then(spec_OpenImage.l1 k x0 x4 (wrap64 ((wrap64 (10*x5))+(((bt x0 x6)- 48)%256))) (wrap64 (x6+1)))else(none))else(if x4<2 then(spec_OpenImage.j3 k x0 x4 x5 true)else(if x4=(x0.size:Int)then(spec_OpenImage.j3 k x0 x4 x5 true)else(if 0≤(wrap64 (x4- 2))then(if(wrap64 (x4- 2))≤x4 then(if x4≤(x0.size:Int)then(if(x0.extract ((wrap64 (x4- 2)):Int).toNat (x4:Int).toNat).toList=([32,35]:List UInt8)then(if x5>4294967295 then(spec_OpenImage.j3 k x0 x4 x5 true)else((spec_l06Digits.f k x5).bind fun t107=>(if 0≤x4 then(spec_OpenImage.j3 k x0 x4 x5 (t107.toList !=(x0.extract (x4:Int).toNat x0.size).toList))else(none))))else(spec_OpenImage.j3 k x0 x4 x5 true))else(none))else(none))else(none))))
def spec_OpenImage.j3 : Nat → ByteArray → Int → Int → Bool → Option (ByteArray × Int)
 |0,_,_,_,_=>none
 |k+1,x0,x4,x5,x76=>if x76=true then(some ((⟨#[]⟩:ByteArray),2))else(if 0≤(wrap64 (x4- 2))then(if(wrap64 (x4- 2))≤(x0.size:Int)then((spec_l26Sum.f k (x0.extract 0 ((wrap64 (x4- 2)):Int).toNat)).bind fun t108=>(if t108=x5 then(some (x0.extract 0 ((wrap64 (x4- 2)):Int).toNat,0))else(some ((⟨#[]⟩:ByteArray),10))))else(none))else(none))
end
def spec_OpenImage.f (k:Nat) (a0:ByteArray):Option (ByteArray×Int):=spec_OpenImage.l0 k a0 (a0.size:Int)
def spec_OpenImage.T9:Bool×List (List Nat×List Nat):=(true,[([],[]),([0],[0]),([1],[1]),([2],[2]),([2],[2]),([4,2],[2,4]),([3,5,2],[2,3,5]),([2,6],[2,6]),([7,2],[7]),([8],[8]),([8],[8]),([10,8],[8,10]),([8],[8]),([9,11,12,8],[8,9,11,12]),([13,8],[8,13]),([8,14],[8,14]),([15,8],[15]),([16],[16]),([17,16],[16,17]),([16,18],[16,18]),([19,16],[19]),([20],[20]),([21,20,20],[20,21]),([20],[20]),([20],[20]),([23,24,20],[20,23,24]),([22,25,20],[20,22,25]),([20,26],[20,26])])
def spec_OpenImage.B9:List Nat:=[0,1,3,7,7,23,63,127,255,511,511,1535,511,8191,16383,32767,65535,131071,262143,524287,1048575,2097151,4194303,2097151,2097151,27262975,67108863,134217727]
theorem spec_OpenImage.tab9:rtab .any (opsOf Tryd.f22 9)=spec_OpenImage.T9:=by kernel_rfl
theorem spec_OpenImage.bits9:waitsOk spec_OpenImage.T9.2 spec_OpenImage.B9=true:=by kernel_rfl
set_option maxHeartbeats 8000000 in
set_option maxRecDepth 100000 in
theorem spec_OpenImage.calls (k:Nat) (a0:ByteArray) (r1:ByteArray) (r2:Int) (w:World) (h:spec_OpenImage.f k a0=some (r1,r2)):
  Calls Tryd.prog 22 #[.string a0] w fun e w'=>e= .returned (.tuple #[.string r1,.int .i64 r2])∧Below w.heap.size w w':=by
 have HB:=zM (Below.refl w.heap.size w)
 have H:(spec_OpenImage.l0 k a0 (a0.size:Int))=some (r1,r2):=h
 clear h
 have H':=zM H
 clear H
 go_enter Tryd.func22,Tryd.ntmps22
 go_wp2
 go_loopg [4] k (fun kq v4 w'=>∃(b:Int),v4= .int .i64 b∧Aside0 (spec_OpenImage.l0 kq a0 b=some (r1,r2))∧Aside0 (kq≤k)∧Aside0 (Below w.heap.size w w'))
 case atStart=>exact⟨((a0.size:Int)),sr,H',⟨Nat.le_refl _⟩,⟨sb⟩⟩
 case round=>(
 clear H'
 obtain⟨b,rfl,HA,d,HB⟩:=hrel
 cases gk with
 |zero=>exact absurd HA.out (by simp[spec_OpenImage.l0])
 |succ k1=>(
 have H:=HA.out
 clear HA
 simp only[spec_OpenImage.l0]at H
 have W:=zM H
 clear H
 go_upto_region 2 with(fail)
 go_cut [31] (fun ac wc=>∃(kq:Nat) (M:Bool),ac= .bool M∧Aside0 (spec_OpenImage.j1 kq a0 b M=some (r1,r2))∧Aside0 (kq≤k1)∧Aside0 (Below w.heap.size w wc))
 case first=>(
 have H:=W.out
 clear W
 by_cases t:b>0
 ·(
 rw[if_pos t]at H
 have c3b0:decide (0<b)=true:=zT t
 clear t
 (first|rw[c3b0]|(simp only[i64_w,i32_w];rw[c3b0])|rw[c3b2]|skip)
 obtain⟨ji4,hji4⟩:∃j_:Int,(wrap64 (b- 1))=j_:=⟨_,rfl⟩
 replace H:(if 0≤(ji4)then(if(ji4)<(a0.size:Int)then(if(bt a0 (ji4))≥48 then(if(bt a0 (ji4))≤57 then(spec_OpenImage.j1 k1 a0 b (decide ((wrap64 ((a0.size:Int)-b))<11)))else(spec_OpenImage.j1 k1 a0 b false))else(spec_OpenImage.j1 k1 a0 b false))else(none))else(none))=some (r1,r2):=by first|(rw[hji4]at H;exact H)|(simp only[hji4]at H ⊢;exact H)
 have hji4w:(IntKind.i64.wrap (b- 1))=ji4:=(i64_w _).trans hji4
 by_cases O:0≤(ji4)
 ·(
 rw[if_pos O]at H
 have c5b0:=zT O
 clear O
 by_cases P:(ji4)<(a0.size:Int)
 ·(
 rw[if_pos P]at H
 have c6b0:=zT P
 clear P
 by_cases u:(bt a0 (ji4))≥48
 ·(
 rw[if_pos u]at H
 have c8b0:decide (48≤(bt a0 (ji4)))=true:=zT u
 clear u
 by_cases x:(bt a0 (ji4))≤57
 ·(
 rw[if_pos x]at H
 have c10b0:=zT x
 clear x
 have H':=zM H
 clear H
 have m:0≤((ji4):Int):=zzA
 have o:(ji4)<(a0.size:Int):=zzA
 have Y:=bt_at a0 (ji4)
 replace m:=eq_true m
 replace o:=eq_true o
 have B:0≤((ji4):Int):=zzA
 have C:(ji4)<(a0.size:Int):=zzA
 have ad:=bt_at a0 (ji4)
 replace B:=eq_true B
 replace C:=eq_true C
 go_wp2
 go_meet
 case rel=>exact⟨_,(decide ((wrap64 ((a0.size:Int)-b))<11)),sr,H',⟨by have:=d.out;first|omega|exact Nat.le_refl _⟩,⟨sb⟩⟩)
 rw[if_neg x]at H
 have c10b0:=zF x
 clear x
 have H':=zM H
 clear H
 have m:0≤((ji4):Int):=zzA
 have o:(ji4)<(a0.size:Int):=zzA
 have Y:=bt_at a0 (ji4)
 replace m:=eq_true m
 replace o:=eq_true o
 have B:0≤((ji4):Int):=zzA
 have C:(ji4)<(a0.size:Int):=zzA
 have ad:=bt_at a0 (ji4)
 replace B:=eq_true B
 replace C:=eq_true C
 go_wp2
 go_meet
 case rel=>exact⟨_,(false),sr,H',⟨by have:=d.out;first|omega|exact Nat.le_refl _⟩,⟨sb⟩⟩)
 rw[if_neg u]at H
 have c8b0:decide (48≤(bt a0 (ji4)))=false:=zF u
 clear u
 have H':=zM H
 clear H
 have m:0≤((ji4):Int):=zzA
 have o:(ji4)<(a0.size:Int):=zzA
 have Y:=bt_at a0 (ji4)
 replace m:=eq_true m
 replace o:=eq_true o
 go_wp2
 go_meet
 case rel=>exact⟨_,(false),sr,H',⟨by have:=d.out;first|omega|exact Nat.le_refl _⟩,⟨sb⟩⟩)
 rw[if_neg P]at H
 exact absurd H (by simp))
 rw[if_neg O]at H
 exact absurd H (by simp))
 rw[if_neg t]at H
 have c3b0:decide (0<b)=false:=zF t
 clear t
 (first|rw[c3b0]|(simp only[i64_w,i32_w];rw[c3b0])|rw[c3b2]|skip)
 have H':=zM H
 clear H
 go_wp2
 go_meet
 case rel=>exact⟨_,(false),sr,H',⟨by have:=d.out;first|omega|exact Nat.le_refl _⟩,⟨sb⟩⟩)
 case rest=>(
 clear W
 obtain⟨kq,M,rfl,HA,j,HB⟩:=hcut
 cases kq with
 |zero=>exact absurd HA.out (by simp[spec_OpenImage.j1])
 |succ kj1=>(
 have H:=HA.out
 clear HA
 simp only[spec_OpenImage.j1]at H
 by_cases D:M=true
 ·(
 subst D
 rewrite[if_pos rfl]at H
 have H':=zM H
 clear H
 go_wp2
 go_roundg kj1
 case measure=>have:=d.out;have:=j.out;omega
 case rel=>exact⟨(wrap64 (b- 1)),sr,H',⟨by have:=d.out;have:=j.out;omega⟩,⟨sb⟩⟩)
 replace D:=zB D
 subst D
 rewrite[if_neg zQ]at H
 have H':=zM H
 clear H
 go_wp2
 go_loopg [5,6] kj1 (fun kq v5 v6 w'=>∃(c:Int) (g:Int),v5= .int .i64 c∧v6= .int .i64 g∧Aside0 (spec_OpenImage.l1 kq a0 b c g=some (r1,r2))∧Aside0 (kq≤kj1)∧Aside0 (Below w.heap.size w w'))
 case atStart=>exact⟨(0),(b),sr,sr,H',⟨Nat.le_refl _⟩,⟨sb⟩⟩
 case round=>(
 clear H'
 try clear D
 obtain⟨c,g,rfl,rfl,HA,p,HB⟩:=hrel
 cases gk with
 |zero=>exact absurd HA.out (by simp[spec_OpenImage.l1])
 |succ k3=>(
 have H:=HA.out
 clear HA
 simp only[spec_OpenImage.l1]at H
 by_cases y:g<(a0.size:Int)
 ·(
 rw[if_pos y]at H
 have c12b0:=zT y
 clear y
 by_cases Q:0≤g
 ·(
 rw[if_pos Q]at H
 have c13b0:=zT Q
 clear Q
 have H':=zM H
 clear H
 have Z:0≤(g:Int):=zzA
 have aa:g<(a0.size:Int):=zzA
 have ag:=bt_at a0 g
 replace Z:=eq_true Z
 replace aa:=eq_true aa
 go_wp2
 go_roundg k3
 case measure=>have:=d.out;have:=j.out;have:=p.out;omega
 case rel=>exact⟨(wrap64 ((wrap64 (10*c))+(((bt a0 g)- 48)%256))),(wrap64 (g+1)),sr,sr,H',⟨by have:=d.out;have:=j.out;have:=p.out;omega⟩,⟨sb⟩⟩)
 rw[if_neg Q]at H
 exact absurd H (by simp))
 rw[if_neg y]at H
 have c12b0:=zF y
 clear y
 have X:=zM H
 clear H
 go_upto_region 9 with(fail)
 go_cut [76] (fun ae wc=>∃(kq:Nat) (R:Bool),ae= .bool R∧Aside0 (spec_OpenImage.j3 kq a0 b c R=some (r1,r2))∧Aside0 (kq≤k3)∧Aside0 (Below w.heap.size w wc))
 case first=>(
 have H:=X.out
 clear X
 by_cases z:b<2
 ·(
 rw[if_pos z]at H
 have c16b0:=zT z
 clear z
 (first|rw[c16b0]|(simp only[i64_w,i32_w];rw[c16b0])|rw[c16b2]|skip)
 have H':=zM H
 clear H
 try go_wp2
 replace HB:=zM (below_drew1 HB.out)
 refine start_ (n:=28) (S:=fun w'=>True) (ds:=[]) #[false,false,false,false,false,false,false,false,false,false,false,false,false,false,false,false,false,false,false,false,false,false,false,false,false,false,false,false] (by kernel_rfl) rfl rfl trivial (fun hHeld=>?_);refine with_tabW spec_OpenImage.tab9 spec_OpenImage.bits9 (fun a T=>?_)
 generalize wr.drew=w17 at HB hHeld ⊢
 refine pure_ (i:=0) (N:=some 49) (v:=?_) (a':=?_) (bN 28 1) rfl rfl (any_of a.out (by kernel_rfl)) (fun _ _ _ h=>h) (Or.inl ⟨by rfl,?_⟩) ?_ ?_
 rotate_left
 ·(
 intro w'
 go_simp
 with_reducible rfl)
 rotate_left
 ·(
 simp only[zP,i64_w,i32_w]
 rfl)
 refine pure_ (i:=1) (N:=some 50) (v:=?_) (a':=?_) (bN 28 3) rfl rfl (any_of a.out (by kernel_rfl)) (fun _ _ _ h=>h) (Or.inl ⟨by rfl,?_⟩) ?_ ?_
 rotate_left
 ·(
 intro w'
 go_simp
 with_reducible rfl)
 rotate_left
 ·(
 simp only[zP,i64_w,i32_w]
 rfl)
 refine pure_ (i:=2) (N:=some 51) (v:=?_) (a':=?_) (bN 28 7) rfl rfl (any_of a.out (by kernel_rfl)) (fun _ _ _ h=>h) (Or.inl ⟨by rfl,?_⟩) ?_ ?_
 rotate_left
 ·(
 intro w'
 go_simp
 with_reducible rfl)
 rotate_left
 ·(
 simp only[zP,i64_w,i32_w]
 rfl)
 refine pure_ (i:=3) (N:=some 52) (v:=undef) (a':=?_) (bN 28 15) rfl rfl (any_of a.out (by kernel_rfl)) (fun _ _ _ h=>h) (Or.inr ⟨by rfl,rfl⟩) ?_ ?_
 rotate_left
 ·(
 simp only[zP,i64_w,i32_w]
 rfl)
 refine pure_ (i:=4) (N:=some 53) (v:=undef) (a':=?_) (bN 28 31) rfl rfl (any_of a.out (by kernel_rfl)) (fun _ _ _ h=>h) (Or.inr ⟨by rfl,rfl⟩) ?_ ?_
 rotate_left
 ·(
 simp only[zP,i64_w,i32_w]
 rfl)
 refine pure_ (i:=5) (N:=some 54) (v:=undef) (a':=?_) (bN 28 63) rfl rfl (any_of a.out (by kernel_rfl)) (fun _ _ _ h=>h) (Or.inr ⟨by rfl,rfl⟩) ?_ ?_
 rotate_left
 ·(
 simp only[zP,i64_w,i32_w]
 rfl)
 refine pure_ (i:=6) (N:=some 55) (v:=undef) (a':=?_) (bN 28 127) rfl rfl (any_of a.out (by kernel_rfl)) (fun _ _ _ h=>h) (Or.inr ⟨by rfl,rfl⟩) ?_ ?_
 rotate_left
 ·(
 simp only[zP,i64_w,i32_w]
 rfl)
 refine pure_ (i:=7) (N:=some 56) (v:=?_) (a':=?_) (bN 28 255) rfl rfl (any_of a.out (by kernel_rfl)) (fun _ _ _ h=>h) (Or.inl ⟨by rfl,?_⟩) ?_ ?_
 rotate_left
 ·(
 intro w'
 go_simp
 with_reducible rfl)
 rotate_left
 ·(
 simp only[zP,i64_w,i32_w]
 rfl)
 refine pure_ (i:=8) (N:=some 57) (v:=?_) (a':=?_) (bN 28 511) rfl rfl (any_of a.out (by kernel_rfl)) (fun _ _ _ h=>h) (Or.inl ⟨by rfl,?_⟩) ?_ ?_
 rotate_left
 ·(
 intro w'
 go_simp
 with_reducible rfl)
 rotate_left
 ·(
 simp only[zP,i64_w,i32_w]
 rfl)
 refine pure_ (i:=9) (N:=some 58) (v:=undef) (a':=?_) (bN 28 1023) rfl rfl (any_of a.out (by kernel_rfl)) (fun _ _ _ h=>h) (Or.inr ⟨by rfl,rfl⟩) ?_ ?_
 rotate_left
 ·(
 simp only[zP,i64_w,i32_w]
 rfl)
 refine pure_ (i:=10) (N:=some 59) (v:=undef) (a':=?_) (bN 28 2047) rfl rfl (any_of a.out (by kernel_rfl)) (fun _ _ _ h=>h) (Or.inr ⟨by rfl,rfl⟩) ?_ ?_
 rotate_left
 ·(
 simp only[zP,i64_w,i32_w]
 rfl)
 refine pure_ (i:=11) (N:=some 60) (v:=undef) (a':=?_) (bN 28 4095) rfl rfl (any_of a.out (by kernel_rfl)) (fun _ _ _ h=>h) (Or.inr ⟨by rfl,rfl⟩) ?_ ?_
 rotate_left
 ·(
 simp only[zP,i64_w,i32_w]
 rfl)
 refine pure_ (i:=12) (N:=some 61) (v:=undef) (a':=?_) (bN 28 8191) rfl rfl (any_of a.out (by kernel_rfl)) (fun _ _ _ h=>h) (Or.inr ⟨by rfl,rfl⟩) ?_ ?_
 rotate_left
 ·(
 simp only[zP,i64_w,i32_w]
 rfl)
 refine pure_ (i:=13) (N:=some 62) (v:=undef) (a':=?_) (bN 28 16383) rfl rfl (any_of a.out (by kernel_rfl)) (fun _ _ _ h=>h) (Or.inr ⟨by rfl,rfl⟩) ?_ ?_
 rotate_left
 ·(
 simp only[zP,i64_w,i32_w]
 rfl)
 refine pure_ (i:=14) (N:=some 63) (v:=undef) (a':=?_) (bN 28 32767) rfl rfl (any_of a.out (by kernel_rfl)) (fun _ _ _ h=>h) (Or.inr ⟨by rfl,rfl⟩) ?_ ?_
 rotate_left
 ·(
 simp only[zP,i64_w,i32_w]
 rfl)
 refine pure_ (i:=15) (N:=some 64) (v:=?_) (a':=?_) (bN 28 65535) rfl rfl (any_of a.out (by kernel_rfl)) (fun _ _ _ h=>h) (Or.inl ⟨by rfl,?_⟩) ?_ ?_
 rotate_left
 ·(
 intro w'
 go_simp
 with_reducible rfl)
 rotate_left
 ·(
 simp only[zP,i64_w,i32_w]
 rfl)
 refine pure_ (i:=16) (N:=some 65) (v:=?_) (a':=?_) (bN 28 131071) rfl rfl (any_of a.out (by kernel_rfl)) (fun _ _ _ h=>h) (Or.inl ⟨by rfl,?_⟩) ?_ ?_
 rotate_left
 ·(
 intro w'
 go_simp
 with_reducible rfl)
 rotate_left
 ·(
 simp only[zP,i64_w,i32_w]
 rfl)
 refine pure_ (i:=17) (N:=some 66) (v:=undef) (a':=?_) (bN 28 262143) rfl rfl (any_of a.out (by kernel_rfl)) (fun _ _ _ h=>h) (Or.inr ⟨by rfl,rfl⟩) ?_ ?_
 rotate_left
 ·(
 simp only[zP,i64_w,i32_w]
 rfl)
 refine pure_ (i:=18) (N:=some 67) (v:=undef) (a':=?_) (bN 28 524287) rfl rfl (any_of a.out (by kernel_rfl)) (fun _ _ _ h=>h) (Or.inr ⟨by rfl,rfl⟩) ?_ ?_
 rotate_left
 ·(
 simp only[zP,i64_w,i32_w]
 rfl)
 refine pure_ (i:=19) (N:=some 68) (v:=?_) (a':=?_) (bN 28 1048575) rfl rfl (any_of a.out (by kernel_rfl)) (fun _ _ _ h=>h) (Or.inl ⟨by rfl,?_⟩) ?_ ?_
 rotate_left
 ·(
 intro w'
 go_simp
 with_reducible rfl)
 rotate_left
 ·(
 simp only[zP,i64_w,i32_w]
 rfl)
 refine pure_ (i:=20) (N:=some 69) (v:=?_) (a':=?_) (bN 28 2097151) rfl rfl (any_of a.out (by kernel_rfl)) (fun _ _ _ h=>h) (Or.inl ⟨by rfl,?_⟩) ?_ ?_
 rotate_left
 ·(
 intro w'
 go_simp
 with_reducible rfl)
 rotate_left
 ·(
 simp only[zP,i64_w,i32_w]
 rfl)
 refine pure_ (i:=21) (N:=some 70) (v:=undef) (a':=?_) (bN 28 4194303) rfl rfl (any_of a.out (by kernel_rfl)) (fun _ _ _ h=>h) (Or.inr ⟨by rfl,rfl⟩) ?_ ?_
 rotate_left
 ·(
 simp only[zP,i64_w,i32_w]
 rfl)
 refine pure_ (i:=22) (N:=some 71) (v:=undef) (a':=?_) (bN 28 8388607) rfl rfl (any_of a.out (by kernel_rfl)) (fun _ _ _ h=>h) (Or.inr ⟨by rfl,rfl⟩) ?_ ?_
 rotate_left
 ·(
 simp only[zP,i64_w,i32_w]
 rfl)
 refine pure_ (i:=23) (N:=some 72) (v:=undef) (a':=?_) (bN 28 16777215) rfl rfl (any_of a.out (by kernel_rfl)) (fun _ _ _ h=>h) (Or.inr ⟨by rfl,rfl⟩) ?_ ?_
 rotate_left
 ·(
 simp only[zP,i64_w,i32_w]
 rfl)
 refine pure_ (i:=24) (N:=some 73) (v:=undef) (a':=?_) (bN 28 33554431) rfl rfl (any_of a.out (by kernel_rfl)) (fun _ _ _ h=>h) (Or.inr ⟨by rfl,rfl⟩) ?_ ?_
 rotate_left
 ·(
 simp only[zP,i64_w,i32_w]
 rfl)
 refine pure_ (i:=25) (N:=some 74) (v:=undef) (a':=?_) (bN 28 67108863) rfl rfl (any_of a.out (by kernel_rfl)) (fun _ _ _ h=>h) (Or.inr ⟨by rfl,rfl⟩) ?_ ?_
 rotate_left
 ·(
 simp only[zP,i64_w,i32_w]
 rfl)
 refine pure_ (i:=26) (N:=some 75) (v:=undef) (a':=?_) (bN 28 134217727) rfl rfl (any_of a.out (by kernel_rfl)) (fun _ _ _ h=>h) (Or.inr ⟨by rfl,rfl⟩) ?_ ?_
 rotate_left
 ·(
 simp only[zP,i64_w,i32_w]
 rfl)
 refine pure_ (i:=27) (N:=some 76) (v:=?_) (a':=?_) (bN 28 268435455) rfl rfl (any_of a.out (by kernel_rfl)) (fun _ _ _ h=>h) (Or.inl ⟨by rfl,?_⟩) ?_ ?_
 rotate_left
 ·(
 intro w'
 go_simp
 with_reducible rfl)
 rotate_left
 ·(
 simp only[zP,i64_w,i32_w]
 rfl)
 refine done_ (done_of a.out (by kernel_rfl)) ?_
 try go_wp2
 go_meet
 case rel=>exact⟨_,(true),sr,H',⟨by have:=d.out;have:=j.out;have:=p.out;first|omega|exact Nat.le_refl _⟩,⟨sb⟩⟩)
 rw[if_neg z]at H
 have c16b0:=zF z
 clear z
 (first|rw[c16b0]|(simp only[i64_w,i32_w];rw[c16b0])|rw[c16b2]|skip)
 by_cases q:b=(a0.size:Int)
 ·(
 rw[if_pos q]at H
 have c18b0:(b==(a0.size:Int))=true:=zE q
 have c18b1:(b !=(a0.size:Int))=false:=zY q
 clear q
 have H':=zM H
 clear H
 try go_wp2
 replace HB:=zM (below_drew1 HB.out)
 refine start_ (n:=28) (S:=fun w'=>True) (ds:=[]) #[false,false,false,false,false,false,false,false,false,false,false,false,false,false,false,false,false,false,false,false,false,false,false,false,false,false,false,false] (by kernel_rfl) rfl rfl trivial (fun hHeld=>?_);refine with_tabW spec_OpenImage.tab9 spec_OpenImage.bits9 (fun a T=>?_)
 generalize wr.drew=w19 at HB hHeld ⊢
 refine pure_ (i:=0) (N:=some 49) (v:=?_) (a':=?_) (bN 28 1) rfl rfl (any_of a.out (by kernel_rfl)) (fun _ _ _ h=>h) (Or.inl ⟨by rfl,?_⟩) ?_ ?_
 rotate_left
 ·(
 intro w'
 go_simp
 with_reducible rfl)
 rotate_left
 ·(
 simp only[zP,i64_w,i32_w]
 rfl)
 refine pure_ (i:=1) (N:=some 50) (v:=?_) (a':=?_) (bN 28 3) rfl rfl (any_of a.out (by kernel_rfl)) (fun _ _ _ h=>h) (Or.inl ⟨by rfl,?_⟩) ?_ ?_
 rotate_left
 ·(
 intro w'
 go_simp
 with_reducible rfl)
 rotate_left
 ·(
 simp only[zP,i64_w,i32_w]
 rfl)
 refine pure_ (i:=2) (N:=some 51) (v:=?_) (a':=?_) (bN 28 7) rfl rfl (any_of a.out (by kernel_rfl)) (fun _ _ _ h=>h) (Or.inl ⟨by rfl,?_⟩) ?_ ?_
 rotate_left
 ·(
 intro w'
 go_simp
 with_reducible rfl)
 rotate_left
 ·(
 simp only[zP,i64_w,i32_w]
 rfl)
 refine pure_ (i:=3) (N:=some 52) (v:=?_) (a':=?_) (bN 28 15) rfl rfl (any_of a.out (by kernel_rfl)) (fun _ _ _ h=>h) (Or.inl ⟨by rfl,?_⟩) ?_ ?_
 rotate_left
 ·(
 intro w'
 go_simp
 with_reducible rfl)
 rotate_left
 ·(
 simp only[zP,i64_w,i32_w]
 rfl)
 refine pure_ (i:=4) (N:=some 53) (v:=?_) (a':=?_) (bN 28 31) rfl rfl (any_of a.out (by kernel_rfl)) (fun _ _ _ h=>h) (Or.inl ⟨by rfl,?_⟩) ?_ ?_
 rotate_left
 ·(
 intro w'
 go_simp
 with_reducible rfl)
 rotate_left
 ·(
 simp only[zP,i64_w,i32_w]
 rfl)
 refine pure_ (i:=5) (N:=some 54) (v:=?_) (a':=?_) (bN 28 63) rfl rfl (any_of a.out (by kernel_rfl)) (fun _ _ _ h=>h) (Or.inl ⟨by rfl,?_⟩) ?_ ?_
 rotate_left
 ·(
 intro w'
 go_simp
 with_reducible rfl)
 rotate_left
 ·(
 simp only[zP,i64_w,i32_w]
 rfl)
 refine pure_ (i:=6) (N:=some 55) (v:=?_) (a':=?_) (bN 28 127) rfl rfl (any_of a.out (by kernel_rfl)) (fun _ _ _ h=>h) (Or.inl ⟨by rfl,?_⟩) ?_ ?_
 rotate_left
 ·(
 intro w'
 go_simp
 with_reducible rfl)
 rotate_left
 ·(
 simp only[zP,i64_w,i32_w]
 rfl)
 refine pure_ (i:=7) (N:=some 56) (v:=?_) (a':=?_) (bN 28 255) rfl rfl (any_of a.out (by kernel_rfl)) (fun _ _ _ h=>h) (Or.inl ⟨by rfl,?_⟩) ?_ ?_
 rotate_left
 ·(
 intro w'
 go_simp
 with_reducible rfl)
 rotate_left
 ·(
 simp only[zP,i64_w,i32_w]
 rfl)
 refine pure_ (i:=8) (N:=some 57) (v:=?_) (a':=?_) (bN 28 511) rfl rfl (any_of a.out (by kernel_rfl)) (fun _ _ _ h=>h) (Or.inl ⟨by rfl,?_⟩) ?_ ?_
 rotate_left
 ·(
 intro w'
 go_simp
 with_reducible rfl)
 rotate_left
 ·(
 simp only[zP,i64_w,i32_w]
 rfl)
 refine pure_ (i:=9) (N:=some 58) (v:=undef) (a':=?_) (bN 28 1023) rfl rfl (any_of a.out (by kernel_rfl)) (fun _ _ _ h=>h) (Or.inr ⟨by rfl,rfl⟩) ?_ ?_
 rotate_left
 ·(
 simp only[zP,i64_w,i32_w]
 rfl)
 refine pure_ (i:=10) (N:=some 59) (v:=undef) (a':=?_) (bN 28 2047) rfl rfl (any_of a.out (by kernel_rfl)) (fun _ _ _ h=>h) (Or.inr ⟨by rfl,rfl⟩) ?_ ?_
 rotate_left
 ·(
 simp only[zP,i64_w,i32_w]
 rfl)
 refine pure_ (i:=11) (N:=some 60) (v:=undef) (a':=?_) (bN 28 4095) rfl rfl (any_of a.out (by kernel_rfl)) (fun _ _ _ h=>h) (Or.inr ⟨by rfl,rfl⟩) ?_ ?_
 rotate_left
 ·(
 simp only[zP,i64_w,i32_w]
 rfl)
 refine pure_ (i:=12) (N:=some 61) (v:=undef) (a':=?_) (bN 28 8191) rfl rfl (any_of a.out (by kernel_rfl)) (fun _ _ _ h=>h) (Or.inr ⟨by rfl,rfl⟩) ?_ ?_
 rotate_left
 ·(
 simp only[zP,i64_w,i32_w]
 rfl)
 refine pure_ (i:=13) (N:=some 62) (v:=undef) (a':=?_) (bN 28 16383) rfl rfl (any_of a.out (by kernel_rfl)) (fun _ _ _ h=>h) (Or.inr ⟨by rfl,rfl⟩) ?_ ?_
 rotate_left
 ·(
 simp only[zP,i64_w,i32_w]
 rfl)
 refine pure_ (i:=14) (N:=some 63) (v:=undef) (a':=?_) (bN 28 32767) rfl rfl (any_of a.out (by kernel_rfl)) (fun _ _ _ h=>h) (Or.inr ⟨by rfl,rfl⟩) ?_ ?_
 rotate_left
 ·(
 simp only[zP,i64_w,i32_w]
 rfl)
 refine pure_ (i:=15) (N:=some 64) (v:=?_) (a':=?_) (bN 28 65535) rfl rfl (any_of a.out (by kernel_rfl)) (fun _ _ _ h=>h) (Or.inl ⟨by rfl,?_⟩) ?_ ?_
 rotate_left
 ·(
 intro w'
 go_simp
 with_reducible rfl)
 rotate_left
 ·(
 simp only[zP,i64_w,i32_w]
 rfl)
 refine pure_ (i:=16) (N:=some 65) (v:=?_) (a':=?_) (bN 28 131071) rfl rfl (any_of a.out (by kernel_rfl)) (fun _ _ _ h=>h) (Or.inl ⟨by rfl,?_⟩) ?_ ?_
 rotate_left
 ·(
 intro w'
 go_simp
 with_reducible rfl)
 rotate_left
 ·(
 simp only[zP,i64_w,i32_w]
 rfl)
 refine pure_ (i:=17) (N:=some 66) (v:=undef) (a':=?_) (bN 28 262143) rfl rfl (any_of a.out (by kernel_rfl)) (fun _ _ _ h=>h) (Or.inr ⟨by rfl,rfl⟩) ?_ ?_
 rotate_left
 ·(
 simp only[zP,i64_w,i32_w]
 rfl)
 refine pure_ (i:=18) (N:=some 67) (v:=undef) (a':=?_) (bN 28 524287) rfl rfl (any_of a.out (by kernel_rfl)) (fun _ _ _ h=>h) (Or.inr ⟨by rfl,rfl⟩) ?_ ?_
 rotate_left
 ·(
 simp only[zP,i64_w,i32_w]
 rfl)
 refine pure_ (i:=19) (N:=some 68) (v:=?_) (a':=?_) (bN 28 1048575) rfl rfl (any_of a.out (by kernel_rfl)) (fun _ _ _ h=>h) (Or.inl ⟨by rfl,?_⟩) ?_ ?_
 rotate_left
 ·(
 intro w'
 go_simp
 with_reducible rfl)
 rotate_left
 ·(
 simp only[zP,i64_w,i32_w]
 rfl)
 refine pure_ (i:=20) (N:=some 69) (v:=?_) (a':=?_) (bN 28 2097151) rfl rfl (any_of a.out (by kernel_rfl)) (fun _ _ _ h=>h) (Or.inl ⟨by rfl,?_⟩) ?_ ?_
 rotate_left
 ·(
 intro w'
 go_simp
 with_reducible rfl)
 rotate_left
 ·(
 simp only[zP,i64_w,i32_w]
 rfl)
 refine pure_ (i:=21) (N:=some 70) (v:=undef) (a':=?_) (bN 28 4194303) rfl rfl (any_of a.out (by kernel_rfl)) (fun _ _ _ h=>h) (Or.inr ⟨by rfl,rfl⟩) ?_ ?_
 rotate_left
 ·(
 simp only[zP,i64_w,i32_w]
 rfl)
 refine pure_ (i:=22) (N:=some 71) (v:=undef) (a':=?_) (bN 28 8388607) rfl rfl (any_of a.out (by kernel_rfl)) (fun _ _ _ h=>h) (Or.inr ⟨by rfl,rfl⟩) ?_ ?_
 rotate_left
 ·(
 simp only[zP,i64_w,i32_w]
 rfl)
 refine pure_ (i:=23) (N:=some 72) (v:=undef) (a':=?_) (bN 28 16777215) rfl rfl (any_of a.out (by kernel_rfl)) (fun _ _ _ h=>h) (Or.inr ⟨by rfl,rfl⟩) ?_ ?_
 rotate_left
 ·(
 simp only[zP,i64_w,i32_w]
 rfl)
 refine pure_ (i:=24) (N:=some 73) (v:=undef) (a':=?_) (bN 28 33554431) rfl rfl (any_of a.out (by kernel_rfl)) (fun _ _ _ h=>h) (Or.inr ⟨by rfl,rfl⟩) ?_ ?_
 rotate_left
 ·(
 simp only[zP,i64_w,i32_w]
 rfl)
 refine pure_ (i:=25) (N:=some 74) (v:=undef) (a':=?_) (bN 28 67108863) rfl rfl (any_of a.out (by kernel_rfl)) (fun _ _ _ h=>h) (Or.inr ⟨by rfl,rfl⟩) ?_ ?_
 rotate_left
 ·(
 simp only[zP,i64_w,i32_w]
 rfl)
 refine pure_ (i:=26) (N:=some 75) (v:=undef) (a':=?_) (bN 28 134217727) rfl rfl (any_of a.out (by kernel_rfl)) (fun _ _ _ h=>h) (Or.inr ⟨by rfl,rfl⟩) ?_ ?_
 rotate_left
 ·(
 simp only[zP,i64_w,i32_w]
 rfl)
 refine pure_ (i:=27) (N:=some 76) (v:=?_) (a':=?_) (bN 28 268435455) rfl rfl (any_of a.out (by kernel_rfl)) (fun _ _ _ h=>h) (Or.inl ⟨by rfl,?_⟩) ?_ ?_
 rotate_left
 ·(
 intro w'
 go_simp
 with_reducible rfl)
 rotate_left
 ·(
 simp only[zP,i64_w,i32_w]
 rfl)
 refine done_ (done_of a.out (by kernel_rfl)) ?_
 try go_wp2
 go_meet
 case rel=>exact⟨_,(true),sr,H',⟨by have:=d.out;have:=j.out;have:=p.out;first|omega|exact Nat.le_refl _⟩,⟨sb⟩⟩)
 rw[if_neg q]at H
 have c18b0:(b==(a0.size:Int))=false:=zN q
 have c18b1:(b !=(a0.size:Int))=true:=zX q
 obtain⟨ji20,hji20⟩:∃j_:Int,(wrap64 (b- 2))=j_:=⟨_,rfl⟩
 replace H:(if 0≤(ji20)then(if(ji20)≤b then(if b≤(a0.size:Int)then(if(a0.extract ((ji20):Int).toNat (b:Int).toNat).toList=([32,35]:List UInt8)then(if c>4294967295 then(spec_OpenImage.j3 k3 a0 b c true)else((spec_l06Digits.f k3 c).bind fun U=>(if 0≤b then(spec_OpenImage.j3 k3 a0 b c (U.toList !=(a0.extract (b:Int).toNat a0.size).toList))else(none))))else(spec_OpenImage.j3 k3 a0 b c true))else(none))else(none))else(none))=some (r1,r2):=by first|(rw[hji20]at H;exact H)|(simp only[hji20]at H ⊢;exact H)
 have hji20w:(IntKind.i64.wrap (b- 2))=ji20:=(i64_w _).trans hji20
 by_cases E:0≤(ji20)
 ·(
 rw[if_pos E]at H
 have c21b0:=eq_true E
 have c21b1:=zT E
 clear E
 by_cases F:(ji20)≤b
 ·(
 rw[if_pos F]at H
 have c22b0:=eq_true F
 have c22b1:=zT F
 clear F
 by_cases G:b≤(a0.size:Int)
 ·(
 rw[if_pos G]at H
 have c23b0:=eq_true G
 have c23b1:=zT G
 clear G
 by_cases r:(a0.extract ((ji20):Int).toNat (b:Int).toNat).toList=([32,35]:List UInt8)
 ·(
 rw[if_pos r]at H
 have c24b0:((a0.extract ((ji20):Int).toNat (b:Int).toNat).toList==([32,35]:List UInt8))=true:=zE r
 have c24b1:((a0.extract ((ji20):Int).toNat (b:Int).toNat).toList !=([32,35]:List UInt8))=false:=zY r
 clear r
 by_cases A:c>4294967295
 ·(
 rw[if_pos A]at H
 have c25b0:decide (4294967295<c)=true:=zT A
 clear A
 have H':=zM H
 clear H
 try go_wp2
 replace HB:=zM (below_drew1 HB.out)
 refine start_ (n:=28) (S:=fun w'=>True) (ds:=[]) #[false,false,false,false,false,false,false,false,false,false,false,false,false,false,false,false,false,false,false,false,false,false,false,false,false,false,false,false] (by kernel_rfl) rfl rfl trivial (fun hHeld=>?_);refine with_tabW spec_OpenImage.tab9 spec_OpenImage.bits9 (fun a T=>?_)
 generalize wr.drew=w26 at HB hHeld ⊢
 refine pure_ (i:=0) (N:=some 49) (v:=?_) (a':=?_) (bN 28 1) rfl rfl (any_of a.out (by kernel_rfl)) (fun _ _ _ h=>h) (Or.inl ⟨by rfl,?_⟩) ?_ ?_
 rotate_left
 ·(
 intro w'
 go_simp
 with_reducible rfl)
 rotate_left
 ·(
 simp only[zP,i64_w,i32_w]
 rfl)
 refine pure_ (i:=1) (N:=some 50) (v:=?_) (a':=?_) (bN 28 3) rfl rfl (any_of a.out (by kernel_rfl)) (fun _ _ _ h=>h) (Or.inl ⟨by rfl,?_⟩) ?_ ?_
 rotate_left
 ·(
 intro w'
 go_simp
 with_reducible rfl)
 rotate_left
 ·(
 simp only[zP,i64_w,i32_w]
 rfl)
 refine pure_ (i:=2) (N:=some 51) (v:=?_) (a':=?_) (bN 28 7) rfl rfl (any_of a.out (by kernel_rfl)) (fun _ _ _ h=>h) (Or.inl ⟨by rfl,?_⟩) ?_ ?_
 rotate_left
 ·(
 intro w'
 go_simp
 with_reducible rfl)
 rotate_left
 ·(
 simp only[zP,i64_w,i32_w]
 rfl)
 refine pure_ (i:=3) (N:=some 52) (v:=?_) (a':=?_) (bN 28 15) rfl rfl (any_of a.out (by kernel_rfl)) (fun _ _ _ h=>h) (Or.inl ⟨by rfl,?_⟩) ?_ ?_
 rotate_left
 ·(
 intro w'
 go_simp
 with_reducible rfl)
 rotate_left
 ·(
 simp only[zP,i64_w,i32_w]
 rfl)
 refine pure_ (i:=4) (N:=some 53) (v:=?_) (a':=?_) (bN 28 31) rfl rfl (any_of a.out (by kernel_rfl)) (fun _ _ _ h=>h) (Or.inl ⟨by rfl,?_⟩) ?_ ?_
 rotate_left
 ·(
 intro w'
 go_simp
 with_reducible rfl)
 rotate_left
 ·(
 simp only[zP,i64_w,i32_w]
 rfl)
 refine pure_ (i:=5) (N:=some 54) (v:=?_) (a':=?_) (bN 28 63) rfl rfl (any_of a.out (by kernel_rfl)) (fun _ _ _ h=>h) (Or.inl ⟨by rfl,?_⟩) ?_ ?_
 rotate_left
 ·(
 intro w'
 go_simp
 with_reducible rfl)
 rotate_left
 ·(
 simp only[zP,i64_w,i32_w]
 rfl)
 refine pure_ (i:=6) (N:=some 55) (v:=?_) (a':=?_) (bN 28 127) rfl rfl (any_of a.out (by kernel_rfl)) (fun _ _ _ h=>h) (Or.inl ⟨by rfl,?_⟩) ?_ ?_
 rotate_left
 ·(
 intro w'
 go_simp
 with_reducible rfl)
 rotate_left
 ·(
 simp only[zP,i64_w,i32_w]
 rfl)
 refine pure_ (i:=7) (N:=some 56) (v:=?_) (a':=?_) (bN 28 255) rfl rfl (any_of a.out (by kernel_rfl)) (fun _ _ _ h=>h) (Or.inl ⟨by rfl,?_⟩) ?_ ?_
 rotate_left
 ·(
 intro w'
 go_simp
 with_reducible rfl)
 rotate_left
 ·(
 simp only[zP,i64_w,i32_w]
 rfl)
 refine pure_ (i:=8) (N:=some 57) (v:=?_) (a':=?_) (bN 28 511) rfl rfl (any_of a.out (by kernel_rfl)) (fun _ _ _ h=>h) (Or.inl ⟨by rfl,?_⟩) ?_ ?_
 rotate_left
 ·(
 intro w'
 go_simp
 with_reducible rfl)
 rotate_left
 ·(
 simp only[zP,i64_w,i32_w]
 rfl)
 refine pure_ (i:=9) (N:=some 58) (v:=?_) (a':=?_) (bN 28 1023) rfl rfl (any_of a.out (by kernel_rfl)) (fun _ _ _ h=>h) (Or.inl ⟨by rfl,?_⟩) ?_ ?_
 rotate_left
 ·(
 intro w'
 go_simp
 with_reducible rfl)
 rotate_left
 ·(
 simp only[zP,i64_w,i32_w]
 rfl)
 refine pure_ (i:=10) (N:=some 59) (v:=?_) (a':=?_) (bN 28 2047) rfl rfl (any_of a.out (by kernel_rfl)) (fun _ _ _ h=>h) (Or.inl ⟨by rfl,?_⟩) ?_ ?_
 rotate_left
 ·(
 intro w'
 go_simp
 with_reducible rfl)
 rotate_left
 ·(
 simp only[zP,i64_w,i32_w]
 rfl)
 refine pure_ (i:=11) (N:=some 60) (v:=?_) (a':=?_) (bN 28 4095) rfl rfl (any_of a.out (by kernel_rfl)) (fun _ _ _ h=>h) (Or.inl ⟨by rfl,?_⟩) ?_ ?_
 rotate_left
 ·(
 intro w'
 go_simp
 with_reducible rfl)
 rotate_left
 ·(
 simp only[zP,i64_w,i32_w]
 rfl)
 refine pure_ (i:=12) (N:=some 61) (v:=?_) (a':=?_) (bN 28 8191) rfl rfl (any_of a.out (by kernel_rfl)) (fun _ _ _ h=>h) (Or.inl ⟨by rfl,?_⟩) ?_ ?_
 rotate_left
 ·(
 intro w'
 go_simp
 with_reducible rfl)
 rotate_left
 ·(
 simp only[zP,i64_w,i32_w]
 rfl)
 refine pure_ (i:=13) (N:=some 62) (v:=?_) (a':=?_) (bN 28 16383) rfl rfl (any_of a.out (by kernel_rfl)) (fun _ _ _ h=>h) (Or.inl ⟨by rfl,?_⟩) ?_ ?_
 rotate_left
 ·(
 intro w'
 go_simp
 with_reducible rfl)
 rotate_left
 ·(
 simp only[zP,i64_w,i32_w]
 rfl)
 refine pure_ (i:=14) (N:=some 63) (v:=?_) (a':=?_) (bN 28 32767) rfl rfl (any_of a.out (by kernel_rfl)) (fun _ _ _ h=>h) (Or.inl ⟨by rfl,?_⟩) ?_ ?_
 rotate_left
 ·(
 intro w'
 go_simp
 with_reducible rfl)
 rotate_left
 ·(
 simp only[zP,i64_w,i32_w]
 rfl)
 refine pure_ (i:=15) (N:=some 64) (v:=?_) (a':=?_) (bN 28 65535) rfl rfl (any_of a.out (by kernel_rfl)) (fun _ _ _ h=>h) (Or.inl ⟨by rfl,?_⟩) ?_ ?_
 rotate_left
 ·(
 intro w'
 go_simp
 with_reducible rfl)
 rotate_left
 ·(
 simp only[zP,i64_w,i32_w]
 rfl)
 refine pure_ (i:=16) (N:=some 65) (v:=?_) (a':=?_) (bN 28 131071) rfl rfl (any_of a.out (by kernel_rfl)) (fun _ _ _ h=>h) (Or.inl ⟨by rfl,?_⟩) ?_ ?_
 rotate_left
 ·(
 intro w'
 go_simp
 with_reducible rfl)
 rotate_left
 ·(
 simp only[zP,i64_w,i32_w]
 rfl)
 refine pure_ (i:=17) (N:=some 66) (v:=?_) (a':=?_) (bN 28 262143) rfl rfl (any_of a.out (by kernel_rfl)) (fun _ _ _ h=>h) (Or.inl ⟨by rfl,?_⟩) ?_ ?_
 rotate_left
 ·(
 intro w'
 go_simp
 with_reducible rfl)
 rotate_left
 ·(
 simp only[zP,i64_w,i32_w]
 rfl)
 refine pure_ (i:=18) (N:=some 67) (v:=?_) (a':=?_) (bN 28 524287) rfl rfl (any_of a.out (by kernel_rfl)) (fun _ _ _ h=>h) (Or.inl ⟨by rfl,?_⟩) ?_ ?_
 rotate_left
 ·(
 intro w'
 go_simp
 with_reducible rfl)
 rotate_left
 ·(
 simp only[zP,i64_w,i32_w]
 rfl)
 refine pure_ (i:=19) (N:=some 68) (v:=?_) (a':=?_) (bN 28 1048575) rfl rfl (any_of a.out (by kernel_rfl)) (fun _ _ _ h=>h) (Or.inl ⟨by rfl,?_⟩) ?_ ?_
 rotate_left
 ·(
 intro w'
 go_simp
 with_reducible rfl)
 rotate_left
 ·(
 simp only[zP,i64_w,i32_w]
 rfl)
 refine pure_ (i:=20) (N:=some 69) (v:=?_) (a':=?_) (bN 28 2097151) rfl rfl (any_of a.out (by kernel_rfl)) (fun _ _ _ h=>h) (Or.inl ⟨by rfl,?_⟩) ?_ ?_
 rotate_left
 ·(
 intro w'
 go_simp
 with_reducible rfl)
 rotate_left
 ·(
 simp only[zP,i64_w,i32_w]
 rfl)
 refine pure_ (i:=21) (N:=some 70) (v:=undef) (a':=?_) (bN 28 4194303) rfl rfl (any_of a.out (by kernel_rfl)) (fun _ _ _ h=>h) (Or.inr ⟨by rfl,rfl⟩) ?_ ?_
 rotate_left
 ·(
 simp only[zP,i64_w,i32_w]
 rfl)
 refine pure_ (i:=22) (N:=some 71) (v:=undef) (a':=?_) (bN 28 8388607) rfl rfl (any_of a.out (by kernel_rfl)) (fun _ _ _ h=>h) (Or.inr ⟨by rfl,rfl⟩) ?_ ?_
 rotate_left
 ·(
 simp only[zP,i64_w,i32_w]
 rfl)
 refine pure_ (i:=23) (N:=some 72) (v:=undef) (a':=?_) (bN 28 16777215) rfl rfl (any_of a.out (by kernel_rfl)) (fun _ _ _ h=>h) (Or.inr ⟨by rfl,rfl⟩) ?_ ?_
 rotate_left
 ·(
 simp only[zP,i64_w,i32_w]
 rfl)
 refine pure_ (i:=24) (N:=some 73) (v:=undef) (a':=?_) (bN 28 33554431) rfl rfl (any_of a.out (by kernel_rfl)) (fun _ _ _ h=>h) (Or.inr ⟨by rfl,rfl⟩) ?_ ?_
 rotate_left
 ·(
 simp only[zP,i64_w,i32_w]
 rfl)
 refine pure_ (i:=25) (N:=some 74) (v:=undef) (a':=?_) (bN 28 67108863) rfl rfl (any_of a.out (by kernel_rfl)) (fun _ _ _ h=>h) (Or.inr ⟨by rfl,rfl⟩) ?_ ?_
 rotate_left
 ·(
 simp only[zP,i64_w,i32_w]
 rfl)
 refine pure_ (i:=26) (N:=some 75) (v:=undef) (a':=?_) (bN 28 134217727) rfl rfl (any_of a.out (by kernel_rfl)) (fun _ _ _ h=>h) (Or.inr ⟨by rfl,rfl⟩) ?_ ?_
 rotate_left
 ·(
 simp only[zP,i64_w,i32_w]
 rfl)
 refine pure_ (i:=27) (N:=some 76) (v:=?_) (a':=?_) (bN 28 268435455) rfl rfl (any_of a.out (by kernel_rfl)) (fun _ _ _ h=>h) (Or.inl ⟨by rfl,?_⟩) ?_ ?_
 rotate_left
 ·(
 intro w'
 go_simp
 with_reducible rfl)
 rotate_left
 ·(
 simp only[zP,i64_w,i32_w]
 rfl)
 refine done_ (done_of a.out (by kernel_rfl)) ?_
 try go_wp2
 go_meet
 case rel=>exact⟨_,(true),sr,H',⟨by have:=d.out;have:=j.out;have:=p.out;first|omega|exact Nat.le_refl _⟩,⟨sb⟩⟩)
 rw[if_neg A]at H
 have c25b0:decide (4294967295<c)=false:=zF A
 clear A
 obtain⟨U,af,H⟩:=sO H
 by_cases I:0≤b
 ·(
 rw[if_pos I]at H
 have c28b0:=eq_true I
 have c28b1:=zT I
 clear I
 have c29b0:=eq_true (zzA:b≤(a0.size:Int))
 have H':=zM H
 clear H
 try go_wp2
 replace HB:=zM (below_drew1 HB.out)
 refine start_ (n:=28) (S:=fun w'=>True) (ds:=[]) #[false,false,false,false,false,false,false,false,false,false,false,false,false,false,false,false,false,false,false,false,false,false,false,false,false,false,false,false] (by kernel_rfl) rfl rfl trivial (fun hHeld=>?_);refine with_tabW spec_OpenImage.tab9 spec_OpenImage.bits9 (fun a T=>?_)
 generalize wr.drew=w30 at HB hHeld ⊢
 refine pure_ (i:=0) (N:=some 49) (v:=?_) (a':=?_) (bN 28 1) rfl rfl (any_of a.out (by kernel_rfl)) (fun _ _ _ h=>h) (Or.inl ⟨by rfl,?_⟩) ?_ ?_
 rotate_left
 ·(
 intro w'
 go_simp
 with_reducible rfl)
 rotate_left
 ·(
 simp only[zP,i64_w,i32_w]
 rfl)
 refine pure_ (i:=1) (N:=some 50) (v:=?_) (a':=?_) (bN 28 3) rfl rfl (any_of a.out (by kernel_rfl)) (fun _ _ _ h=>h) (Or.inl ⟨by rfl,?_⟩) ?_ ?_
 rotate_left
 ·(
 intro w'
 go_simp
 with_reducible rfl)
 rotate_left
 ·(
 simp only[zP,i64_w,i32_w]
 rfl)
 refine pure_ (i:=2) (N:=some 51) (v:=?_) (a':=?_) (bN 28 7) rfl rfl (any_of a.out (by kernel_rfl)) (fun _ _ _ h=>h) (Or.inl ⟨by rfl,?_⟩) ?_ ?_
 rotate_left
 ·(
 intro w'
 go_simp
 with_reducible rfl)
 rotate_left
 ·(
 simp only[zP,i64_w,i32_w]
 rfl)
 refine pure_ (i:=3) (N:=some 52) (v:=?_) (a':=?_) (bN 28 15) rfl rfl (any_of a.out (by kernel_rfl)) (fun _ _ _ h=>h) (Or.inl ⟨by rfl,?_⟩) ?_ ?_
 rotate_left
 ·(
 intro w'
 go_simp
 with_reducible rfl)
 rotate_left
 ·(
 simp only[zP,i64_w,i32_w]
 rfl)
 refine pure_ (i:=4) (N:=some 53) (v:=?_) (a':=?_) (bN 28 31) rfl rfl (any_of a.out (by kernel_rfl)) (fun _ _ _ h=>h) (Or.inl ⟨by rfl,?_⟩) ?_ ?_
 rotate_left
 ·(
 intro w'
 go_simp
 with_reducible rfl)
 rotate_left
 ·(
 simp only[zP,i64_w,i32_w]
 rfl)
 refine pure_ (i:=5) (N:=some 54) (v:=?_) (a':=?_) (bN 28 63) rfl rfl (any_of a.out (by kernel_rfl)) (fun _ _ _ h=>h) (Or.inl ⟨by rfl,?_⟩) ?_ ?_
 rotate_left
 ·(
 intro w'
 go_simp
 with_reducible rfl)
 rotate_left
 ·(
 simp only[zP,i64_w,i32_w]
 rfl)
 refine pure_ (i:=6) (N:=some 55) (v:=?_) (a':=?_) (bN 28 127) rfl rfl (any_of a.out (by kernel_rfl)) (fun _ _ _ h=>h) (Or.inl ⟨by rfl,?_⟩) ?_ ?_
 rotate_left
 ·(
 intro w'
 go_simp
 with_reducible rfl)
 rotate_left
 ·(
 simp only[zP,i64_w,i32_w]
 rfl)
 refine pure_ (i:=7) (N:=some 56) (v:=?_) (a':=?_) (bN 28 255) rfl rfl (any_of a.out (by kernel_rfl)) (fun _ _ _ h=>h) (Or.inl ⟨by rfl,?_⟩) ?_ ?_
 rotate_left
 ·(
 intro w'
 go_simp
 with_reducible rfl)
 rotate_left
 ·(
 simp only[zP,i64_w,i32_w]
 rfl)
 refine pure_ (i:=8) (N:=some 57) (v:=?_) (a':=?_) (bN 28 511) rfl rfl (any_of a.out (by kernel_rfl)) (fun _ _ _ h=>h) (Or.inl ⟨by rfl,?_⟩) ?_ ?_
 rotate_left
 ·(
 intro w'
 go_simp
 with_reducible rfl)
 rotate_left
 ·(
 simp only[zP,i64_w,i32_w]
 rfl)
 refine pure_ (i:=9) (N:=some 58) (v:=?_) (a':=?_) (bN 28 1023) rfl rfl (any_of a.out (by kernel_rfl)) (fun _ _ _ h=>h) (Or.inl ⟨by rfl,?_⟩) ?_ ?_
 rotate_left
 ·(
 intro w'
 go_simp
 with_reducible rfl)
 rotate_left
 ·(
 simp only[zP,i64_w,i32_w]
 rfl)
 refine pure_ (i:=10) (N:=some 59) (v:=?_) (a':=?_) (bN 28 2047) rfl rfl (any_of a.out (by kernel_rfl)) (fun _ _ _ h=>h) (Or.inl ⟨by rfl,?_⟩) ?_ ?_
 rotate_left
 ·(
 intro w'
 go_simp
 with_reducible rfl)
 rotate_left
 ·(
 simp only[zP,i64_w,i32_w]
 rfl)
 refine pure_ (i:=11) (N:=some 60) (v:=?_) (a':=?_) (bN 28 4095) rfl rfl (any_of a.out (by kernel_rfl)) (fun _ _ _ h=>h) (Or.inl ⟨by rfl,?_⟩) ?_ ?_
 rotate_left
 ·(
 intro w'
 go_simp
 with_reducible rfl)
 rotate_left
 ·(
 simp only[zP,i64_w,i32_w]
 rfl)
 refine pure_ (i:=12) (N:=some 61) (v:=?_) (a':=?_) (bN 28 8191) rfl rfl (any_of a.out (by kernel_rfl)) (fun _ _ _ h=>h) (Or.inl ⟨by rfl,?_⟩) ?_ ?_
 rotate_left
 ·(
 intro w'
 go_simp
 with_reducible rfl)
 rotate_left
 ·(
 simp only[zP,i64_w,i32_w]
 rfl)
 refine pure_ (i:=13) (N:=some 62) (v:=?_) (a':=?_) (bN 28 16383) rfl rfl (any_of a.out (by kernel_rfl)) (fun _ _ _ h=>h) (Or.inl ⟨by rfl,?_⟩) ?_ ?_
 rotate_left
 ·(
 intro w'
 go_simp
 with_reducible rfl)
 rotate_left
 ·(
 simp only[zP,i64_w,i32_w]
 rfl)
 refine pure_ (i:=14) (N:=some 63) (v:=?_) (a':=?_) (bN 28 32767) rfl rfl (any_of a.out (by kernel_rfl)) (fun _ _ _ h=>h) (Or.inl ⟨by rfl,?_⟩) ?_ ?_
 rotate_left
 ·(
 intro w'
 go_simp
 with_reducible rfl)
 rotate_left
 ·(
 simp only[zP,i64_w,i32_w]
 rfl)
 refine pure_ (i:=15) (N:=some 64) (v:=?_) (a':=?_) (bN 28 65535) rfl rfl (any_of a.out (by kernel_rfl)) (fun _ _ _ h=>h) (Or.inl ⟨by rfl,?_⟩) ?_ ?_
 rotate_left
 ·(
 intro w'
 go_simp
 with_reducible rfl)
 rotate_left
 ·(
 simp only[zP,i64_w,i32_w]
 rfl)
 refine pure_ (i:=16) (N:=some 65) (v:=?_) (a':=?_) (bN 28 131071) rfl rfl (any_of a.out (by kernel_rfl)) (fun _ _ _ h=>h) (Or.inl ⟨by rfl,?_⟩) ?_ ?_
 rotate_left
 ·(
 intro w'
 go_simp
 with_reducible rfl)
 rotate_left
 ·(
 simp only[zP,i64_w,i32_w]
 rfl)
 refine pure_ (i:=17) (N:=some 66) (v:=?_) (a':=?_) (bN 28 262143) rfl rfl (any_of a.out (by kernel_rfl)) (fun _ _ _ h=>h) (Or.inl ⟨by rfl,?_⟩) ?_ ?_
 rotate_left
 ·(
 intro w'
 go_simp
 with_reducible rfl)
 rotate_left
 ·(
 simp only[zP,i64_w,i32_w]
 rfl)
 refine pure_ (i:=18) (N:=some 67) (v:=?_) (a':=?_) (bN 28 524287) rfl rfl (any_of a.out (by kernel_rfl)) (fun _ _ _ h=>h) (Or.inl ⟨by rfl,?_⟩) ?_ ?_
 rotate_left
 ·(
 intro w'
 go_simp
 with_reducible rfl)
 rotate_left
 ·(
 simp only[zP,i64_w,i32_w]
 rfl)
 refine pure_ (i:=19) (N:=some 68) (v:=?_) (a':=?_) (bN 28 1048575) rfl rfl (any_of a.out (by kernel_rfl)) (fun _ _ _ h=>h) (Or.inl ⟨by rfl,?_⟩) ?_ ?_
 rotate_left
 ·(
 intro w'
 go_simp
 with_reducible rfl)
 rotate_left
 ·(
 simp only[zP,i64_w,i32_w]
 rfl)
 refine pure_ (i:=20) (N:=some 69) (v:=?_) (a':=?_) (bN 28 2097151) rfl rfl (any_of a.out (by kernel_rfl)) (fun _ _ _ h=>h) (Or.inl ⟨by rfl,?_⟩) ?_ ?_
 rotate_left
 ·(
 intro w'
 go_simp
 with_reducible rfl)
 rotate_left
 ·(
 simp only[zP,i64_w,i32_w]
 rfl)
 refine pure_ (i:=21) (N:=some 70) (v:=?_) (a':=?_) (bN 28 4194303) rfl rfl (any_of a.out (by kernel_rfl)) (fun _ _ _ h=>h) (Or.inl ⟨by rfl,?_⟩) ?_ ?_
 rotate_left
 ·(
 intro w'
 go_simp
 with_reducible rfl)
 rotate_left
 ·(
 simp only[zP,i64_w,i32_w]
 rfl)
 refine pure_ (i:=23) (N:=some 72) (v:=?_) (a':=?_) (bN 28 12582911) rfl rfl (any_of a.out (by kernel_rfl)) (fun _ _ _ h=>h) (Or.inl ⟨by rfl,?_⟩) ?_ ?_
 rotate_left
 ·(
 intro w'
 go_simp
 with_reducible rfl)
 rotate_left
 ·(
 simp only[zP,i64_w,i32_w]
 rfl)
 refine pure_ (i:=24) (N:=some 73) (v:=?_) (a':=?_) (bN 28 29360127) rfl rfl (any_of a.out (by kernel_rfl)) (fun _ _ _ h=>h) (Or.inl ⟨by rfl,?_⟩) ?_ ?_
 rotate_left
 ·(
 intro w'
 go_simp
 with_reducible rfl)
 rotate_left
 ·(
 simp only[zP,i64_w,i32_w]
 rfl)
 refine pure_ (i:=25) (N:=some 74) (v:=?_) (a':=?_) (bN 28 62914559) rfl rfl (any_of a.out (by kernel_rfl)) (fun _ _ _ h=>h) (Or.inl ⟨by rfl,?_⟩) ?_ ?_
 rotate_left
 ·(
 intro w'
 go_simp
 with_reducible rfl)
 rotate_left
 ·(
 simp only[zP,i64_w,i32_w]
 rfl)
 refine one_ (i:=22) (N:=some 71) (bN 28 67108863) rfl rfl (one_of a.out (by kernel_rfl)) (by decide) (fun K hK=>?_)
 refine goes_ Tryd.func52 (by kernel_rfl) rfl #[.int .i64 c] (by rfl) rfl rfl (by(try simp only[List.map_toArray,List.map_cons,List.map_nil]);first|done|rfl|(simp only[List.length_drop,List.length_take];rfl)) ?_
 with_reducible refine(spec_l06Digits.calls k3 c U _ af.out).mono ?_
 rintro e ah ⟨rfl,hb⟩
 refine⟨_,rfl,?_⟩
 replace HB:=sB HB hb
 (try clear hb)
 (try clear hb2)
 (try clear hk)
 (try clear hi)
 refine hK.out _ _ trivial (fun hHeld=>?_)
 clear hK K
 refine norm_ (a':=?_) ?_ ?_
 rotate_left
 ·(
 show Act.put _ (some 71) _=_
 simp only[zP,i64_w,i32_w]
 rfl)
 refine pure_ (i:=26) (N:=some 75) (v:=?_) (a':=?_) (bN 28 134217727) rfl rfl (any_of a.out (by kernel_rfl)) (fun _ _ _ h=>h) (Or.inl ⟨by rfl,?_⟩) ?_ ?_
 rotate_left
 ·(
 intro w'
 go_simp
 with_reducible rfl)
 rotate_left
 ·(
 simp only[zP,i64_w,i32_w]
 rfl)
 refine pure_ (i:=27) (N:=some 76) (v:=?_) (a':=?_) (bN 28 268435455) rfl rfl (any_of a.out (by kernel_rfl)) (fun _ _ _ h=>h) (Or.inl ⟨by rfl,?_⟩) ?_ ?_
 rotate_left
 ·(
 intro w'
 go_simp
 with_reducible rfl)
 rotate_left
 ·(
 simp only[zP,i64_w,i32_w]
 rfl)
 refine done_ (done_of a.out (by kernel_rfl)) ?_
 try go_wp2
 go_meet
 case rel=>exact⟨_,((U.toList !=(a0.extract (b:Int).toNat a0.size).toList)),sr,H',⟨by have:=d.out;have:=j.out;have:=p.out;first|omega|exact Nat.le_refl _⟩,⟨sb⟩⟩)
 rw[if_neg I]at H
 exact absurd H (by simp))
 rw[if_neg r]at H
 have c24b0:((a0.extract ((ji20):Int).toNat (b:Int).toNat).toList==([32,35]:List UInt8))=false:=zN r
 have c24b1:((a0.extract ((ji20):Int).toNat (b:Int).toNat).toList !=([32,35]:List UInt8))=true:=zX r
 have H':=zM H
 clear H
 try go_wp2
 replace HB:=zM (below_drew1 HB.out)
 refine start_ (n:=28) (S:=fun w'=>True) (ds:=[]) #[false,false,false,false,false,false,false,false,false,false,false,false,false,false,false,false,false,false,false,false,false,false,false,false,false,false,false,false] (by kernel_rfl) rfl rfl trivial (fun hHeld=>?_);refine with_tabW spec_OpenImage.tab9 spec_OpenImage.bits9 (fun a T=>?_)
 generalize wr.drew=w32 at HB hHeld ⊢
 refine pure_ (i:=0) (N:=some 49) (v:=?_) (a':=?_) (bN 28 1) rfl rfl (any_of a.out (by kernel_rfl)) (fun _ _ _ h=>h) (Or.inl ⟨by rfl,?_⟩) ?_ ?_
 rotate_left
 ·(
 intro w'
 go_simp
 with_reducible rfl)
 rotate_left
 ·(
 simp only[zP,i64_w,i32_w]
 rfl)
 refine pure_ (i:=1) (N:=some 50) (v:=?_) (a':=?_) (bN 28 3) rfl rfl (any_of a.out (by kernel_rfl)) (fun _ _ _ h=>h) (Or.inl ⟨by rfl,?_⟩) ?_ ?_
 rotate_left
 ·(
 intro w'
 go_simp
 with_reducible rfl)
 rotate_left
 ·(
 simp only[zP,i64_w,i32_w]
 rfl)
 refine pure_ (i:=2) (N:=some 51) (v:=?_) (a':=?_) (bN 28 7) rfl rfl (any_of a.out (by kernel_rfl)) (fun _ _ _ h=>h) (Or.inl ⟨by rfl,?_⟩) ?_ ?_
 rotate_left
 ·(
 intro w'
 go_simp
 with_reducible rfl)
 rotate_left
 ·(
 simp only[zP,i64_w,i32_w]
 rfl)
 refine pure_ (i:=3) (N:=some 52) (v:=?_) (a':=?_) (bN 28 15) rfl rfl (any_of a.out (by kernel_rfl)) (fun _ _ _ h=>h) (Or.inl ⟨by rfl,?_⟩) ?_ ?_
 rotate_left
 ·(
 intro w'
 go_simp
 with_reducible rfl)
 rotate_left
 ·(
 simp only[zP,i64_w,i32_w]
 rfl)
 refine pure_ (i:=4) (N:=some 53) (v:=?_) (a':=?_) (bN 28 31) rfl rfl (any_of a.out (by kernel_rfl)) (fun _ _ _ h=>h) (Or.inl ⟨by rfl,?_⟩) ?_ ?_
 rotate_left
 ·(
 intro w'
 go_simp
 with_reducible rfl)
 rotate_left
 ·(
 simp only[zP,i64_w,i32_w]
 rfl)
 refine pure_ (i:=5) (N:=some 54) (v:=?_) (a':=?_) (bN 28 63) rfl rfl (any_of a.out (by kernel_rfl)) (fun _ _ _ h=>h) (Or.inl ⟨by rfl,?_⟩) ?_ ?_
 rotate_left
 ·(
 intro w'
 go_simp
 with_reducible rfl)
 rotate_left
 ·(
 simp only[zP,i64_w,i32_w]
 rfl)
 refine pure_ (i:=6) (N:=some 55) (v:=?_) (a':=?_) (bN 28 127) rfl rfl (any_of a.out (by kernel_rfl)) (fun _ _ _ h=>h) (Or.inl ⟨by rfl,?_⟩) ?_ ?_
 rotate_left
 ·(
 intro w'
 go_simp
 with_reducible rfl)
 rotate_left
 ·(
 simp only[zP,i64_w,i32_w]
 rfl)
 refine pure_ (i:=7) (N:=some 56) (v:=?_) (a':=?_) (bN 28 255) rfl rfl (any_of a.out (by kernel_rfl)) (fun _ _ _ h=>h) (Or.inl ⟨by rfl,?_⟩) ?_ ?_
 rotate_left
 ·(
 intro w'
 go_simp
 with_reducible rfl)
 rotate_left
 ·(
 simp only[zP,i64_w,i32_w]
 rfl)
 refine pure_ (i:=8) (N:=some 57) (v:=?_) (a':=?_) (bN 28 511) rfl rfl (any_of a.out (by kernel_rfl)) (fun _ _ _ h=>h) (Or.inl ⟨by rfl,?_⟩) ?_ ?_
 rotate_left
 ·(
 intro w'
 go_simp
 with_reducible rfl)
 rotate_left
 ·(
 simp only[zP,i64_w,i32_w]
 rfl)
 refine pure_ (i:=9) (N:=some 58) (v:=?_) (a':=?_) (bN 28 1023) rfl rfl (any_of a.out (by kernel_rfl)) (fun _ _ _ h=>h) (Or.inl ⟨by rfl,?_⟩) ?_ ?_
 rotate_left
 ·(
 intro w'
 go_simp
 with_reducible rfl)
 rotate_left
 ·(
 simp only[zP,i64_w,i32_w]
 rfl)
 refine pure_ (i:=10) (N:=some 59) (v:=?_) (a':=?_) (bN 28 2047) rfl rfl (any_of a.out (by kernel_rfl)) (fun _ _ _ h=>h) (Or.inl ⟨by rfl,?_⟩) ?_ ?_
 rotate_left
 ·(
 intro w'
 go_simp
 with_reducible rfl)
 rotate_left
 ·(
 simp only[zP,i64_w,i32_w]
 rfl)
 refine pure_ (i:=11) (N:=some 60) (v:=?_) (a':=?_) (bN 28 4095) rfl rfl (any_of a.out (by kernel_rfl)) (fun _ _ _ h=>h) (Or.inl ⟨by rfl,?_⟩) ?_ ?_
 rotate_left
 ·(
 intro w'
 go_simp
 with_reducible rfl)
 rotate_left
 ·(
 simp only[zP,i64_w,i32_w]
 rfl)
 refine pure_ (i:=12) (N:=some 61) (v:=?_) (a':=?_) (bN 28 8191) rfl rfl (any_of a.out (by kernel_rfl)) (fun _ _ _ h=>h) (Or.inl ⟨by rfl,?_⟩) ?_ ?_
 rotate_left
 ·(
 intro w'
 go_simp
 with_reducible rfl)
 rotate_left
 ·(
 simp only[zP,i64_w,i32_w]
 rfl)
 refine pure_ (i:=13) (N:=some 62) (v:=?_) (a':=?_) (bN 28 16383) rfl rfl (any_of a.out (by kernel_rfl)) (fun _ _ _ h=>h) (Or.inl ⟨by rfl,?_⟩) ?_ ?_
 rotate_left
 ·(
 intro w'
 go_simp
 with_reducible rfl)
 rotate_left
 ·(
 simp only[zP,i64_w,i32_w]
 rfl)
 refine pure_ (i:=14) (N:=some 63) (v:=?_) (a':=?_) (bN 28 32767) rfl rfl (any_of a.out (by kernel_rfl)) (fun _ _ _ h=>h) (Or.inl ⟨by rfl,?_⟩) ?_ ?_
 rotate_left
 ·(
 intro w'
 go_simp
 with_reducible rfl)
 rotate_left
 ·(
 simp only[zP,i64_w,i32_w]
 rfl)
 refine pure_ (i:=15) (N:=some 64) (v:=?_) (a':=?_) (bN 28 65535) rfl rfl (any_of a.out (by kernel_rfl)) (fun _ _ _ h=>h) (Or.inl ⟨by rfl,?_⟩) ?_ ?_
 rotate_left
 ·(
 intro w'
 go_simp
 with_reducible rfl)
 rotate_left
 ·(
 simp only[zP,i64_w,i32_w]
 rfl)
 refine pure_ (i:=16) (N:=some 65) (v:=?_) (a':=?_) (bN 28 131071) rfl rfl (any_of a.out (by kernel_rfl)) (fun _ _ _ h=>h) (Or.inl ⟨by rfl,?_⟩) ?_ ?_
 rotate_left
 ·(
 intro w'
 go_simp
 with_reducible rfl)
 rotate_left
 ·(
 simp only[zP,i64_w,i32_w]
 rfl)
 refine pure_ (i:=17) (N:=some 66) (v:=undef) (a':=?_) (bN 28 262143) rfl rfl (any_of a.out (by kernel_rfl)) (fun _ _ _ h=>h) (Or.inr ⟨by rfl,rfl⟩) ?_ ?_
 rotate_left
 ·(
 simp only[zP,i64_w,i32_w]
 rfl)
 refine pure_ (i:=18) (N:=some 67) (v:=undef) (a':=?_) (bN 28 524287) rfl rfl (any_of a.out (by kernel_rfl)) (fun _ _ _ h=>h) (Or.inr ⟨by rfl,rfl⟩) ?_ ?_
 rotate_left
 ·(
 simp only[zP,i64_w,i32_w]
 rfl)
 refine pure_ (i:=19) (N:=some 68) (v:=?_) (a':=?_) (bN 28 1048575) rfl rfl (any_of a.out (by kernel_rfl)) (fun _ _ _ h=>h) (Or.inl ⟨by rfl,?_⟩) ?_ ?_
 rotate_left
 ·(
 intro w'
 go_simp
 with_reducible rfl)
 rotate_left
 ·(
 simp only[zP,i64_w,i32_w]
 rfl)
 refine pure_ (i:=20) (N:=some 69) (v:=?_) (a':=?_) (bN 28 2097151) rfl rfl (any_of a.out (by kernel_rfl)) (fun _ _ _ h=>h) (Or.inl ⟨by rfl,?_⟩) ?_ ?_
 rotate_left
 ·(
 intro w'
 go_simp
 with_reducible rfl)
 rotate_left
 ·(
 simp only[zP,i64_w,i32_w]
 rfl)
 refine pure_ (i:=21) (N:=some 70) (v:=undef) (a':=?_) (bN 28 4194303) rfl rfl (any_of a.out (by kernel_rfl)) (fun _ _ _ h=>h) (Or.inr ⟨by rfl,rfl⟩) ?_ ?_
 rotate_left
 ·(
 simp only[zP,i64_w,i32_w]
 rfl)
 refine pure_ (i:=22) (N:=some 71) (v:=undef) (a':=?_) (bN 28 8388607) rfl rfl (any_of a.out (by kernel_rfl)) (fun _ _ _ h=>h) (Or.inr ⟨by rfl,rfl⟩) ?_ ?_
 rotate_left
 ·(
 simp only[zP,i64_w,i32_w]
 rfl)
 refine pure_ (i:=23) (N:=some 72) (v:=undef) (a':=?_) (bN 28 16777215) rfl rfl (any_of a.out (by kernel_rfl)) (fun _ _ _ h=>h) (Or.inr ⟨by rfl,rfl⟩) ?_ ?_
 rotate_left
 ·(
 simp only[zP,i64_w,i32_w]
 rfl)
 refine pure_ (i:=24) (N:=some 73) (v:=undef) (a':=?_) (bN 28 33554431) rfl rfl (any_of a.out (by kernel_rfl)) (fun _ _ _ h=>h) (Or.inr ⟨by rfl,rfl⟩) ?_ ?_
 rotate_left
 ·(
 simp only[zP,i64_w,i32_w]
 rfl)
 refine pure_ (i:=25) (N:=some 74) (v:=undef) (a':=?_) (bN 28 67108863) rfl rfl (any_of a.out (by kernel_rfl)) (fun _ _ _ h=>h) (Or.inr ⟨by rfl,rfl⟩) ?_ ?_
 rotate_left
 ·(
 simp only[zP,i64_w,i32_w]
 rfl)
 refine pure_ (i:=26) (N:=some 75) (v:=undef) (a':=?_) (bN 28 134217727) rfl rfl (any_of a.out (by kernel_rfl)) (fun _ _ _ h=>h) (Or.inr ⟨by rfl,rfl⟩) ?_ ?_
 rotate_left
 ·(
 simp only[zP,i64_w,i32_w]
 rfl)
 refine pure_ (i:=27) (N:=some 76) (v:=?_) (a':=?_) (bN 28 268435455) rfl rfl (any_of a.out (by kernel_rfl)) (fun _ _ _ h=>h) (Or.inl ⟨by rfl,?_⟩) ?_ ?_
 rotate_left
 ·(
 intro w'
 go_simp
 with_reducible rfl)
 rotate_left
 ·(
 simp only[zP,i64_w,i32_w]
 rfl)
 refine done_ (done_of a.out (by kernel_rfl)) ?_
 try go_wp2
 go_meet
 case rel=>exact⟨_,(true),sr,H',⟨by have:=d.out;have:=j.out;have:=p.out;first|omega|exact Nat.le_refl _⟩,⟨sb⟩⟩)
 rw[if_neg G]at H
 exact absurd H (by simp))
 rw[if_neg F]at H
 exact absurd H (by simp))
 rw[if_neg E]at H
 exact absurd H (by simp))
 case rest=>(
 clear X
 obtain⟨kq,R,rfl,HA,ai,HB⟩:=hcut
 cases kq with
 |zero=>exact absurd HA.out (by simp[spec_OpenImage.j3])
 |succ kj14=>(
 have H:=HA.out
 clear HA
 simp only[spec_OpenImage.j3]at H
 by_cases V:R=true
 ·(
 subst V
 rewrite[if_pos rfl]at H
 simp only[Option.some.injEq,Prod.mk.injEq]at H
 obtain⟨rfl,rfl⟩:=H
 go_wp2
 go_ret2
 exact⟨sq,sb⟩)
 replace V:=zB V
 subst V
 rewrite[if_neg zQ]at H
 obtain⟨ji34,hji34⟩:∃j_:Int,(wrap64 (b- 2))=j_:=⟨_,rfl⟩
 replace H:(if 0≤(ji34)then(if(ji34)≤(a0.size:Int)then((spec_l26Sum.f kj14 (a0.extract 0 ((ji34):Int).toNat)).bind fun l=>(if l=c then(some (a0.extract 0 ((ji34):Int).toNat,0))else(some ((⟨#[]⟩:ByteArray),10))))else(none))else(none))=some (r1,r2):=by first|(rw[hji34]at H;exact H)|(simp only[hji34]at H ⊢;exact H)
 have hji34w:(IntKind.i64.wrap (b- 2))=ji34:=(i64_w _).trans hji34
 by_cases J:0≤(ji34)
 ·(
 rw[if_pos J]at H
 have c35b0:=eq_true J
 have c35b1:=zT J
 clear J
 by_cases L:(ji34)≤(a0.size:Int)
 ·(
 rw[if_pos L]at H
 have c36b0:=eq_true L
 have c36b1:=zT L
 clear L
 obtain⟨l,ab,H⟩:=sO H
 by_cases s:l=c
 ·(
 rw[if_pos s]at H
 have c38b0:(l==c)=true:=zE s
 have c38b1:(l !=c)=false:=zY s
 clear s
 have c39b0:=eq_true (zzA:0≤(ji34))
 have c40b0:=eq_true (zzA:(ji34)≤(a0.size:Int))
 simp only[Option.some.injEq,Prod.mk.injEq]at H
 obtain⟨rfl,rfl⟩:=H
 go_wp2_with (first|((with_reducible refine gate_callee (f:=58) rfl ?_);refine goesL_ (some 81) rfl rfl Tryd.func58 (by kernel_rfl) rfl #[.string (a0.extract 0 ((ji34):Int).toNat)] rfl (by(try simp only[List.map_toArray,List.map_cons,List.map_nil]);first|done|(simp only[hji34];rfl)|rfl|(simp only[List.length_drop,List.length_take];rfl)) ?_;(with_reducible refine(spec_l26Sum.calls kj14 (a0.extract 0 ((ji34):Int).toNat) l _ ab.out).mono ?_);rintro e w' ⟨rfl,⟨nd,rfl⟩⟩;refine⟨_,rfl,?_⟩))
 go_ret2
 exact⟨by first|rfl|(simp[errW_none,errW_some]<;>rfl)|(simp only[←hji34];first|rfl|(simp[errW_none,errW_some]<;>rfl))|(simp[*,errW_none,errW_some]<;>rfl),sb⟩)
 rw[if_neg s]at H
 have c38b0:(l==c)=false:=zN s
 have c38b1:(l !=c)=true:=zX s
 simp only[Option.some.injEq,Prod.mk.injEq]at H
 obtain⟨rfl,rfl⟩:=H
 go_wp2_with (first|((with_reducible refine gate_callee (f:=58) rfl ?_);refine goesL_ (some 81) rfl rfl Tryd.func58 (by kernel_rfl) rfl #[.string (a0.extract 0 ((ji34):Int).toNat)] rfl (by(try simp only[List.map_toArray,List.map_cons,List.map_nil]);first|done|(simp only[hji34];rfl)|rfl|(simp only[List.length_drop,List.length_take];rfl)) ?_;(with_reducible refine(spec_l26Sum.calls kj14 (a0.extract 0 ((ji34):Int).toNat) l _ ab.out).mono ?_);rintro e w' ⟨rfl,⟨nd,rfl⟩⟩;refine⟨_,rfl,?_⟩))
 go_ret2
 exact⟨by first|rfl|(simp[errW_none,errW_some]<;>rfl)|(simp only[←hji34];first|rfl|(simp[errW_none,errW_some]<;>rfl))|(simp[*,errW_none,errW_some]<;>rfl),sb⟩)
 rw[if_neg L]at H
 exact absurd H (by simp))
 rw[if_neg J]at H
 exact absurd H (by simp)))))))))
end Go.Proofs.YtjmojijopammjaaDoor.PFnExactOpenImage
