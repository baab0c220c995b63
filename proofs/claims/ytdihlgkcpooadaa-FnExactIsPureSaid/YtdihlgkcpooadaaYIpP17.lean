/- Printed functions: impl_countPattern. -/
import Derived.Test.YtdihlgkcpooadaaYIpP0
import Derived.Test.YtdihlgkcpooadaaYIpP15
import Derived.Test.YtdihlgkcpooadaaYIpP16
namespace Go.Proofs.Ytdihlgkcpooadaa.PFnExactIsPure
open Go.RowKit Go.Proofs.YtdihlgkcpooadaaG Go.Proofs.YtdihlgkcpooadaaW.PrintWords Go.Proofs.YtdihlgkcpooadaaW.PrintLast Go.Proofs.YtdihlgkcpooadaaW.PrintMore
attribute [local go_sem] max2_int min2_int max_two min_two max_three min_three max_four min_four
set_option linter.unusedVariables false
set_option linter.unusedSimpArgs false
mutual
def impl_countPattern.j0 : Nat → Int → Bool → Int → Int → ByteArray → List (S36) → Option (Int)
 |0,_,_,_,_,_,_=>none
 |k+1,x1,x29,x265000,x265001,x265002,x265003=>if x29=true then(some 61)else(impl_countPattern.l0 k x1 x265003 (x265003.length:Int) 0)
def impl_countPattern.l0 : Nat → Int → List (S36) → Int → Int → Option (Int)
 |0,_,_,_,_=>none
 |k+1,x1,x31,x32,x33=>if x33<x32 then(if 0≤x33 then(if x33<(x31.length:Int)then((impl_countPattern.f k ((rd_T36 x31 x33).f0) ((rd_T36 x31 x33).f1) ((rd_T36 x31 x33).f2) ((rd_T36 x31 x33).f3) x1).bind fun t269=>(if t269>60 then(some t269)else(impl_countPattern.l0 k t269 x31 x32 (wrap64 (x33+1)))))else(none))else(none))else(some x1)
def impl_countPattern.f : Nat → Int → Int → ByteArray → List (S36) → Int → Option (Int)
 |0,_,_,_,_,_=>none
 |k+1,a0_0,a0_1,a0_2,l0_3,a1=>if(wrap64 (a1+1))>60 then(impl_countPattern.j0 k (wrap64 (a1+1)) true a0_0 a0_1 a0_2 l0_3)else((impl_isArgument.f k a0_0 a0_1 a0_2).bind fun t265=>(if t265=true then((impl_kidsOf.f k a0_0).bind fun t266=>(impl_countPattern.j0 k (wrap64 (a1+1)) ((l0_3.length:Int) !=t266) a0_0 a0_1 a0_2 l0_3))else(impl_countPattern.j0 k (wrap64 (a1+1)) true a0_0 a0_1 a0_2 l0_3)))
end
def impl_countPattern.T2:Bool×List (List Nat×List Nat):=(true,[([],[]),([0],[0]),([1],[1]),([2],[2]),([3,2],[2,3]),([2],[2]),([5,2],[2,5]),([2],[2]),([7,2],[2,7]),([4,6,8,2,2],[2,4,6,8]),([9,2],[2,9]),([2,10],[2,10]),([11,9],[11]),([12],[12]),([13,12],[12,13]),([14,12],[12,14]),([12],[12]),([16,12],[12,16]),([17,12,12],[12,17]),([15,18,12],[12,15,18]),([12,19],[12,19])])
def impl_countPattern.B2:List Nat:=[0,1,3,7,15,7,39,7,135,511,1023,2047,4095,8191,16383,32767,8191,73727,204799,524287,1048575]
theorem impl_countPattern.tab2:rtab .any (opsOf Try.f53 2)=impl_countPattern.T2:=by kernel_rfl
theorem impl_countPattern.bits2:waitsOk impl_countPattern.T2.2 impl_countPattern.B2=true:=by kernel_rfl
set_option maxHeartbeats 8000000 in
set_option maxRecDepth 100000 in
theorem impl_countPattern.calls (k:Nat):∀(a0_0:Int) (a0_1:Int) (a0_2:ByteArray) (A0_3:Option Addr) (c0_3:Nat) (l0_3:List (S36)) (a1:Int) (r:Int) (w:World) (hr0_3:Kd.C k36 w A0_3 l0_3.length l0_3) (hc0_3:l0_3.length≤c0_3) (h:impl_countPattern.f k a0_0 a0_1 a0_2 l0_3 a1=some r),
  Calls Try.prog 53 #[.agg #[.int .i64 a0_0,.int .i64 a0_1,.string a0_2,.slice A0_3 l0_3.length c0_3],.int .i64 a1] w fun e w'=>e= .returned (.int .i64 r)∧Below w.heap.size w w':=by
 induction k using Nat.strongRecOn with
 |_ k ih=>
 intro a0_0 a0_1 a0_2 A0_3 c0_3 l0_3 a1 r w hr0_3 hc0_3 h
 cases k with
 |zero=>exact absurd h (by simp[impl_countPattern.f])
 |succ k=>
 simp only[impl_countPattern.f]at h
 have aB:=Try.underlying36
 have al:=zM hr0_3
 have aC:=zM hc0_3
 clear hr0_3 hc0_3
 have HB:=zM (Below.refl w.heap.size w)
 have H:(if(wrap64 (a1+1))>60 then(impl_countPattern.j0 k (wrap64 (a1+1)) true a0_0 a0_1 a0_2 l0_3)else((impl_isArgument.f k a0_0 a0_1 a0_2).bind fun ac=>(if ac=true then((impl_kidsOf.f k a0_0).bind fun V=>(impl_countPattern.j0 k (wrap64 (a1+1)) ((l0_3.length:Int) !=V) a0_0 a0_1 a0_2 l0_3))else(impl_countPattern.j0 k (wrap64 (a1+1)) true a0_0 a0_1 a0_2 l0_3))))=some r:=h
 clear h
 have ad:=zM H
 clear H
 go_enter Try.func53,Try.ntmps53
 go_upto_region 2 with(first|((with_reducible refine gate_dst (N:=2) rfl ?_);(try(refine gate_guard (by rfl) ?_;dsimp only));refine sV (N:=2) (cs:= #[.int .i64 a0_0,.int .i64 a0_1,.string a0_2,.slice A0_3 l0_3.length c0_3]) (t:=36) ?_;intro d hg w4 hbox hb;have b:=zM (hbox);have aD:=sG HB hg;have am:=sG HB hg;replace HB:=sB HB hb;clear hb hbox hg))
 (try simp only[zP])
 go_cut [29] (fun ao wc=>∃(kq:Nat) (W:Bool),ao= .bool W∧Aside0 (impl_countPattern.j0 kq (wrap64 (a1+1)) W a0_0 a0_1 a0_2 l0_3=some r)∧Aside0 (kq≤k)∧Aside0 (wc.heap[d]?=some (.cells #[.int .i64 a0_0,.int .i64 a0_1,.string a0_2,(.slice A0_3 l0_3.length c0_3)] 36 (0,0)))∧Aside0 (Below w.heap.size w wc))
 case first=>(
 have H:=ad.out
 clear ad
 by_cases A:(wrap64 (a1+1))>60
 ·(
 rw[if_pos A]at H
 have c5b0:decide (60<(wrap64 (a1+1)))=true:=zT A
 clear A
 (first|rw[c5b0]|(simp only[i64_w,i32_w];rw[c5b0])|rw[c5b2]|skip)
 have H':=zM H
 clear H
 try go_wp2
 replace b:=zM (blk_drew b.out)
 replace HB:=zM (below_drew1 HB.out)
 refine start_ (n:=21) (S:=fun w'=>True) (ds:=[]) #[false,false,false,false,false,false,false,false,false,false,false,false,false,false,false,false,false,false,false,false,false] (by kernel_rfl) rfl rfl trivial (fun hHeld=>?_);refine with_tabW impl_countPattern.tab2 impl_countPattern.bits2 (fun a l=>?_)
 generalize w4.drew=w6 at b HB hHeld ⊢
 refine pure_ (i:=0) (N:=some 9) (v:=?_) (a':=?_) (bN 21 1) rfl rfl (any_of a.out (by kernel_rfl)) (fun _ _ _ h=>h) (Or.inl ⟨by rfl,?_⟩) ?_ ?_
 rotate_left
 ·(
 intro w'
 go_simp
 with_reducible rfl)
 rotate_left
 ·(
 simp only[zP,i64_w,i32_w]
 rfl)
 refine pure_ (i:=1) (N:=some 10) (v:=?_) (a':=?_) (bN 21 3) rfl rfl (any_of a.out (by kernel_rfl)) (fun _ _ _ h=>h) (Or.inl ⟨by rfl,?_⟩) ?_ ?_
 rotate_left
 ·(
 intro w'
 go_simp
 with_reducible rfl)
 rotate_left
 ·(
 simp only[zP,i64_w,i32_w]
 rfl)
 refine pure_ (i:=2) (N:=some 11) (v:=?_) (a':=?_) (bN 21 7) rfl rfl (any_of a.out (by kernel_rfl)) (fun _ _ _ h=>h) (Or.inl ⟨by rfl,?_⟩) ?_ ?_
 rotate_left
 ·(
 intro w'
 go_simp
 with_reducible rfl)
 rotate_left
 ·(
 simp only[zP,i64_w,i32_w]
 rfl)
 refine pure_ (i:=3) (N:=some 12) (v:=undef) (a':=?_) (bN 21 15) rfl rfl (any_of a.out (by kernel_rfl)) (fun _ _ _ h=>h) (Or.inr ⟨by rfl,rfl⟩) ?_ ?_
 rotate_left
 ·(
 simp only[zP,i64_w,i32_w]
 rfl)
 refine pure_ (i:=4) (N:=some 13) (v:=undef) (a':=?_) (bN 21 31) rfl rfl (any_of a.out (by kernel_rfl)) (fun _ _ _ h=>h) (Or.inr ⟨by rfl,rfl⟩) ?_ ?_
 rotate_left
 ·(
 simp only[zP,i64_w,i32_w]
 rfl)
 refine pure_ (i:=5) (N:=some 14) (v:=undef) (a':=?_) (bN 21 63) rfl rfl (any_of a.out (by kernel_rfl)) (fun _ _ _ h=>h) (Or.inr ⟨by rfl,rfl⟩) ?_ ?_
 rotate_left
 ·(
 simp only[zP,i64_w,i32_w]
 rfl)
 refine pure_ (i:=6) (N:=some 15) (v:=undef) (a':=?_) (bN 21 127) rfl rfl (any_of a.out (by kernel_rfl)) (fun _ _ _ h=>h) (Or.inr ⟨by rfl,rfl⟩) ?_ ?_
 rotate_left
 ·(
 simp only[zP,i64_w,i32_w]
 rfl)
 refine pure_ (i:=7) (N:=some 16) (v:=undef) (a':=?_) (bN 21 255) rfl rfl (any_of a.out (by kernel_rfl)) (fun _ _ _ h=>h) (Or.inr ⟨by rfl,rfl⟩) ?_ ?_
 rotate_left
 ·(
 simp only[zP,i64_w,i32_w]
 rfl)
 refine pure_ (i:=8) (N:=some 17) (v:=undef) (a':=?_) (bN 21 511) rfl rfl (any_of a.out (by kernel_rfl)) (fun _ _ _ h=>h) (Or.inr ⟨by rfl,rfl⟩) ?_ ?_
 rotate_left
 ·(
 simp only[zP,i64_w,i32_w]
 rfl)
 refine pure_ (i:=9) (N:=some 18) (v:=undef) (a':=?_) (bN 21 1023) rfl rfl (any_of a.out (by kernel_rfl)) (fun _ _ _ h=>h) (Or.inr ⟨by rfl,rfl⟩) ?_ ?_
 rotate_left
 ·(
 simp only[zP,i64_w,i32_w]
 rfl)
 refine pure_ (i:=10) (N:=some 19) (v:=undef) (a':=?_) (bN 21 2047) rfl rfl (any_of a.out (by kernel_rfl)) (fun _ _ _ h=>h) (Or.inr ⟨by rfl,rfl⟩) ?_ ?_
 rotate_left
 ·(
 simp only[zP,i64_w,i32_w]
 rfl)
 refine pure_ (i:=11) (N:=some 20) (v:=?_) (a':=?_) (bN 21 4095) rfl rfl (any_of a.out (by kernel_rfl)) (fun _ _ _ h=>h) (Or.inl ⟨by rfl,?_⟩) ?_ ?_
 rotate_left
 ·(
 intro w'
 go_simp
 with_reducible rfl)
 rotate_left
 ·(
 simp only[zP,i64_w,i32_w]
 rfl)
 refine pure_ (i:=12) (N:=some 21) (v:=?_) (a':=?_) (bN 21 8191) rfl rfl (any_of a.out (by kernel_rfl)) (fun _ _ _ h=>h) (Or.inl ⟨by rfl,?_⟩) ?_ ?_
 rotate_left
 ·(
 intro w'
 go_simp
 with_reducible rfl)
 rotate_left
 ·(
 simp only[zP,i64_w,i32_w]
 rfl)
 refine pure_ (i:=13) (N:=some 22) (v:=undef) (a':=?_) (bN 21 16383) rfl rfl (any_of a.out (by kernel_rfl)) (fun _ _ _ h=>h) (Or.inr ⟨by rfl,rfl⟩) ?_ ?_
 rotate_left
 ·(
 simp only[zP,i64_w,i32_w]
 rfl)
 refine pure_ (i:=14) (N:=some 23) (v:=undef) (a':=?_) (bN 21 32767) rfl rfl (any_of a.out (by kernel_rfl)) (fun _ _ _ h=>h) (Or.inr ⟨by rfl,rfl⟩) ?_ ?_
 rotate_left
 ·(
 simp only[zP,i64_w,i32_w]
 rfl)
 refine pure_ (i:=15) (N:=some 24) (v:=undef) (a':=?_) (bN 21 65535) rfl rfl (any_of a.out (by kernel_rfl)) (fun _ _ _ h=>h) (Or.inr ⟨by rfl,rfl⟩) ?_ ?_
 rotate_left
 ·(
 simp only[zP,i64_w,i32_w]
 rfl)
 refine pure_ (i:=16) (N:=some 25) (v:=undef) (a':=?_) (bN 21 131071) rfl rfl (any_of a.out (by kernel_rfl)) (fun _ _ _ h=>h) (Or.inr ⟨by rfl,rfl⟩) ?_ ?_
 rotate_left
 ·(
 simp only[zP,i64_w,i32_w]
 rfl)
 refine pure_ (i:=17) (N:=some 26) (v:=undef) (a':=?_) (bN 21 262143) rfl rfl (any_of a.out (by kernel_rfl)) (fun _ _ _ h=>h) (Or.inr ⟨by rfl,rfl⟩) ?_ ?_
 rotate_left
 ·(
 simp only[zP,i64_w,i32_w]
 rfl)
 refine pure_ (i:=18) (N:=some 27) (v:=undef) (a':=?_) (bN 21 524287) rfl rfl (any_of a.out (by kernel_rfl)) (fun _ _ _ h=>h) (Or.inr ⟨by rfl,rfl⟩) ?_ ?_
 rotate_left
 ·(
 simp only[zP,i64_w,i32_w]
 rfl)
 refine pure_ (i:=19) (N:=some 28) (v:=undef) (a':=?_) (bN 21 1048575) rfl rfl (any_of a.out (by kernel_rfl)) (fun _ _ _ h=>h) (Or.inr ⟨by rfl,rfl⟩) ?_ ?_
 rotate_left
 ·(
 simp only[zP,i64_w,i32_w]
 rfl)
 refine pure_ (i:=20) (N:=some 29) (v:=?_) (a':=?_) (bN 21 2097151) rfl rfl (any_of a.out (by kernel_rfl)) (fun _ _ _ h=>h) (Or.inl ⟨by rfl,?_⟩) ?_ ?_
 rotate_left
 ·(
 intro w'
 go_simp
 with_reducible rfl)
 rotate_left
 ·(
 simp only[zP,i64_w,i32_w]
 rfl)
 refine done_ (done_of a.out (by kernel_rfl)) ?_
 try go_wp2
 go_meet
 case rel=>exact⟨_,(true),sr,H',⟨by first|omega|exact Nat.le_refl _⟩,⟨by exact sT b.out⟩,⟨sb⟩⟩)
 rw[if_neg A]at H
 have c5b0:decide (60<(wrap64 (a1+1)))=false:=zF A
 clear A
 (first|rw[c5b0]|(simp only[i64_w,i32_w];rw[c5b0])|rw[c5b2]|skip)
 obtain⟨ac,A7,H⟩:=sO H
 by_cases X:ac=true
 ·(
 subst X
 rewrite[if_pos rfl]at H
 obtain⟨V,A9,H⟩:=sO H
 have H':=zM H
 clear H
 try go_wp2
 replace b:=zM (blk_drew b.out)
 replace HB:=zM (below_drew1 HB.out)
 refine start_ (n:=21) (S:=fun w'=>w'.cell? ⟨d,0,none⟩=some (.int .i64 a0_0)∧w'.cell? ⟨d,1,none⟩=some (.int .i64 a0_1)∧w'.cell? ⟨d,2,none⟩=some (.string a0_2)∧w'.cell? ⟨d,3,none⟩=some (.slice A0_3 l0_3.length c0_3)) (ds:=[]) #[false,false,false,false,false,false,false,false,false,false,false,false,false,false,false,false,false,false,false,false,false] (by kernel_rfl) rfl rfl ⟨(blk_cell b.out 0).trans rfl,(blk_cell b.out 1).trans rfl,(blk_cell b.out 2).trans rfl,(blk_cell b.out 3).trans rfl⟩ (fun hHeld=>?_);refine with_tabW impl_countPattern.tab2 impl_countPattern.bits2 (fun a l=>?_)
 generalize w4.drew=w10 at b HB hHeld ⊢
 refine pure_ (i:=0) (N:=some 9) (v:=?_) (a':=?_) (bN 21 1) rfl rfl (any_of a.out (by kernel_rfl)) (fun _ _ _ h=>h) (Or.inl ⟨by rfl,?_⟩) ?_ ?_
 rotate_left
 ·(
 intro w'
 go_simp
 with_reducible rfl)
 rotate_left
 ·(
 simp only[zP,i64_w,i32_w]
 rfl)
 refine pure_ (i:=1) (N:=some 10) (v:=?_) (a':=?_) (bN 21 3) rfl rfl (any_of a.out (by kernel_rfl)) (fun _ _ _ h=>h) (Or.inl ⟨by rfl,?_⟩) ?_ ?_
 rotate_left
 ·(
 intro w'
 go_simp
 with_reducible rfl)
 rotate_left
 ·(
 simp only[zP,i64_w,i32_w]
 rfl)
 refine pure_ (i:=2) (N:=some 11) (v:=?_) (a':=?_) (bN 21 7) rfl rfl (any_of a.out (by kernel_rfl)) (fun _ _ _ h=>h) (Or.inl ⟨by rfl,?_⟩) ?_ ?_
 rotate_left
 ·(
 intro w'
 go_simp
 with_reducible rfl)
 rotate_left
 ·(
 simp only[zP,i64_w,i32_w]
 rfl)
 refine pure_ (i:=3) (N:=some 12) (v:=?_) (a':=?_) (bN 21 15) rfl rfl (any_of a.out (by kernel_rfl)) (fun _ _ _ h=>h) (Or.inl ⟨by rfl,?_⟩) ?_ ?_
 rotate_left
 ·(
 intro w'
 go_simp
 with_reducible rfl)
 rotate_left
 ·(
 simp only[zP,i64_w,i32_w]
 rfl)
 refine pure_ (i:=5) (N:=some 14) (v:=?_) (a':=?_) (bN 21 47) rfl rfl (any_of a.out (by kernel_rfl)) (fun _ _ _ h=>h) (Or.inl ⟨by rfl,?_⟩) ?_ ?_
 rotate_left
 ·(
 intro w'
 go_simp
 with_reducible rfl)
 rotate_left
 ·(
 simp only[zP,i64_w,i32_w]
 rfl)
 refine pure_ (i:=7) (N:=some 16) (v:=?_) (a':=?_) (bN 21 175) rfl rfl (any_of a.out (by kernel_rfl)) (fun _ _ _ h=>h) (Or.inl ⟨by rfl,?_⟩) ?_ ?_
 rotate_left
 ·(
 intro w'
 go_simp
 with_reducible rfl)
 rotate_left
 ·(
 simp only[zP,i64_w,i32_w]
 rfl)
 refine take_ (i:=4) (N:=some 13) (v:=?_) (a':=?_) (bN 21 191) rfl rfl (take_ofW a.out l.out (by kernel_rfl)) (fun _ _ _ h=>h) (Or.inl ⟨by rfl,?_⟩) hHeld ?_ ?_
 rotate_left
 ·(
 rintro w' ⟨p,q,s,u⟩
 go_simp
 with_reducible rfl)
 rotate_left
 ·(
 simp only[zP,i64_w,i32_w]
 rfl)
 refine take_ (i:=6) (N:=some 15) (v:=?_) (a':=?_) (bN 21 255) rfl rfl (take_ofW a.out l.out (by kernel_rfl)) (fun _ _ _ h=>h) (Or.inl ⟨by rfl,?_⟩) hHeld ?_ ?_
 rotate_left
 ·(
 rintro w' ⟨p,q,s,u⟩
 go_simp
 with_reducible rfl)
 rotate_left
 ·(
 simp only[zP,i64_w,i32_w]
 rfl)
 refine take_ (i:=8) (N:=some 17) (v:=?_) (a':=?_) (bN 21 511) rfl rfl (take_ofW a.out l.out (by kernel_rfl)) (fun _ _ _ h=>h) (Or.inl ⟨by rfl,?_⟩) hHeld ?_ ?_
 rotate_left
 ·(
 rintro w' ⟨p,q,s,u⟩
 go_simp
 with_reducible rfl)
 rotate_left
 ·(
 simp only[zP,i64_w,i32_w]
 rfl)
 refine one_ (i:=9) (N:=some 18) (bN 21 1023) rfl rfl (one_of a.out (by kernel_rfl)) (by decide) (fun K hK=>?_)
 refine goes_ Try.func79 (by kernel_rfl) rfl #[.int .i64 a0_0,.int .i64 a0_1,.string a0_2] (by rfl) rfl rfl (by(try simp only[List.map_toArray,List.map_cons,List.map_nil]);first|done|rfl|(simp only[List.length_drop,List.length_take];rfl)) ?_
 with_reducible refine(impl_isArgument.calls k a0_0 a0_1 a0_2 true _ A7.out).mono ?_
 rintro e aE ⟨rfl,hb⟩
 refine⟨_,rfl,?_⟩
 replace b:=sK b hb
 replace HB:=sB HB hb
 (try clear hb)
 (try clear hb2)
 (try clear hk)
 (try clear hi)
 refine hK.out _ _ ⟨(blk_cell b.out 0).trans rfl,(blk_cell b.out 1).trans rfl,(blk_cell b.out 2).trans rfl,(blk_cell b.out 3).trans rfl⟩ (fun hHeld=>?_)
 clear hK K
 refine norm_ (a':=?_) ?_ ?_
 rotate_left
 ·(
 show Act.put _ (some 18) _=_
 simp only[zP,i64_w,i32_w]
 rfl)
 refine pure_ (i:=10) (N:=some 19) (v:=?_) (a':=?_) (bN 21 2047) rfl rfl (any_of a.out (by kernel_rfl)) (fun _ _ _ h=>h) (Or.inl ⟨by rfl,?_⟩) ?_ ?_
 rotate_left
 ·(
 intro w'
 go_simp
 with_reducible rfl)
 rotate_left
 ·(
 simp only[zP,i64_w,i32_w]
 rfl)
 refine pure_ (i:=11) (N:=some 20) (v:=?_) (a':=?_) (bN 21 4095) rfl rfl (any_of a.out (by kernel_rfl)) (fun _ _ _ h=>h) (Or.inl ⟨by rfl,?_⟩) ?_ ?_
 rotate_left
 ·(
 intro w'
 go_simp
 with_reducible rfl)
 rotate_left
 ·(
 simp only[zP,i64_w,i32_w]
 rfl)
 refine pure_ (i:=12) (N:=some 21) (v:=?_) (a':=?_) (bN 21 8191) rfl rfl (any_of a.out (by kernel_rfl)) (fun _ _ _ h=>h) (Or.inl ⟨by rfl,?_⟩) ?_ ?_
 rotate_left
 ·(
 intro w'
 go_simp
 with_reducible rfl)
 rotate_left
 ·(
 simp only[zP,i64_w,i32_w]
 rfl)
 refine pure_ (i:=13) (N:=some 22) (v:=?_) (a':=?_) (bN 21 16383) rfl rfl (any_of a.out (by kernel_rfl)) (fun _ _ _ h=>h) (Or.inl ⟨by rfl,?_⟩) ?_ ?_
 rotate_left
 ·(
 intro w'
 go_simp
 with_reducible rfl)
 rotate_left
 ·(
 simp only[zP,i64_w,i32_w]
 rfl)
 refine pure_ (i:=16) (N:=some 25) (v:=?_) (a':=?_) (bN 21 81919) rfl rfl (any_of a.out (by kernel_rfl)) (fun _ _ _ h=>h) (Or.inl ⟨by rfl,?_⟩) ?_ ?_
 rotate_left
 ·(
 intro w'
 go_simp
 with_reducible rfl)
 rotate_left
 ·(
 simp only[zP,i64_w,i32_w]
 rfl)
 refine take_ (i:=14) (N:=some 23) (v:=?_) (a':=?_) (bN 21 98303) rfl rfl (take_ofW a.out l.out (by kernel_rfl)) (fun _ _ _ h=>h) (Or.inl ⟨by rfl,?_⟩) hHeld ?_ ?_
 rotate_left
 ·(
 rintro w' ⟨p,q,s,u⟩
 go_simp
 with_reducible rfl)
 rotate_left
 ·(
 simp only[zP,i64_w,i32_w]
 rfl)
 refine pure_ (i:=15) (N:=some 24) (v:=?_) (a':=?_) (bN 21 131071) rfl rfl (any_of a.out (by kernel_rfl)) (fun _ _ _ h=>h) (Or.inl ⟨by rfl,?_⟩) ?_ ?_
 rotate_left
 ·(
 intro w'
 go_simp
 with_reducible rfl)
 rotate_left
 ·(
 simp only[zP,i64_w,i32_w]
 rfl)
 refine take_ (i:=17) (N:=some 26) (v:=?_) (a':=?_) (bN 21 262143) rfl rfl (take_ofW a.out l.out (by kernel_rfl)) (fun _ _ _ h=>h) (Or.inl ⟨by rfl,?_⟩) hHeld ?_ ?_
 rotate_left
 ·(
 rintro w' ⟨p,q,s,u⟩
 go_simp
 with_reducible rfl)
 rotate_left
 ·(
 simp only[zP,i64_w,i32_w]
 rfl)
 refine one_ (i:=18) (N:=some 27) (bN 21 524287) rfl rfl (one_of a.out (by kernel_rfl)) (by decide) (fun K hK=>?_)
 refine goes_ Try.func80 (by kernel_rfl) rfl #[.int .i64 a0_0] (by rfl) rfl rfl (by(try simp only[List.map_toArray,List.map_cons,List.map_nil]);first|done|rfl|(simp only[List.length_drop,List.length_take];rfl)) ?_
 with_reducible refine(impl_kidsOf.calls k a0_0 V _ A9.out).mono ?_
 rintro e w' ⟨rfl,⟨nd,rfl⟩⟩
 refine⟨_,rfl,?_⟩
 refine hK.out _ _ ⟨(blk_cell b.out 0).trans rfl,(blk_cell b.out 1).trans rfl,(blk_cell b.out 2).trans rfl,(blk_cell b.out 3).trans rfl⟩ (fun hHeld=>?_)
 clear hK K
 refine norm_ (a':=?_) ?_ ?_
 rotate_left
 ·(
 show Act.put _ (some 27) _=_
 simp only[zP,i64_w,i32_w]
 rfl)
 refine pure_ (i:=19) (N:=some 28) (v:=?_) (a':=?_) (bN 21 1048575) rfl rfl (any_of a.out (by kernel_rfl)) (fun _ _ _ h=>h) (Or.inl ⟨by rfl,?_⟩) ?_ ?_
 rotate_left
 ·(
 intro w'
 go_simp
 with_reducible rfl)
 rotate_left
 ·(
 simp only[zP,i64_w,i32_w]
 rfl)
 refine pure_ (i:=20) (N:=some 29) (v:=?_) (a':=?_) (bN 21 2097151) rfl rfl (any_of a.out (by kernel_rfl)) (fun _ _ _ h=>h) (Or.inl ⟨by rfl,?_⟩) ?_ ?_
 rotate_left
 ·(
 intro w'
 go_simp
 with_reducible rfl)
 rotate_left
 ·(
 simp only[zP,i64_w,i32_w]
 rfl)
 refine done_ (done_of a.out (by kernel_rfl)) ?_
 try go_wp2
 go_meet
 case rel=>exact⟨_,(((l0_3.length:Int) !=V)),sr,H',⟨by first|omega|exact Nat.le_refl _⟩,⟨by exact sT b.out⟩,⟨sb⟩⟩)
 replace X:=zB X
 subst X
 rewrite[if_neg zQ]at H
 have H':=zM H
 clear H
 try go_wp2
 replace b:=zM (blk_drew b.out)
 replace HB:=zM (below_drew1 HB.out)
 refine start_ (n:=21) (S:=fun w'=>w'.cell? ⟨d,0,none⟩=some (.int .i64 a0_0)∧w'.cell? ⟨d,1,none⟩=some (.int .i64 a0_1)∧w'.cell? ⟨d,2,none⟩=some (.string a0_2)∧w'.cell? ⟨d,3,none⟩=some (.slice A0_3 l0_3.length c0_3)) (ds:=[]) #[false,false,false,false,false,false,false,false,false,false,false,false,false,false,false,false,false,false,false,false,false] (by kernel_rfl) rfl rfl ⟨(blk_cell b.out 0).trans rfl,(blk_cell b.out 1).trans rfl,(blk_cell b.out 2).trans rfl,(blk_cell b.out 3).trans rfl⟩ (fun hHeld=>?_);refine with_tabW impl_countPattern.tab2 impl_countPattern.bits2 (fun a l=>?_)
 generalize w4.drew=w12 at b HB hHeld ⊢
 refine pure_ (i:=0) (N:=some 9) (v:=?_) (a':=?_) (bN 21 1) rfl rfl (any_of a.out (by kernel_rfl)) (fun _ _ _ h=>h) (Or.inl ⟨by rfl,?_⟩) ?_ ?_
 rotate_left
 ·(
 intro w'
 go_simp
 with_reducible rfl)
 rotate_left
 ·(
 simp only[zP,i64_w,i32_w]
 rfl)
 refine pure_ (i:=1) (N:=some 10) (v:=?_) (a':=?_) (bN 21 3) rfl rfl (any_of a.out (by kernel_rfl)) (fun _ _ _ h=>h) (Or.inl ⟨by rfl,?_⟩) ?_ ?_
 rotate_left
 ·(
 intro w'
 go_simp
 with_reducible rfl)
 rotate_left
 ·(
 simp only[zP,i64_w,i32_w]
 rfl)
 refine pure_ (i:=2) (N:=some 11) (v:=?_) (a':=?_) (bN 21 7) rfl rfl (any_of a.out (by kernel_rfl)) (fun _ _ _ h=>h) (Or.inl ⟨by rfl,?_⟩) ?_ ?_
 rotate_left
 ·(
 intro w'
 go_simp
 with_reducible rfl)
 rotate_left
 ·(
 simp only[zP,i64_w,i32_w]
 rfl)
 refine pure_ (i:=3) (N:=some 12) (v:=?_) (a':=?_) (bN 21 15) rfl rfl (any_of a.out (by kernel_rfl)) (fun _ _ _ h=>h) (Or.inl ⟨by rfl,?_⟩) ?_ ?_
 rotate_left
 ·(
 intro w'
 go_simp
 with_reducible rfl)
 rotate_left
 ·(
 simp only[zP,i64_w,i32_w]
 rfl)
 refine pure_ (i:=5) (N:=some 14) (v:=?_) (a':=?_) (bN 21 47) rfl rfl (any_of a.out (by kernel_rfl)) (fun _ _ _ h=>h) (Or.inl ⟨by rfl,?_⟩) ?_ ?_
 rotate_left
 ·(
 intro w'
 go_simp
 with_reducible rfl)
 rotate_left
 ·(
 simp only[zP,i64_w,i32_w]
 rfl)
 refine pure_ (i:=7) (N:=some 16) (v:=?_) (a':=?_) (bN 21 175) rfl rfl (any_of a.out (by kernel_rfl)) (fun _ _ _ h=>h) (Or.inl ⟨by rfl,?_⟩) ?_ ?_
 rotate_left
 ·(
 intro w'
 go_simp
 with_reducible rfl)
 rotate_left
 ·(
 simp only[zP,i64_w,i32_w]
 rfl)
 refine take_ (i:=4) (N:=some 13) (v:=?_) (a':=?_) (bN 21 191) rfl rfl (take_ofW a.out l.out (by kernel_rfl)) (fun _ _ _ h=>h) (Or.inl ⟨by rfl,?_⟩) hHeld ?_ ?_
 rotate_left
 ·(
 rintro w' ⟨p,q,s,u⟩
 go_simp
 with_reducible rfl)
 rotate_left
 ·(
 simp only[zP,i64_w,i32_w]
 rfl)
 refine take_ (i:=6) (N:=some 15) (v:=?_) (a':=?_) (bN 21 255) rfl rfl (take_ofW a.out l.out (by kernel_rfl)) (fun _ _ _ h=>h) (Or.inl ⟨by rfl,?_⟩) hHeld ?_ ?_
 rotate_left
 ·(
 rintro w' ⟨p,q,s,u⟩
 go_simp
 with_reducible rfl)
 rotate_left
 ·(
 simp only[zP,i64_w,i32_w]
 rfl)
 refine take_ (i:=8) (N:=some 17) (v:=?_) (a':=?_) (bN 21 511) rfl rfl (take_ofW a.out l.out (by kernel_rfl)) (fun _ _ _ h=>h) (Or.inl ⟨by rfl,?_⟩) hHeld ?_ ?_
 rotate_left
 ·(
 rintro w' ⟨p,q,s,u⟩
 go_simp
 with_reducible rfl)
 rotate_left
 ·(
 simp only[zP,i64_w,i32_w]
 rfl)
 refine one_ (i:=9) (N:=some 18) (bN 21 1023) rfl rfl (one_of a.out (by kernel_rfl)) (by decide) (fun K hK=>?_)
 refine goes_ Try.func79 (by kernel_rfl) rfl #[.int .i64 a0_0,.int .i64 a0_1,.string a0_2] (by rfl) rfl rfl (by(try simp only[List.map_toArray,List.map_cons,List.map_nil]);first|done|rfl|(simp only[List.length_drop,List.length_take];rfl)) ?_
 with_reducible refine(impl_isArgument.calls k a0_0 a0_1 a0_2 false _ A7.out).mono ?_
 rintro e aF ⟨rfl,hb⟩
 refine⟨_,rfl,?_⟩
 replace b:=sK b hb
 replace HB:=sB HB hb
 (try clear hb)
 (try clear hb2)
 (try clear hk)
 (try clear hi)
 refine hK.out _ _ ⟨(blk_cell b.out 0).trans rfl,(blk_cell b.out 1).trans rfl,(blk_cell b.out 2).trans rfl,(blk_cell b.out 3).trans rfl⟩ (fun hHeld=>?_)
 clear hK K
 refine norm_ (a':=?_) ?_ ?_
 rotate_left
 ·(
 show Act.put _ (some 18) _=_
 simp only[zP,i64_w,i32_w]
 rfl)
 refine pure_ (i:=10) (N:=some 19) (v:=?_) (a':=?_) (bN 21 2047) rfl rfl (any_of a.out (by kernel_rfl)) (fun _ _ _ h=>h) (Or.inl ⟨by rfl,?_⟩) ?_ ?_
 rotate_left
 ·(
 intro w'
 go_simp
 with_reducible rfl)
 rotate_left
 ·(
 simp only[zP,i64_w,i32_w]
 rfl)
 refine pure_ (i:=11) (N:=some 20) (v:=?_) (a':=?_) (bN 21 4095) rfl rfl (any_of a.out (by kernel_rfl)) (fun _ _ _ h=>h) (Or.inl ⟨by rfl,?_⟩) ?_ ?_
 rotate_left
 ·(
 intro w'
 go_simp
 with_reducible rfl)
 rotate_left
 ·(
 simp only[zP,i64_w,i32_w]
 rfl)
 refine pure_ (i:=12) (N:=some 21) (v:=?_) (a':=?_) (bN 21 8191) rfl rfl (any_of a.out (by kernel_rfl)) (fun _ _ _ h=>h) (Or.inl ⟨by rfl,?_⟩) ?_ ?_
 rotate_left
 ·(
 intro w'
 go_simp
 with_reducible rfl)
 rotate_left
 ·(
 simp only[zP,i64_w,i32_w]
 rfl)
 refine pure_ (i:=13) (N:=some 22) (v:=undef) (a':=?_) (bN 21 16383) rfl rfl (any_of a.out (by kernel_rfl)) (fun _ _ _ h=>h) (Or.inr ⟨by rfl,rfl⟩) ?_ ?_
 rotate_left
 ·(
 simp only[zP,i64_w,i32_w]
 rfl)
 refine pure_ (i:=14) (N:=some 23) (v:=undef) (a':=?_) (bN 21 32767) rfl rfl (any_of a.out (by kernel_rfl)) (fun _ _ _ h=>h) (Or.inr ⟨by rfl,rfl⟩) ?_ ?_
 rotate_left
 ·(
 simp only[zP,i64_w,i32_w]
 rfl)
 refine pure_ (i:=15) (N:=some 24) (v:=undef) (a':=?_) (bN 21 65535) rfl rfl (any_of a.out (by kernel_rfl)) (fun _ _ _ h=>h) (Or.inr ⟨by rfl,rfl⟩) ?_ ?_
 rotate_left
 ·(
 simp only[zP,i64_w,i32_w]
 rfl)
 refine pure_ (i:=16) (N:=some 25) (v:=undef) (a':=?_) (bN 21 131071) rfl rfl (any_of a.out (by kernel_rfl)) (fun _ _ _ h=>h) (Or.inr ⟨by rfl,rfl⟩) ?_ ?_
 rotate_left
 ·(
 simp only[zP,i64_w,i32_w]
 rfl)
 refine pure_ (i:=17) (N:=some 26) (v:=undef) (a':=?_) (bN 21 262143) rfl rfl (any_of a.out (by kernel_rfl)) (fun _ _ _ h=>h) (Or.inr ⟨by rfl,rfl⟩) ?_ ?_
 rotate_left
 ·(
 simp only[zP,i64_w,i32_w]
 rfl)
 refine pure_ (i:=18) (N:=some 27) (v:=undef) (a':=?_) (bN 21 524287) rfl rfl (any_of a.out (by kernel_rfl)) (fun _ _ _ h=>h) (Or.inr ⟨by rfl,rfl⟩) ?_ ?_
 rotate_left
 ·(
 simp only[zP,i64_w,i32_w]
 rfl)
 refine pure_ (i:=19) (N:=some 28) (v:=undef) (a':=?_) (bN 21 1048575) rfl rfl (any_of a.out (by kernel_rfl)) (fun _ _ _ h=>h) (Or.inr ⟨by rfl,rfl⟩) ?_ ?_
 rotate_left
 ·(
 simp only[zP,i64_w,i32_w]
 rfl)
 refine pure_ (i:=20) (N:=some 29) (v:=?_) (a':=?_) (bN 21 2097151) rfl rfl (any_of a.out (by kernel_rfl)) (fun _ _ _ h=>h) (Or.inl ⟨by rfl,?_⟩) ?_ ?_
 rotate_left
 ·(
 intro w'
 go_simp
 with_reducible rfl)
 rotate_left
 ·(
 simp only[zP,i64_w,i32_w]
 rfl)
 refine done_ (done_of a.out (by kernel_rfl)) ?_
 try go_wp2
 go_meet
 case rel=>exact⟨_,(true),sr,H',⟨by first|omega|exact Nat.le_refl _⟩,⟨by exact sT b.out⟩,⟨sb⟩⟩)
 case rest=>(
 clear ad
 obtain⟨kq,W,rfl,HA,Y,b,HB⟩:=hcut
 cases kq with
 |zero=>exact absurd HA.out (by simp[impl_countPattern.j0])
 |succ kj2=>(
 have H:=HA.out
 clear HA
 simp only[impl_countPattern.j0]at H
 by_cases F:W=true
 ·(
 subst F
 rewrite[if_pos rfl]at H
 obtain rfl:=zI H
 go_wp2
 go_ret
 exact⟨sq,sb⟩)
 replace F:=zB F
 subst F
 rewrite[if_neg zQ]at H
 have H':=zM H
 clear H
 obtain⟨ap,aq,ar,au,av,aw,ax,ay⟩:=cells4 b.out
 go_wp2
 go_loopg [1,33] kj2 (fun kq v1 az w'=>∃(x:Int) (c:Int),v1= .int .i64 x∧az= .int .i64 c∧Aside0 (impl_countPattern.l0 kq x l0_3 (l0_3.length:Int) c=some r)∧Aside0 (kq≤kj2)∧Aside0 (w'.heap[d]?=some (.cells #[.int .i64 a0_0,.int .i64 a0_1,.string a0_2,(.slice A0_3 l0_3.length c0_3)] 36 (0,0)))∧Aside0 (Below w.heap.size w w'))
 case atStart=>exact⟨((wrap64 (a1+1))),(0),sr,sr,H',⟨Nat.le_refl _⟩,⟨by exact sT b.out⟩,⟨sb⟩⟩
 case round=>(
 clear H'
 try clear F
 try clear ap
 try clear aq
 try clear ar
 try clear au
 try clear av
 try clear aw
 try clear ax
 try clear ay
 obtain⟨x,c,rfl,rfl,HA,Z,b,HB⟩:=hrel
 cases gk with
 |zero=>exact absurd HA.out (by simp[impl_countPattern.l0])
 |succ k2=>(
 have H:=HA.out
 clear HA
 simp only[impl_countPattern.l0]at H
 by_cases B:c<(l0_3.length:Int)
 ·(
 rw[if_pos B]at H
 have c16b0:=zT B
 clear B
 by_cases aa:0≤c
 ·(
 rw[if_pos aa]at H
 have c17b0:=zT aa
 clear aa
 by_cases ab:c<(l0_3.length:Int)
 ·(
 rw[if_pos ab]at H
 have c18b0:=zT ab
 clear ab
 obtain⟨D,an,H⟩:=sO H
 by_cases E:D>60
 ·(
 rw[if_pos E]at H
 have c20b0:decide (60<D)=true:=zT E
 clear E
 obtain rfl:=zI H
 have y:0≤(c:Int):=zzA
 have z:c<(l0_3.length:Int):=zzA
 obtain⟨ae,G,I,af,J,L,M,O,P,Q⟩:=at_T36 al.out c y z
 cases af
 replace J:=sX HB J
 replace L:=sX HB L
 replace M:=sX HB M
 replace O:=sX HB O
 have ag:=zM Q
 have ah:=zM P
 clear Q P
 replace y:=eq_true y
 replace z:=eq_true z
 go_wp2_with (first|((with_reducible refine gate_dst (N:=6) rfl ?_);(try(refine gate_guard (by rfl) ?_;dsimp only));refine sV (N:=6) (cs:= #[.int .i64 0,.int .i64 0,.string (⟨#[]⟩:ByteArray),.slice none 0 0]) (t:=36) ?_;intro ai hg aG hbox hb;have m:=zM (hbox);have aA:=sG HB hg;have aj:=sG HB hg;replace HB:=sB HB hb;have j:=sN b hg;have ak:=sM b hg;replace b:=sK b hb;clear hb hbox hg;have aH:=ak.out;have aI:=j.out;obtain⟨aJ,aK,aL,aM,aN,aO,aP,aQ⟩:=cells4 m.out)|((with_reducible refine gate_callee (f:=53) rfl ?_);refine goesL_ (some 39) rfl rfl Try.func53 (by kernel_rfl) rfl #[.agg #[.int .i64 ((rd_T36 l0_3 c).f0),.int .i64 ((rd_T36 l0_3 c).f1),.string ((rd_T36 l0_3 c).f2),.slice G ((rd_T36 l0_3 c).f3).length I],.int .i64 x] rfl (by(try simp only[List.map_toArray,List.map_cons,List.map_nil]);first|done|rfl|(simp only[List.length_drop,List.length_take];rfl)) ?_;(with_reducible refine(ih k2 (by have:=Y.out;have:=Z.out;omega) ((rd_T36 l0_3 c).f0) ((rd_T36 l0_3 c).f1) ((rd_T36 l0_3 c).f2) _ _ ((rd_T36 l0_3 c).f3) x D _ ?side1 ?side2 an.out).mono ?_);(case side1=>exact zC ag.out zzR);(case side2=>exact ah.out);rintro e aR ⟨rfl,hb⟩;refine⟨_,rfl,?_⟩;have R:=zM (blk_below (g:=d) (o:= .cells #[.int .i64 a0_0,.int .i64 a0_1,.string a0_2,.slice (some ae) l0_3.length c0_3] 36 (0,0)) (by(with_reducible repeat(first|refine blk_drewN ?_ _|refine blk_drew ?_|refine blk_alloc ?_ _));refine blk_far ?_ j.out _;(with_reducible repeat(first|refine blk_drewN ?_ _|refine blk_drew ?_|refine blk_alloc ?_ _));refine blk_far ?_ j.out _;(with_reducible repeat(first|refine blk_drewN ?_ _|refine blk_drew ?_|refine blk_alloc ?_ _));refine blk_far ?_ j.out _;(with_reducible repeat(first|refine blk_drewN ?_ _|refine blk_drew ?_|refine blk_alloc ?_ _));refine blk_far ?_ j.out _;exact sT b.out) hb);have T:=zM (blk_below (g:=ai) (o:= .cells #[.int .i64 ((rd_T36 l0_3 c).f0),.int .i64 ((rd_T36 l0_3 c).f1),.string ((rd_T36 l0_3 c).f2),.slice G ((rd_T36 l0_3 c).f3).length I] 36 (0,0)) (by exact sP4 (sT m.out)) hb);have U:=sB HB hb;clear b;clear m;clear HB;have b:=R;have m:=T;have HB:=U;clear R T U;(try clear hb)))
 go_ret
 exact⟨sq,sb⟩)
 rw[if_neg E]at H
 have c20b0:decide (60<D)=false:=zF E
 clear E
 have H':=zM H
 clear H
 have y:0≤(c:Int):=zzA
 have z:c<(l0_3.length:Int):=zzA
 obtain⟨ae,G,I,af,J,L,M,O,P,Q⟩:=at_T36 al.out c y z
 cases af
 replace J:=sX HB J
 replace L:=sX HB L
 replace M:=sX HB M
 replace O:=sX HB O
 have ag:=zM Q
 have ah:=zM P
 clear Q P
 replace y:=eq_true y
 replace z:=eq_true z
 go_wp2_with (first|((with_reducible refine gate_dst (N:=6) rfl ?_);(try(refine gate_guard (by rfl) ?_;dsimp only));refine sV (N:=6) (cs:= #[.int .i64 0,.int .i64 0,.string (⟨#[]⟩:ByteArray),.slice none 0 0]) (t:=36) ?_;intro ai hg aS hbox hb;have m:=zM (hbox);have aA:=sG HB hg;have aj:=sG HB hg;replace HB:=sB HB hb;have j:=sN b hg;have ak:=sM b hg;replace b:=sK b hb;clear hb hbox hg;have aT:=ak.out;have aU:=j.out;obtain⟨aV,aW,aX,aY,aZ,a0,a2,a3⟩:=cells4 m.out)|((with_reducible refine gate_callee (f:=53) rfl ?_);refine goesL_ (some 39) rfl rfl Try.func53 (by kernel_rfl) rfl #[.agg #[.int .i64 ((rd_T36 l0_3 c).f0),.int .i64 ((rd_T36 l0_3 c).f1),.string ((rd_T36 l0_3 c).f2),.slice G ((rd_T36 l0_3 c).f3).length I],.int .i64 x] rfl (by(try simp only[List.map_toArray,List.map_cons,List.map_nil]);first|done|rfl|(simp only[List.length_drop,List.length_take];rfl)) ?_;(with_reducible refine(ih k2 (by have:=Y.out;have:=Z.out;omega) ((rd_T36 l0_3 c).f0) ((rd_T36 l0_3 c).f1) ((rd_T36 l0_3 c).f2) _ _ ((rd_T36 l0_3 c).f3) x D _ ?side1 ?side2 an.out).mono ?_);(case side1=>exact zC ag.out zzR);(case side2=>exact ah.out);rintro e a4 ⟨rfl,hb⟩;refine⟨_,rfl,?_⟩;have R:=zM (blk_below (g:=d) (o:= .cells #[.int .i64 a0_0,.int .i64 a0_1,.string a0_2,.slice (some ae) l0_3.length c0_3] 36 (0,0)) (by(with_reducible repeat(first|refine blk_drewN ?_ _|refine blk_drew ?_|refine blk_alloc ?_ _));refine blk_far ?_ j.out _;(with_reducible repeat(first|refine blk_drewN ?_ _|refine blk_drew ?_|refine blk_alloc ?_ _));refine blk_far ?_ j.out _;(with_reducible repeat(first|refine blk_drewN ?_ _|refine blk_drew ?_|refine blk_alloc ?_ _));refine blk_far ?_ j.out _;(with_reducible repeat(first|refine blk_drewN ?_ _|refine blk_drew ?_|refine blk_alloc ?_ _));refine blk_far ?_ j.out _;exact sT b.out) hb);have T:=zM (blk_below (g:=ai) (o:= .cells #[.int .i64 ((rd_T36 l0_3 c).f0),.int .i64 ((rd_T36 l0_3 c).f1),.string ((rd_T36 l0_3 c).f2),.slice G ((rd_T36 l0_3 c).f3).length I] 36 (0,0)) (by exact sP4 (sT m.out)) hb);have U:=sB HB hb;clear b;clear m;clear HB;have b:=R;have m:=T;have HB:=U;clear R T U;(try clear hb)))
 go_roundg k2
 case measure=>have:=Y.out;have:=Z.out;omega
 case rel=>exact⟨(D),(wrap64 (c+1)),sr,sr,H',⟨by have:=Y.out;have:=Z.out;omega⟩,⟨by exact sT b.out⟩,⟨sb⟩⟩)
 rw[if_neg ab]at H
 exact absurd H (by simp))
 rw[if_neg aa]at H
 exact absurd H (by simp))
 rw[if_neg B]at H
 have c16b0:=zF B
 clear B
 obtain rfl:=zI H
 go_wp2
 go_ret
 exact⟨sq,sb⟩))))
end Go.Proofs.Ytdihlgkcpooadaa.PFnExactIsPure
