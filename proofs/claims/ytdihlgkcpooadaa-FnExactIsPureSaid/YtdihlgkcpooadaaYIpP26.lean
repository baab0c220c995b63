/- Printed functions: laws_FnExactIsPure. -/
import Derived.Test.YtdihlgkcpooadaaYIpP0
import Derived.Test.YtdihlgkcpooadaaYIpP1
import Derived.Test.YtdihlgkcpooadaaYIpP2
import Derived.Test.YtdihlgkcpooadaaYIpP3
import Derived.Test.YtdihlgkcpooadaaYIpP13
import Derived.Test.YtdihlgkcpooadaaYIpP22
import Derived.Test.YtdihlgkcpooadaaYIpP24
import Derived.Test.YtdihlgkcpooadaaYIpP25
namespace Go.Proofs.Ytdihlgkcpooadaa.PFnExactIsPure
open Go.RowKit Go.Proofs.YtdihlgkcpooadaaG Go.Proofs.YtdihlgkcpooadaaW.PrintWords Go.Proofs.YtdihlgkcpooadaaW.PrintLast Go.Proofs.YtdihlgkcpooadaaW.PrintMore
attribute [local go_sem] max2_int min2_int max_two min_two max_three min_three max_four min_four
set_option linter.unusedVariables false
set_option linter.unusedSimpArgs false
def laws_FnExactIsPure.f (k:Nat) (l0:List (S49)) (a1_0:Int) (a1_1:Int) (a1_2:ByteArray) (l1_3:List (S31)):Option (Bool):=(laws_szNamedS.f k l0 1048576).bind fun t369=>(if t369<0 then(some true)else((laws_szPattern.f k a1_0 a1_1 a1_2 l1_3 t369).bind fun t370=>(if t370<0 then(some true)else((laws_toNamedS.f k l0).bind fun t371=>((laws_toPattern.f k a1_0 a1_1 a1_2 l1_3).bind fun bt374=>((spec_IsPure.f k t371 bt374.1 bt374.2.1 bt374.2.2.1 bt374.2.2.2).bind fun t380=>((laws_toNamedS.f k l0).bind fun t381=>((laws_toPattern.f k a1_0 a1_1 a1_2 l1_3).bind fun bt384=>((impl_IsPure.f k t381 bt384.1 bt384.2.1 bt384.2.2.1 bt384.2.2.2).bind fun t391=>(if(t391 !=t380)=true then(some false)else((laws_toNamedS.f k l0).bind fun t392=>((laws_eqNamedS.f k t381 t392).bind fun t395=>(if t395=true then((laws_toPattern.f k a1_0 a1_1 a1_2 l1_3).bind fun bt396=>((laws_eqPattern.f k bt384.1 bt384.2.1 bt384.2.2.1 bt384.2.2.2 bt396.1 bt396.2.1 bt396.2.2.1 bt396.2.2.2).bind fun t402=>(if t402=true then(some true)else(some false))))else(some false))))))))))))))
set_option maxHeartbeats 8000000 in
set_option maxRecDepth 100000 in
theorem laws_FnExactIsPure.calls (k:Nat) (A0:Option Addr) (c0:Nat) (l0:List (S49)) (a1_0:Int) (a1_1:Int) (a1_2:ByteArray) (A1_3:Option Addr) (c1_3:Nat) (l1_3:List (S31)) (w:World) (hr0:Kd.C k49 w A0 l0.length l0) (hc0:l0.length≤c0) (hr1_3:Kd.C k31 w A1_3 l1_3.length l1_3) (hc1_3:l1_3.length≤c1_3) (h:laws_FnExactIsPure.f k l0 a1_0 a1_1 a1_2 l1_3=some true):
  Calls Try.prog 4 #[.slice A0 l0.length c0,.agg #[.int .i64 a1_0,.int .i64 a1_1,.string a1_2,.slice A1_3 l1_3.length c1_3]] w fun e w'=>e= .returned (.bool true)∧Below w.heap.size w w':=by
 have ba:=Try.underlying31
 have bb:=Try.underlying36
 have X:=zM hr0
 have Y:=zM hc0
 clear hr0 hc0
 have ab:=zM hr1_3
 have ac:=zM hc1_3
 clear hr1_3 hc1_3
 have HB:=zM (Below.refl w.heap.size w)
 have H:((laws_szNamedS.f k l0 1048576).bind fun G=>(if G<0 then(some true)else((laws_szPattern.f k a1_0 a1_1 a1_2 l1_3 G).bind fun ad=>(if ad<0 then(some true)else((laws_toNamedS.f k l0).bind fun U=>((laws_toPattern.f k a1_0 a1_1 a1_2 l1_3).bind fun aj=>((spec_IsPure.f k U aj.1 aj.2.1 aj.2.2.1 aj.2.2.2).bind fun x=>((laws_toNamedS.f k l0).bind fun y=>((laws_toPattern.f k a1_0 a1_1 a1_2 l1_3).bind fun s=>((impl_IsPure.f k y s.1 s.2.1 s.2.2.1 s.2.2.2).bind fun u=>(if(u !=x)=true then(some false)else((laws_toNamedS.f k l0).bind fun M=>((laws_eqNamedS.f k y M).bind fun V=>(if V=true then((laws_toPattern.f k a1_0 a1_1 a1_2 l1_3).bind fun z=>((laws_eqPattern.f k s.1 s.2.1 s.2.2.1 s.2.2.2 z.1 z.2.1 z.2.2.1 z.2.2.2).bind fun O=>(if O=true then(some true)else(some false))))else(some false)))))))))))))))=some true:=h
 clear h
 obtain⟨G,A3,H⟩:=sO H
 by_cases Z:G<0
 ·(
 rw[if_pos Z]at H
 have c4b0:=zT Z
 clear Z
 clear H
 go_enter Try.func4,Try.ntmps4
 go_wp2_with (first|((with_reducible refine gate_dst (N:=3) rfl ?_);refine sV (N:=3) (cs:= #[.int .i64 a1_0,.int .i64 a1_1,.string a1_2,.slice A1_3 l1_3.length c1_3]) (t:=31) ?_;intro I hg w5 hbox hb;have a:=zM (hbox);have ay:=sG HB hg;have P:=sG HB hg;replace HB:=sB HB hb;clear hb hbox hg)|((with_reducible refine gate_callee (f:=7) rfl ?_);refine sC (some 12) Try.func7 #[.slice A0 l0.length c0,.int .i64 1048576] (laws_szNamedS.calls k _ _ l0 1048576 G _ ?side1 ?side2 A3.out) ?_;(case side1=>exact sD (zC X.out HB.out));(case side2=>exact Y.out);rintro e w6 ⟨rfl,hb⟩;refine⟨_,rfl,?_⟩;replace a:=sK a hb;replace HB:=sB HB hb;(try clear hb)))
 go_ret
 exact⟨sq,sb⟩)
 rw[if_neg Z]at H
 have c4b0:=zF Z
 clear Z
 obtain⟨ad,A7,H⟩:=sO H
 by_cases c8:ad<0
 ·(
 rw[if_pos c8]at H
 have c8b0:=zT c8
 clear c8
 clear H
 go_enter Try.func4,Try.ntmps4
 go_wp2_with (first|((with_reducible refine gate_dst (N:=3) rfl ?_);refine sV (N:=3) (cs:= #[.int .i64 a1_0,.int .i64 a1_1,.string a1_2,.slice A1_3 l1_3.length c1_3]) (t:=31) ?_;intro I hg w9 hbox hb;have a:=zM (hbox);have ay:=sG HB hg;have P:=sG HB hg;replace HB:=sB HB hb;clear hb hbox hg)|((with_reducible refine gate_callee (f:=7) rfl ?_);refine sC (some 12) Try.func7 #[.slice A0 l0.length c0,.int .i64 1048576] (laws_szNamedS.calls k _ _ l0 1048576 G _ ?side1 ?side2 A3.out) ?_;(case side1=>exact sD (zC X.out HB.out));(case side2=>exact Y.out);rintro e bc ⟨rfl,hb⟩;refine⟨_,rfl,?_⟩;replace a:=sK a hb;replace HB:=sB HB hb;(try clear hb);obtain⟨bd,be,bf,bg,bh,bi,bj,bk⟩:=cells4 a.out)|((with_reducible refine gate_callee (f:=12) rfl ?_);refine sC (some 17) Try.func12 #[.agg #[.int .i64 a1_0,.int .i64 a1_1,.string a1_2,.slice A1_3 l1_3.length c1_3],.int .i64 G] (laws_szPattern.calls k a1_0 a1_1 a1_2 _ _ l1_3 G ad _ ?side1 ?side2 A7.out) ?_;(case side1=>exact sD (zC ab.out HB.out));(case side2=>exact ac.out);rintro e bl ⟨rfl,hb⟩;refine⟨_,rfl,?_⟩;replace a:=sK a hb;replace HB:=sB HB hb;(try clear hb)))
 go_ret
 exact⟨sq,sb⟩)
 rw[if_neg c8]at H
 have c8b0:=zF c8
 clear c8
 obtain⟨U,aQ,H⟩:=sO H
 replace H:=Option.bind_eq_some_iff.mp H
 obtain⟨⟨ak,al,am,aa⟩,az,H⟩:=H
 replace H:((spec_IsPure.f k U ak al am aa).bind fun x=>((laws_toNamedS.f k l0).bind fun y=>((laws_toPattern.f k a1_0 a1_1 a1_2 l1_3).bind fun s=>((impl_IsPure.f k y s.1 s.2.1 s.2.2.1 s.2.2.2).bind fun u=>(if(u !=x)=true then(some false)else((laws_toNamedS.f k l0).bind fun M=>((laws_eqNamedS.f k y M).bind fun V=>(if V=true then((laws_toPattern.f k a1_0 a1_1 a1_2 l1_3).bind fun z=>((laws_eqPattern.f k s.1 s.2.1 s.2.2.1 s.2.2.2 z.1 z.2.1 z.2.2.1 z.2.2.2).bind fun O=>(if O=true then(some true)else(some false))))else(some false)))))))))=some true:=H
 have aR:=zM az
 clear az
 obtain⟨x,aS,H⟩:=sO H
 obtain⟨y,aT,H⟩:=sO H
 replace H:=Option.bind_eq_some_iff.mp H
 obtain⟨⟨B,D,E,A⟩,aA,H⟩:=H
 replace H:((impl_IsPure.f k y B D E A).bind fun u=>(if(u !=x)=true then(some false)else((laws_toNamedS.f k l0).bind fun M=>((laws_eqNamedS.f k y M).bind fun V=>(if V=true then((laws_toPattern.f k a1_0 a1_1 a1_2 l1_3).bind fun z=>((laws_eqPattern.f k B D E A z.1 z.2.1 z.2.2.1 z.2.2.2).bind fun O=>(if O=true then(some true)else(some false))))else(some false))))))=some true:=H
 have aU:=zM aA
 clear aA
 obtain⟨u,aV,H⟩:=sO H
 by_cases J:(u !=x)=true
 ·(
 rw[if_pos J]at H
 have c19b0:(u !=x)=true:=J
 (try(have c19b1:decide (u=x)=false:=by simpa using J))
 (try(have c19b2:(u==x)=false:=by simpa using J))
 (try(have c19b3:¬(u=x):=by simpa using J))
 clear J
 exact absurd H (by simp))
 rw[if_neg J]at H
 have c19b0:(u !=x)=false:=by simpa using J
 (try(have c19b1:decide (u=x)=true:=by simpa using J))
 (try(have c19b2:(u==x)=true:=by simpa using J))
 clear J
 obtain⟨M,aW,H⟩:=sO H
 obtain⟨V,aX,H⟩:=sO H
 by_cases an:V=true
 ·(
 subst an
 rewrite[if_pos rfl]at H
 replace H:=Option.bind_eq_some_iff.mp H
 obtain⟨⟨ao,ap,aq,ar⟩,aB,H⟩:=H
 replace H:((laws_eqPattern.f k B D E A ao ap aq ar).bind fun O=>(if O=true then(some true)else(some false)))=some true:=H
 have aY:=zM aB
 clear aB
 obtain⟨O,aZ,H⟩:=sO H
 by_cases au:O=true
 ·(
 subst au
 have H1:(some true)=some true:=rfl
 clear H
 have H:=H1
 clear H1
 clear H
 go_enter Try.func4,Try.ntmps4
 try go_wp2_with (first|((with_reducible refine gate_dst (N:=3) rfl ?_);refine sV (N:=3) (cs:= #[.int .i64 a1_0,.int .i64 a1_1,.string a1_2,.slice A1_3 l1_3.length c1_3]) (t:=31) ?_;intro I hg bm hbox hb;have a:=zM (hbox);have ay:=sG HB hg;have P:=sG HB hg;replace HB:=sB HB hb;clear hb hbox hg)|((with_reducible refine gate_callee (f:=7) rfl ?_);refine sC (some 12) Try.func7 #[.slice A0 l0.length c0,.int .i64 1048576] (laws_szNamedS.calls k _ _ l0 1048576 G _ ?side1 ?side2 A3.out) ?_;(case side1=>exact sD (zC X.out HB.out));(case side2=>exact Y.out);rintro e bn ⟨rfl,hb⟩;refine⟨_,rfl,?_⟩;replace a:=sK a hb;replace HB:=sB HB hb;(try clear hb);obtain⟨bo,bp,bq,br,bs,bt,bu,bv⟩:=cells4 a.out)|((with_reducible refine gate_callee (f:=12) rfl ?_);refine sC (some 17) Try.func12 #[.agg #[.int .i64 a1_0,.int .i64 a1_1,.string a1_2,.slice A1_3 l1_3.length c1_3],.int .i64 G] (laws_szPattern.calls k a1_0 a1_1 a1_2 _ _ l1_3 G ad _ ?side1 ?side2 A7.out) ?_;(case side1=>exact sD (zC ab.out HB.out));(case side2=>exact ac.out);rintro e a0 ⟨rfl,hb⟩;refine⟨_,rfl,?_⟩;replace a:=sK a hb;replace HB:=sB HB hb;(try clear hb)))
 replace a:=zM (blk_drew a.out)
 replace HB:=zM (below_drew1 HB.out)
 refine start_ (n:=6) (S:=fun w'=>w'.cell? ⟨I,0,none⟩=some (.int .i64 a1_0)∧w'.cell? ⟨I,1,none⟩=some (.int .i64 a1_1)∧w'.cell? ⟨I,2,none⟩=some (.string a1_2)∧w'.cell? ⟨I,3,none⟩=some (.slice A1_3 l1_3.length c1_3)) (ds:=[]) #[false,false,false,false,false,false] (by kernel_rfl) rfl rfl ⟨(blk_cell a.out 0).trans rfl,(blk_cell a.out 1).trans rfl,(blk_cell a.out 2).trans rfl,(blk_cell a.out 3).trans rfl⟩ (fun hHeld=>?_)
 generalize a0.drew=w30 at a HB hHeld ⊢
 refine pure_ (i:=0) (N:=some 20) (v:=?_) (a':=?_) #[true,false,false,false,false,false] rfl rfl (by kernel_rfl) (fun _ _ _ h=>h) (Or.inl ⟨by rfl,?_⟩) ?_ ?_
 rotate_left
 ·(
 intro w'
 go_simp
 with_reducible rfl)
 rotate_left
 ·(
 simp only[zP,i64_w,i32_w]
 rfl)
 refine take_ (i:=2) (N:=some 22) (v:=?_) (a':=?_) #[true,false,true,false,false,false] rfl rfl (by kernel_rfl) (fun _ _ _ h=>h) (Or.inl ⟨by rfl,?_⟩) hHeld ?_ ?_
 rotate_left
 ·(
 rintro w' ⟨s0,s1,s2,s3⟩
 go_simp
 with_reducible rfl)
 rotate_left
 ·(
 simp only[zP,i64_w,i32_w]
 rfl)
 refine one_ (i:=1) (N:=some 21) #[true,true,true,false,false,false] rfl rfl (by kernel_rfl) (by decide) (fun K hK=>?_)
 refine goes_ Try.func9 (by kernel_rfl) rfl #[.slice A0 l0.length c0] (by rfl) rfl rfl (by(try simp only[List.map_toArray,List.map_cons,List.map_nil]);first|done|rfl|(simp only[List.length_drop,List.length_take];rfl)) ?_
 with_reducible refine(laws_toNamedS.calls k _ _ l0 U _ ?side1 ?side2 aQ.out).mono ?_
 (case side1=>exact sD (zC X.out HB.out))
 (case side2=>exact Y.out)
 rintro e bw ⟨bx,rfl,b,hb⟩
 refine⟨_,rfl,?_⟩
 have d:=zM (Kd.R_lower b (below_size zzR))
 replace a:=sK a hb
 replace HB:=sB HB hb
 (try clear hb)
 (try clear hb2)
 (try clear hk)
 (try clear hi)
 (try clear b)
 refine hK.out _ _ ⟨(blk_cell a.out 0).trans rfl,(blk_cell a.out 1).trans rfl,(blk_cell a.out 2).trans rfl,(blk_cell a.out 3).trans rfl⟩ (fun hHeld=>?_)
 clear hK K
 refine norm_ (a':=?_) ?_ ?_
 rotate_left
 ·(
 show Act.put _ (some 21) _=_
 simp only[zP,i64_w,i32_w]
 rfl)
 refine one_ (i:=3) (N:=some 23) #[true,true,true,true,false,false] rfl rfl (by kernel_rfl) (by decide) (fun K hK=>?_)
 refine goes_ Try.func14 (by kernel_rfl) rfl #[.agg #[.int .i64 a1_0,.int .i64 a1_1,.string a1_2,.slice A1_3 l1_3.length c1_3]] (by rfl) rfl rfl (by(try simp only[List.map_toArray,List.map_cons,List.map_nil]);first|done|rfl|(simp only[List.length_drop,List.length_take];rfl)) ?_
 with_reducible refine(laws_toPattern.calls k a1_0 a1_1 a1_2 _ _ l1_3 ak al am aa _ ?side1 ?side2 aR.out).mono ?_
 (case side1=>exact sD (zC ab.out HB.out))
 (case side2=>exact ac.out)
 rintro e bz ⟨bA,rfl,b,hb⟩
 refine⟨_,rfl,?_⟩
 replace d:=zM (Kd.R_elder' (sE d.out) (Kd.R_base b) hb)
 have j:=zM (Kd.R_lower b (below_size zzR))
 replace a:=sK a hb
 replace HB:=sB HB hb
 (try clear hb)
 (try clear hb2)
 (try clear hk)
 (try clear hi)
 (try clear b)
 obtain⟨aC,aD,aE⟩:=Kd.R_slice d.out
 (first|subst aE|(injection aE with Q ae R;have af:=Q.symm;have ag:=R.symm;clear Q ae R;subst af;subst ag))
 obtain⟨av,aw,aF⟩:=Kd.R_slice j.out
 (first|subst aF|(injection aF with Q ae R;have af:=Q.symm;have ag:=R.symm;clear Q ae R;subst af;subst ag))
 refine hK.out _ _ ⟨(blk_cell a.out 0).trans rfl,(blk_cell a.out 1).trans rfl,(blk_cell a.out 2).trans rfl,(blk_cell a.out 3).trans rfl⟩ (fun hHeld=>?_)
 clear hK K
 refine norm_ (a':=?_) ?_ ?_
 rotate_left
 ·(
 show Act.put _ (some 23) _=_
 simp only[zP,i64_w,i32_w]
 rfl)
 refine one_ (i:=4) (N:=some 24) #[true,true,true,true,true,false] rfl rfl (by kernel_rfl) (by decide) (fun K hK=>?_)
 refine goes_ Try.func13 (by kernel_rfl) rfl #[.slice aC U.length aD,.agg #[.int .i64 ak,.int .i64 al,.string am,.slice av aa.length aw]] (by rfl) rfl rfl (by(try simp only[List.map_toArray,List.map_cons,List.map_nil]);first|done|rfl|(simp only[List.length_drop,List.length_take];rfl)) ?_
 with_reducible refine(spec_IsPure.calls k _ _ U ak al am _ _ aa x _ ?side1 ?side2 ?side3 ?side4 aS.out).mono ?_
 (case side1=>exact sD ((Kd.R_reads' d.out).2.2))
 (case side2=>exact(Kd.R_reads' d.out).2.1)
 (case side3=>exact sD ((Kd.R_reads' j.out).2.2))
 (case side4=>exact(Kd.R_reads' j.out).2.1)
 rintro e bB ⟨rfl,hb⟩
 refine⟨_,rfl,?_⟩
 replace d:=zM (Kd.R_below (sE d.out) hb)
 replace j:=zM (Kd.R_below (sE j.out) hb)
 replace a:=sK a hb
 replace HB:=sB HB hb
 (try clear hb)
 (try clear hb2)
 (try clear hk)
 (try clear hi)
 refine hK.out _ _ ⟨(blk_cell a.out 0).trans rfl,(blk_cell a.out 1).trans rfl,(blk_cell a.out 2).trans rfl,(blk_cell a.out 3).trans rfl⟩ (fun hHeld=>?_)
 clear hK K
 refine norm_ (a':=?_) ?_ ?_
 rotate_left
 ·(
 show Act.put _ (some 24) _=_
 simp only[zP,i64_w,i32_w]
 rfl)
 refine pure_ (i:=5) (N:=some 6) (v:=?_) (a':=?_) #[true,true,true,true,true,true] rfl rfl (by kernel_rfl) (fun _ _ _ h=>h) (Or.inl ⟨by rfl,?_⟩) ?_ ?_
 rotate_left
 ·(
 intro w'
 go_simp
 with_reducible rfl)
 rotate_left
 ·(
 simp only[zP,i64_w,i32_w]
 rfl)
 refine done_ (by kernel_rfl) ?_
 try go_wp2_with (first|((with_reducible refine gate_callee (f:=9) rfl ?_);refine sC (some 26) Try.func9 #[.slice A0 l0.length c0] (laws_toNamedS.calls k _ _ l0 y _ ?side1 ?side2 aT.out) ?_;(case side1=>exact sD (zC X.out HB.out));(case side2=>exact Y.out);rintro e bC ⟨bD,rfl,b,hb⟩;refine⟨_,rfl,?_⟩;have p:=zM (Kd.R_lower (Kd.R_new' (Kd.R_new' b (Kd.R_lt (sE d.out))) (Kd.R_lt (sE j.out))) (below_size zzR));replace d:=zM (Kd.R_elder' (sE d.out) (Kd.R_base b) hb);replace j:=zM (Kd.R_below (sE j.out) hb);replace a:=sK a hb;replace HB:=sB HB hb;(try clear hb);(try clear b);obtain⟨bE,bF,bG,bH,bI,bJ,bK,bL⟩:=cells4 a.out)|((with_reducible refine gate_callee (f:=14) rfl ?_);refine sC (some 28) Try.func14 #[.agg #[.int .i64 a1_0,.int .i64 a1_1,.string a1_2,.slice A1_3 l1_3.length c1_3]] (laws_toPattern.calls k a1_0 a1_1 a1_2 _ _ l1_3 B D E A _ ?side1 ?side2 aU.out) ?_;(case side1=>exact sD (zC ab.out HB.out));(case side2=>exact ac.out);rintro e bM ⟨bN,rfl,b,hb⟩;refine⟨_,rfl,?_⟩;replace d:=zM (Kd.R_elder' (sE d.out) (Kd.R_base b) hb);replace p:=zM (Kd.R_elder' (sE p.out) (Kd.R_base b) hb);have q:=zM (Kd.R_lower (Kd.R_new' b (Kd.R_lt (sE j.out))) (below_size zzR));replace j:=zM (Kd.R_elder' (sE j.out) (Kd.R_base b) hb);replace a:=sK a hb;replace HB:=sB HB hb;(try clear hb);(try clear b))|((with_reducible refine gate_dst (N:=8) rfl ?_);refine sV (N:=8) (cs:= #[.int .i64 0,.int .i64 0,.string (⟨#[]⟩:ByteArray),.slice none 0 0]) (t:=36) ?_;intro m hg bO hbox hb;replace d:=zM (Kd.R_below (Kd.R_elderB (sE d.out) m (Nat.le_of_eq hg.symm)) hb);replace j:=zM (Kd.R_below (Kd.R_elderB (sE j.out) m (Nat.le_of_eq hg.symm)) hb);replace p:=zM (Kd.R_below (Kd.R_elderB (sE p.out) m (Nat.le_of_eq hg.symm)) hb);replace q:=zM (Kd.R_below (Kd.R_elderB (sE q.out) m (Nat.le_of_eq hg.symm)) hb);have l:=zM (hbox);have bP:=sG HB hg;have aG:=sG HB hg;replace HB:=sB HB hb;have ah:=sN a hg;have a1:=sM a hg;replace a:=sK a hb;clear hb hbox hg;have bQ:=a1.out;have bR:=ah.out;obtain⟨bS,bT,bU,bV,bW,bX,bY,bZ⟩:=cells4 l.out;obtain⟨W,T,a2⟩:=Kd.R_slice q.out;subst a2;obtain⟨aH,ax,a3⟩:=Kd.R_slice p.out;subst a3)|((with_reducible refine gate_callee (f:=15) rfl ?_);refine sC (some 31) Try.func15 #[.slice aH y.length ax,.agg #[.int .i64 B,.int .i64 D,.string E,.slice W A.length T]] (impl_IsPure.calls k _ _ y B D E _ _ A u _ ?side1 ?side2 ?side3 ?side4 aV.out) ?_;(case side1=>refine(Kd.R_reads' (e:=52) (base:=w.heap.size) (ok:=fun r=>((((True∧some r≠(.slice aC U.length aD:Value).ownBlock)∧some r≠(.slice av aa.length aw:Value).ownBlock)∧some r≠(.slice W A.length T:Value).ownBlock)∧r≠m)) (n:=y.length) (c:=ax) ?_).2.2;exact(by(with_reducible repeat(first|apply Kd.R_alloc|apply Kd.R_drewN|apply Kd.R_drew));exact(Kd.R_mono (sRF4 (g:=m) (Kd.R_mono p.out (fun r hk=>(⟨hk,hk.2⟩:_∧r≠m))) (fun _ hk=>hk.2)) (fun _ L=>L.1))));(case side2=>exact(Kd.R_reads' p.out).2.1);(case side3=>refine(Kd.R_reads' (e:=36) (base:=w.heap.size) (ok:=fun r=>((True∧some r≠(.slice av aa.length aw:Value).ownBlock)∧r≠m)) (n:=A.length) (c:=T) ?_).2.2;exact(by(with_reducible repeat(first|apply Kd.R_alloc|apply Kd.R_drewN|apply Kd.R_drew));exact(Kd.R_mono (sRF4 (g:=m) (Kd.R_mono q.out (fun r hk=>(⟨hk,hk.2⟩:_∧r≠m))) (fun _ hk=>hk.2)) (fun _ L=>L.1))));(case side4=>exact(Kd.R_reads' q.out).2.1);rintro e b0 ⟨rfl,hb⟩;refine⟨_,rfl,?_⟩;have aI:=zM (Kd.R_below (by(with_reducible repeat(first|apply Kd.R_alloc|apply Kd.R_drewN|apply Kd.R_drew));exact(Kd.R_mono (sRF4 (g:=m) (Kd.R_mono d.out (fun r hk=>(⟨hk,hk.2⟩:_∧r≠m))) (fun _ hk=>hk.2)) (fun _ L=>L.1))) hb);have aJ:=zM (Kd.R_below (by(with_reducible repeat(first|apply Kd.R_alloc|apply Kd.R_drewN|apply Kd.R_drew));exact(Kd.R_mono (sRF4 (g:=m) (Kd.R_mono j.out (fun r hk=>(⟨hk,hk.2⟩:_∧r≠m))) (fun _ hk=>hk.2)) (fun _ L=>L.1))) hb);have aK:=zM (Kd.R_below (by(with_reducible repeat(first|apply Kd.R_alloc|apply Kd.R_drewN|apply Kd.R_drew));exact(Kd.R_mono (sRF4 (g:=m) (Kd.R_mono p.out (fun r hk=>(⟨hk,hk.2⟩:_∧r≠m))) (fun _ hk=>hk.2)) (fun _ L=>L.1))) hb);have aL:=zM (Kd.R_below (by(with_reducible repeat(first|apply Kd.R_alloc|apply Kd.R_drewN|apply Kd.R_drew));exact(Kd.R_mono (sRF4 (g:=m) (Kd.R_mono q.out (fun r hk=>(⟨hk,hk.2⟩:_∧r≠m))) (fun _ hk=>hk.2)) (fun _ L=>L.1))) hb);have aM:=zM (blk_below (g:=I) (o:= .cells #[.int .i64 a1_0,.int .i64 a1_1,.string a1_2,.slice A1_3 l1_3.length c1_3] 31 (0,0)) (by(with_reducible repeat(first|refine blk_drewN ?_ _|refine blk_drew ?_|refine blk_alloc ?_ _));refine blk_far ?_ ah.out _;(with_reducible repeat(first|refine blk_drewN ?_ _|refine blk_drew ?_|refine blk_alloc ?_ _));refine blk_far ?_ ah.out _;(with_reducible repeat(first|refine blk_drewN ?_ _|refine blk_drew ?_|refine blk_alloc ?_ _));refine blk_far ?_ ah.out _;(with_reducible repeat(first|refine blk_drewN ?_ _|refine blk_drew ?_|refine blk_alloc ?_ _));refine blk_far ?_ ah.out _;exact sT a.out) hb);have aN:=zM (blk_below (g:=m) (o:= .cells #[.int .i64 B,.int .i64 D,.string E,.slice W A.length T] 36 (0,0)) (by exact sP4 (sT l.out)) hb);have aO:=sB HB hb;clear d;clear j;clear p;clear q;clear a;clear l;clear HB;have d:=aI;have j:=aJ;have p:=aK;have q:=aL;have a:=aM;have l:=aN;have HB:=aO;clear aI aJ aK aL aM aN aO;(try clear hb);(try clear hk))|((with_reducible refine gate_callee (f:=9) rfl ?_);refine sC (some 37) Try.func9 #[.slice A0 l0.length c0] (laws_toNamedS.calls k _ _ l0 M _ ?side1 ?side2 aW.out) ?_;(case side1=>exact sD (zC X.out HB.out));(case side2=>exact Y.out);rintro e b1 ⟨b2,rfl,b,hb⟩;refine⟨_,rfl,?_⟩;have F:=zM (Kd.R_lower (Kd.R_newB (Kd.R_new' (Kd.R_new' (Kd.R_new' (Kd.R_new' b (Kd.R_lt (sE d.out))) (Kd.R_lt (sE j.out))) (Kd.R_lt (sE p.out))) (Kd.R_lt (sE q.out))) (g:=m) (o:= .cells #[.int .i64 B,.int .i64 D,.string E,.slice W A.length T] 36 (0,0)) (sT l.out)) (below_size zzR));replace d:=zM (Kd.R_elder' (sE d.out) (Kd.R_base b) hb);replace j:=zM (Kd.R_below (sE j.out) hb);replace p:=zM (Kd.R_elder' (sE p.out) (Kd.R_base b) hb);replace q:=zM (Kd.R_below (sE q.out) hb);replace a:=sK a hb;replace l:=sK l hb;replace HB:=sB HB hb;(try clear hb);(try clear hk);(try clear b);obtain⟨a4,a5,a6⟩:=Kd.R_slice F.out;subst a6)|((with_reducible refine gate_callee (f:=11) rfl ?_);refine sC (some 38) Try.func11 #[.slice aH y.length ax,.slice a4 M.length a5] (laws_eqNamedS.calls k _ _ y _ _ M true _ ?side1 ?side2 ?side3 ?side4 aX.out) ?_;(case side1=>exact sD ((Kd.R_reads' p.out).2.2));(case side2=>exact(Kd.R_reads' p.out).2.1);(case side3=>exact sD ((Kd.R_reads' F.out).2.2));(case side4=>exact(Kd.R_reads' F.out).2.1);rintro e a7 ⟨rfl,hb⟩;refine⟨_,rfl,?_⟩;replace d:=zM (Kd.R_below (sE d.out) hb);replace j:=zM (Kd.R_below (sE j.out) hb);replace p:=zM (Kd.R_below (sE p.out) hb);replace q:=zM (Kd.R_below (sE q.out) hb);replace F:=zM (Kd.R_below (sE F.out) hb);replace a:=sK a hb;replace l:=sK l hb;replace HB:=sB HB hb;(try clear hb);(try clear hk)))
 replace d:=zM (Kd.R_drew d.out)
 replace j:=zM (Kd.R_drew j.out)
 replace p:=zM (Kd.R_drew p.out)
 replace q:=zM (Kd.R_drew q.out)
 replace F:=zM (Kd.R_drew F.out)
 replace a:=zM (blk_drew a.out)
 replace l:=zM (blk_drew l.out)
 replace HB:=zM (below_drew1 HB.out)
 refine start_ (n:=5) (S:=fun w'=>w'.cell? ⟨m,0,none⟩=some (.int .i64 B)∧w'.cell? ⟨m,1,none⟩=some (.int .i64 D)∧w'.cell? ⟨m,2,none⟩=some (.string E)∧w'.cell? ⟨m,3,none⟩=some (.slice W A.length T)∧w'.cell? ⟨I,0,none⟩=some (.int .i64 a1_0)∧w'.cell? ⟨I,1,none⟩=some (.int .i64 a1_1)∧w'.cell? ⟨I,2,none⟩=some (.string a1_2)∧w'.cell? ⟨I,3,none⟩=some (.slice A1_3 l1_3.length c1_3)) (ds:=[]) #[false,false,false,false,false] (by kernel_rfl) rfl rfl ⟨(blk_cell l.out 0).trans rfl,(blk_cell l.out 1).trans rfl,(blk_cell l.out 2).trans rfl,(blk_cell l.out 3).trans rfl,(blk_cell a.out 0).trans rfl,(blk_cell a.out 1).trans rfl,(blk_cell a.out 2).trans rfl,(blk_cell a.out 3).trans rfl⟩ (fun hHeld=>?_)
 generalize a7.drew=w48 at d j p q F a l HB hHeld ⊢
 refine take_ (i:=0) (N:=some 40) (v:=?_) (a':=?_) #[true,false,false,false,false] rfl rfl (by kernel_rfl) (fun _ _ _ h=>h) (Or.inl ⟨by rfl,?_⟩) hHeld ?_ ?_
 rotate_left
 ·(
 rintro w' ⟨s0,s1,s2,s3,s4,s5,s6,s7⟩
 go_simp
 with_reducible rfl)
 rotate_left
 ·(
 simp only[zP,i64_w,i32_w]
 rfl)
 refine take_ (i:=1) (N:=some 41) (v:=?_) (a':=?_) #[true,true,false,false,false] rfl rfl (by kernel_rfl) (fun _ _ _ h=>h) (Or.inl ⟨by rfl,?_⟩) hHeld ?_ ?_
 rotate_left
 ·(
 rintro w' ⟨s0,s1,s2,s3,s4,s5,s6,s7⟩
 go_simp
 with_reducible rfl)
 rotate_left
 ·(
 simp only[zP,i64_w,i32_w]
 rfl)
 refine one_ (i:=2) (N:=some 42) #[true,true,true,false,false] rfl rfl (by kernel_rfl) (by decide) (fun K hK=>?_)
 refine goes_ Try.func14 (by kernel_rfl) rfl #[.agg #[.int .i64 a1_0,.int .i64 a1_1,.string a1_2,.slice A1_3 l1_3.length c1_3]] (by rfl) rfl rfl (by(try simp only[List.map_toArray,List.map_cons,List.map_nil]);first|done|rfl|(simp only[List.length_drop,List.length_take];rfl)) ?_
 with_reducible refine(laws_toPattern.calls k a1_0 a1_1 a1_2 _ _ l1_3 ao ap aq ar _ ?side1 ?side2 aY.out).mono ?_
 (case side1=>exact sD (zC ab.out HB.out))
 (case side2=>exact ac.out)
 rintro e b3 ⟨b4,rfl,b,hb⟩
 refine⟨_,rfl,?_⟩
 replace d:=zM (Kd.R_elder' (sE d.out) (Kd.R_base b) hb)
 replace p:=zM (Kd.R_elder' (sE p.out) (Kd.R_base b) hb)
 replace F:=zM (Kd.R_elder' (sE F.out) (Kd.R_base b) hb)
 have ai:=zM (Kd.R_lower (Kd.R_newB (Kd.R_new' (Kd.R_new' b (Kd.R_lt (sE j.out))) (Kd.R_lt (sE q.out))) (g:=m) (o:= .cells #[.int .i64 B,.int .i64 D,.string E,.slice W A.length T] 36 (0,0)) (sT l.out)) (below_size zzR))
 replace j:=zM (Kd.R_elder' (sE j.out) (Kd.R_base b) hb)
 replace q:=zM (Kd.R_elder' (sE q.out) (Kd.R_base b) hb)
 replace a:=sK a hb
 replace l:=sK l hb
 replace HB:=sB HB hb
 (try clear hb)
 (try clear hb2)
 (try clear hk)
 (try clear hi)
 (try clear b)
 obtain⟨a8,a9,aP⟩:=Kd.R_slice ai.out
 (first|subst aP|(injection aP with Q ae R;have af:=Q.symm;have ag:=R.symm;clear Q ae R;subst af;subst ag))
 refine hK.out _ _ ⟨(blk_cell l.out 0).trans rfl,(blk_cell l.out 1).trans rfl,(blk_cell l.out 2).trans rfl,(blk_cell l.out 3).trans rfl,(blk_cell a.out 0).trans rfl,(blk_cell a.out 1).trans rfl,(blk_cell a.out 2).trans rfl,(blk_cell a.out 3).trans rfl⟩ (fun hHeld=>?_)
 clear hK K
 refine norm_ (a':=?_) ?_ ?_
 rotate_left
 ·(
 show Act.put _ (some 42) _=_
 simp only[zP,i64_w,i32_w]
 rfl)
 refine one_ (i:=3) (N:=some 43) #[true,true,true,true,false] rfl rfl (by kernel_rfl) (by decide) (fun K hK=>?_)
 refine goes_ Try.func16 (by kernel_rfl) rfl #[.agg #[.int .i64 B,.int .i64 D,.string E,.slice W A.length T],.agg #[.int .i64 ao,.int .i64 ap,.string aq,.slice a8 ar.length a9]] (by rfl) rfl rfl (by(try simp only[List.map_toArray,List.map_cons,List.map_nil]);first|done|rfl|(simp only[List.length_drop,List.length_take];rfl)) ?_
 with_reducible refine(laws_eqPattern.calls k B D E _ _ A ao ap aq _ _ ar true _ ?side1 ?side2 ?side3 ?side4 aZ.out).mono ?_
 (case side1=>exact sD ((Kd.R_reads' q.out).2.2))
 (case side2=>exact(Kd.R_reads' q.out).2.1)
 (case side3=>exact sD ((Kd.R_reads' ai.out).2.2))
 (case side4=>exact(Kd.R_reads' ai.out).2.1)
 rintro e b5 ⟨rfl,hb⟩
 refine⟨_,rfl,?_⟩
 replace d:=zM (Kd.R_below (sE d.out) hb)
 replace j:=zM (Kd.R_below (sE j.out) hb)
 replace p:=zM (Kd.R_below (sE p.out) hb)
 replace q:=zM (Kd.R_below (sE q.out) hb)
 replace F:=zM (Kd.R_below (sE F.out) hb)
 replace ai:=zM (Kd.R_below (sE ai.out) hb)
 replace a:=sK a hb
 replace l:=sK l hb
 replace HB:=sB HB hb
 (try clear hb)
 (try clear hb2)
 (try clear hk)
 (try clear hi)
 refine hK.out _ _ ⟨(blk_cell l.out 0).trans rfl,(blk_cell l.out 1).trans rfl,(blk_cell l.out 2).trans rfl,(blk_cell l.out 3).trans rfl,(blk_cell a.out 0).trans rfl,(blk_cell a.out 1).trans rfl,(blk_cell a.out 2).trans rfl,(blk_cell a.out 3).trans rfl⟩ (fun hHeld=>?_)
 clear hK K
 refine norm_ (a':=?_) ?_ ?_
 rotate_left
 ·(
 show Act.put _ (some 43) _=_
 simp only[zP,i64_w,i32_w]
 rfl)
 refine pure_ (i:=4) (N:=some 44) (v:=?_) (a':=?_) #[true,true,true,true,true] rfl rfl (by kernel_rfl) (fun _ _ _ h=>h) (Or.inl ⟨by rfl,?_⟩) ?_ ?_
 rotate_left
 ·(
 intro w'
 go_simp
 with_reducible rfl)
 rotate_left
 ·(
 simp only[zP,i64_w,i32_w]
 rfl)
 refine done_ (by kernel_rfl) ?_
 try go_wp2
 go_ret
 exact⟨sq,sb⟩)
 replace au:=zB au
 subst au
 rewrite[if_neg zQ]at H
 exact absurd H (by simp))
 replace an:=zB an
 subst an
 rewrite[if_neg zQ]at H
 exact absurd H (by simp)
end Go.Proofs.Ytdihlgkcpooadaa.PFnExactIsPure
