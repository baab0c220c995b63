/- Printed functions: laws_FnExactPairsOf. -/
import Derived.Test.YtengilknjiobiaaYPoP0
import Derived.Test.YtengilknjiobiaaYPoP1
import Derived.Test.YtengilknjiobiaaYPoP2
import Derived.Test.YtengilknjiobiaaYPoP3
import Derived.Test.YtengilknjiobiaaYPoP13
import Derived.Test.YtengilknjiobiaaYPoP24
import Derived.Test.YtengilknjiobiaaYPoP25
import Derived.Test.YtengilknjiobiaaYPoP26
import Derived.Test.YtengilknjiobiaaYPoP27
import Derived.Test.YtengilknjiobiaaYPoP29
import Derived.Test.YtengilknjiobiaaYPoP30
namespace Go.Proofs.Ytengilknjiobiaa.PFnExactPairsOf
open Go.RowKit Go.Proofs.YtengilknjiobiaaG Go.Proofs.YtengilknjiobiaaW.PrintWords Go.Proofs.YtengilknjiobiaaW.PrintLast Go.Proofs.YtengilknjiobiaaW.PrintMore
attribute [local go_sem] max2_int min2_int max_two min_two max_three min_three max_four min_four
set_option linter.unusedVariables false
set_option linter.unusedSimpArgs false
def laws_FnExactPairsOf.j0 : Nat → List (S29) → List (S29) → Bool → Int → List (S51) → Int → Int → ByteArray → Int → Option (Bool)
 |0,_,_,_,_,_,_,_,_,_=>none
 |k+1,x6,x8,x53,x447000,x447001,x448000,x448001,x448002,x448003=>if x53=true then(some false)else((laws_markValueS.f k x8 1).bind fun bt481=>((laws_heldValueS.f k bt481.2 1).bind fun t483=>(if t483<0 then(some false)else(if t483=bt481.1 then((laws_toHeap.f k x447000 x447001).bind fun bt484=>((laws_toValue.f x448000 x448001 x448002 x448003).bind fun bt488=>((impl_PairsOf.f k bt484.1 bt484.2 bt488.1 bt488.2.1 bt488.2.2.1 bt488.2.2.2).bind fun t492=>((laws_eqValueS.f k t492 x6).bind fun t495=>(if t495=true then((laws_heldValueS.f k bt481.2 1).bind fun t496=>(if t496<0 then(some false)else(if t496=bt481.1 then(some true)else(some false))))else(some false))))))else(some false)))))
def laws_FnExactPairsOf.f (k:Nat) (a0_0:Int) (l0_1:List (S51)) (a1_0:Int) (a1_1:Int) (a1_2:ByteArray) (a1_3:Int):Option (Bool):=(laws_szHeap.f k a0_0 l0_1 1048576).bind fun t448=>(if t448<0 then(some true)else((laws_szValue.f a1_0 a1_1 a1_2 a1_3 t448).bind fun t449=>(if t449<0 then(some true)else((laws_toHeap.f k a0_0 l0_1).bind fun bt450=>((laws_toValue.f a1_0 a1_1 a1_2 a1_3).bind fun bt454=>((spec_PairsOf.f k bt450.1 bt450.2 bt454.1 bt454.2.1 bt454.2.2.1 bt454.2.2.2).bind fun t458=>((laws_toHeap.f k a0_0 l0_1).bind fun bt461=>((laws_toValue.f a1_0 a1_1 a1_2 a1_3).bind fun bt466=>((impl_PairsOf.f k bt461.1 bt461.2 bt466.1 bt466.2.1 bt466.2.2.1 bt466.2.2.2).bind fun t470=>((laws_eqValueS.f k t470 t458).bind fun t473=>(if t473=true then((laws_toHeap.f k a0_0 l0_1).bind fun bt474=>((laws_eqHeap.f k bt461.1 bt461.2 bt474.1 bt474.2).bind fun t478=>(if t478=true then((laws_markHeap.f bt461.1 bt461.2 1).bind fun t479=>(if t479<0 then(laws_FnExactPairsOf.j0 k t458 t470 true a0_0 l0_1 a1_0 a1_1 a1_2 a1_3)else((laws_eqValueS.f k t470 t458).bind fun t480=>(laws_FnExactPairsOf.j0 k t458 t470 (!t480) a0_0 l0_1 a1_0 a1_1 a1_2 a1_3))))else(some false))))else(some false))))))))))))
set_option maxHeartbeats 8000000 in
set_option maxRecDepth 100000 in
theorem laws_FnExactPairsOf.calls (k:Nat) (a0_0:Int) (A0_1:Option Addr) (c0_1:Nat) (l0_1:List (S51)) (a1_0:Int) (a1_1:Int) (a1_2:ByteArray) (a1_3:Int) (w:World) (hr0_1:Kd.C k51 w A0_1 l0_1.length l0_1) (hc0_1:l0_1.length≤c0_1) (h:laws_FnExactPairsOf.f k a0_0 l0_1 a1_0 a1_1 a1_2 a1_3=some true):
  Calls Try.prog 5 #[.agg #[.int .i64 a0_0,.slice A0_1 l0_1.length c0_1],.agg #[.int .i64 a1_0,.int .i64 a1_1,.string a1_2,.int .i64 a1_3]] w fun e w'=>e= .returned (.bool true)∧Below w.heap.size w w':=by
 have cv:=Try.underlying24
 have cw:=Try.underlying26
 have cx:=Try.underlying34
 have al:=zM hr0_1
 have am:=zM hc0_1
 clear hr0_1 hc0_1
 have HB:=zM (Below.refl w.heap.size w)
 have H:((laws_szHeap.f k a0_0 l0_1 1048576).bind fun V=>(if V<0 then(some true)else((laws_szValue.f a1_0 a1_1 a1_2 a1_3 V).bind fun aG=>(if aG<0 then(some true)else((laws_toHeap.f k a0_0 l0_1).bind fun bg=>((laws_toValue.f a1_0 a1_1 a1_2 a1_3).bind fun ae=>((spec_PairsOf.f k bg.1 bg.2 ae.1 ae.2.1 ae.2.2.1 ae.2.2.2).bind fun d=>((laws_toHeap.f k a0_0 l0_1).bind fun A=>((laws_toValue.f a1_0 a1_1 a1_2 a1_3).bind fun B=>((impl_PairsOf.f k A.1 A.2 B.1 B.2.1 B.2.2.1 B.2.2.2).bind fun c=>((laws_eqValueS.f k c d).bind fun W=>(if W=true then((laws_toHeap.f k a0_0 l0_1).bind fun O=>((laws_eqHeap.f k A.1 A.2 O.1 O.2).bind fun T=>(if T=true then((laws_markHeap.f A.1 A.2 1).bind fun P=>(if P<0 then(laws_FnExactPairsOf.j0 k d c true a0_0 l0_1 a1_0 a1_1 a1_2 a1_3)else((laws_eqValueS.f k c d).bind fun Q=>(laws_FnExactPairsOf.j0 k d c (!Q) a0_0 l0_1 a1_0 a1_1 a1_2 a1_3))))else(some false))))else(some false)))))))))))))=some true:=h
 clear h
 obtain⟨V,A3,H⟩:=sO H
 by_cases c4:V<0
 ·(
 rw[if_pos c4]at H
 have c4b0:=zT c4
 clear c4
 clear H
 go_enter Try.func5,Try.ntmps5
 go_wp2_with (first|((with_reducible refine gate_dst (N:=2) rfl ?_);refine sV (N:=2) (cs:= #[.int .i64 a0_0,.slice A0_1 l0_1.length c0_1]) (t:=24) ?_;intro ac hg w5 hbox hb;have b:=zM (hbox);have bh:=sG HB hg;have X:=sG HB hg;replace HB:=sB HB hb;clear hb hbox hg)|((with_reducible refine gate_dst (N:=3) rfl ?_);refine sV (N:=3) (cs:= #[.int .i64 a1_0,.int .i64 a1_1,.string a1_2,.int .i64 a1_3]) (t:=26) ?_;intro F hg w6 hbox hb;have a:=zM (hbox);have bi:=sG HB hg;have Y:=sG HB hg;replace HB:=sB HB hb;have aH:=sN b hg;have aI:=sM b hg;replace b:=sK b hb;clear hb hbox hg;have cy:=aH.out;have cz:=aI.out;obtain⟨cA,cB,cC,cD⟩:=cells2 b.out)|((with_reducible refine gate_callee (f:=9) rfl ?_);refine sC (some 15) Try.func9 #[.agg #[.int .i64 a0_0,.slice A0_1 l0_1.length c0_1],.int .i64 1048576] (laws_szHeap.calls k a0_0 _ _ l0_1 1048576 V _ ?side1 ?side2 A3.out) ?_;(case side1=>exact sD (zC al.out HB.out));(case side2=>exact am.out);rintro e w9 ⟨rfl,hb⟩;refine⟨_,rfl,?_⟩;replace b:=sK b hb;replace a:=sK a hb;replace HB:=sB HB hb;(try clear hb)))
 go_ret
 exact⟨sq,sb⟩)
 rw[if_neg c4]at H
 have c4b0:=zF c4
 clear c4
 obtain⟨aG,bj,H⟩:=sO H
 by_cases an:aG<0
 ·(
 rw[if_pos an]at H
 have c11b0:=zT an
 clear an
 clear H
 go_enter Try.func5,Try.ntmps5
 go_wp2_with (first|((with_reducible refine gate_dst (N:=2) rfl ?_);refine sV (N:=2) (cs:= #[.int .i64 a0_0,.slice A0_1 l0_1.length c0_1]) (t:=24) ?_;intro ac hg cE hbox hb;have b:=zM (hbox);have bh:=sG HB hg;have X:=sG HB hg;replace HB:=sB HB hb;clear hb hbox hg)|((with_reducible refine gate_dst (N:=3) rfl ?_);refine sV (N:=3) (cs:= #[.int .i64 a1_0,.int .i64 a1_1,.string a1_2,.int .i64 a1_3]) (t:=26) ?_;intro F hg cF hbox hb;have a:=zM (hbox);have bi:=sG HB hg;have Y:=sG HB hg;replace HB:=sB HB hb;have aH:=sN b hg;have aI:=sM b hg;replace b:=sK b hb;clear hb hbox hg;have cG:=aH.out;have cH:=aI.out;obtain⟨cI,cJ,cK,cL⟩:=cells2 b.out)|((with_reducible refine gate_callee (f:=9) rfl ?_);refine sC (some 15) Try.func9 #[.agg #[.int .i64 a0_0,.slice A0_1 l0_1.length c0_1],.int .i64 1048576] (laws_szHeap.calls k a0_0 _ _ l0_1 1048576 V _ ?side1 ?side2 A3.out) ?_;(case side1=>exact sD (zC al.out HB.out));(case side2=>exact am.out);rintro e cM ⟨rfl,hb⟩;refine⟨_,rfl,?_⟩;replace b:=sK b hb;replace a:=sK a hb;replace HB:=sB HB hb;(try clear hb);obtain⟨cN,cO,cP,cQ,cR,cS,cT,cU⟩:=cells4 a.out)|((with_reducible refine gate_callee (f:=10) rfl ?_);refine sC (some 20) Try.func10 #[.agg #[.int .i64 a1_0,.int .i64 a1_1,.string a1_2,.int .i64 a1_3],.int .i64 V] (laws_szValue.calls a1_0 a1_1 a1_2 a1_3 V aG _ bj.out) ?_;rintro e cV ⟨rfl,hb⟩;refine⟨_,rfl,?_⟩;replace b:=sK b hb;replace a:=sK a hb;replace HB:=sB HB hb;(try clear hb)))
 go_ret
 exact⟨sq,sb⟩)
 rw[if_neg an]at H
 have c11b0:=zF an
 clear an
 replace H:=Option.bind_eq_some_iff.mp H
 obtain⟨⟨aJ,af⟩,bk,H⟩:=H
 replace H:((laws_toValue.f a1_0 a1_1 a1_2 a1_3).bind fun ae=>((spec_PairsOf.f k aJ af ae.1 ae.2.1 ae.2.2.1 ae.2.2.2).bind fun d=>((laws_toHeap.f k a0_0 l0_1).bind fun A=>((laws_toValue.f a1_0 a1_1 a1_2 a1_3).bind fun B=>((impl_PairsOf.f k A.1 A.2 B.1 B.2.1 B.2.2.1 B.2.2.2).bind fun c=>((laws_eqValueS.f k c d).bind fun W=>(if W=true then((laws_toHeap.f k a0_0 l0_1).bind fun O=>((laws_eqHeap.f k A.1 A.2 O.1 O.2).bind fun T=>(if T=true then((laws_markHeap.f A.1 A.2 1).bind fun P=>(if P<0 then(laws_FnExactPairsOf.j0 k d c true a0_0 l0_1 a1_0 a1_1 a1_2 a1_3)else((laws_eqValueS.f k c d).bind fun Q=>(laws_FnExactPairsOf.j0 k d c (!Q) a0_0 l0_1 a1_0 a1_1 a1_2 a1_3))))else(some false))))else(some false))))))))=some true:=H
 have bA:=zM bk
 clear bk
 replace H:=Option.bind_eq_some_iff.mp H
 obtain⟨⟨aS,aT,aU,aV⟩,bl,H⟩:=H
 replace H:((spec_PairsOf.f k aJ af aS aT aU aV).bind fun d=>((laws_toHeap.f k a0_0 l0_1).bind fun A=>((laws_toValue.f a1_0 a1_1 a1_2 a1_3).bind fun B=>((impl_PairsOf.f k A.1 A.2 B.1 B.2.1 B.2.2.1 B.2.2.2).bind fun c=>((laws_eqValueS.f k c d).bind fun W=>(if W=true then((laws_toHeap.f k a0_0 l0_1).bind fun O=>((laws_eqHeap.f k A.1 A.2 O.1 O.2).bind fun T=>(if T=true then((laws_markHeap.f A.1 A.2 1).bind fun P=>(if P<0 then(laws_FnExactPairsOf.j0 k d c true a0_0 l0_1 a1_0 a1_1 a1_2 a1_3)else((laws_eqValueS.f k c d).bind fun Q=>(laws_FnExactPairsOf.j0 k d c (!Q) a0_0 l0_1 a1_0 a1_1 a1_2 a1_3))))else(some false))))else(some false)))))))=some true:=H
 have bB:=zM bl
 clear bl
 obtain⟨d,bC,H⟩:=sO H
 replace H:=Option.bind_eq_some_iff.mp H
 obtain⟨⟨u,p⟩,bm,H⟩:=H
 replace H:((laws_toValue.f a1_0 a1_1 a1_2 a1_3).bind fun B=>((impl_PairsOf.f k u p B.1 B.2.1 B.2.2.1 B.2.2.2).bind fun c=>((laws_eqValueS.f k c d).bind fun W=>(if W=true then((laws_toHeap.f k a0_0 l0_1).bind fun O=>((laws_eqHeap.f k u p O.1 O.2).bind fun T=>(if T=true then((laws_markHeap.f u p 1).bind fun P=>(if P<0 then(laws_FnExactPairsOf.j0 k d c true a0_0 l0_1 a1_0 a1_1 a1_2 a1_3)else((laws_eqValueS.f k c d).bind fun Q=>(laws_FnExactPairsOf.j0 k d c (!Q) a0_0 l0_1 a1_0 a1_1 a1_2 a1_3))))else(some false))))else(some false)))))=some true:=H
 have bD:=zM bm
 clear bm
 replace H:=Option.bind_eq_some_iff.mp H
 obtain⟨⟨aW,aX,aY,aZ⟩,bn,H⟩:=H
 replace H:((impl_PairsOf.f k u p aW aX aY aZ).bind fun c=>((laws_eqValueS.f k c d).bind fun W=>(if W=true then((laws_toHeap.f k a0_0 l0_1).bind fun O=>((laws_eqHeap.f k u p O.1 O.2).bind fun T=>(if T=true then((laws_markHeap.f u p 1).bind fun P=>(if P<0 then(laws_FnExactPairsOf.j0 k d c true a0_0 l0_1 a1_0 a1_1 a1_2 a1_3)else((laws_eqValueS.f k c d).bind fun Q=>(laws_FnExactPairsOf.j0 k d c (!Q) a0_0 l0_1 a1_0 a1_1 a1_2 a1_3))))else(some false))))else(some false))))=some true:=H
 have bE:=zM bn
 clear bn
 obtain⟨c,bF,H⟩:=sO H
 obtain⟨W,bG,H⟩:=sO H
 by_cases aK:W=true
 ·(
 subst aK
 rewrite[if_pos rfl]at H
 replace H:=Option.bind_eq_some_iff.mp H
 obtain⟨⟨a0,aL⟩,bo,H⟩:=H
 replace H:((laws_eqHeap.f k u p a0 aL).bind fun T=>(if T=true then((laws_markHeap.f u p 1).bind fun P=>(if P<0 then(laws_FnExactPairsOf.j0 k d c true a0_0 l0_1 a1_0 a1_1 a1_2 a1_3)else((laws_eqValueS.f k c d).bind fun Q=>(laws_FnExactPairsOf.j0 k d c (!Q) a0_0 l0_1 a1_0 a1_1 a1_2 a1_3))))else(some false)))=some true:=H
 have bH:=zM bo
 clear bo
 obtain⟨T,bI,H⟩:=sO H
 by_cases aM:T=true
 ·(
 subst aM
 rewrite[if_pos rfl]at H
 obtain⟨P,bJ,H⟩:=sO H
 have ba:=zM H
 clear H
 go_enter Try.func5,Try.ntmps5
 try go_wp2_with (first|((with_reducible refine gate_dst (N:=2) rfl ?_);refine sV (N:=2) (cs:= #[.int .i64 a0_0,.slice A0_1 l0_1.length c0_1]) (t:=24) ?_;intro ac hg cW hbox hb;have b:=zM (hbox);have bh:=sG HB hg;have X:=sG HB hg;replace HB:=sB HB hb;clear hb hbox hg)|((with_reducible refine gate_dst (N:=3) rfl ?_);refine sV (N:=3) (cs:= #[.int .i64 a1_0,.int .i64 a1_1,.string a1_2,.int .i64 a1_3]) (t:=26) ?_;intro F hg cX hbox hb;have a:=zM (hbox);have bi:=sG HB hg;have Y:=sG HB hg;replace HB:=sB HB hb;have aH:=sN b hg;have aI:=sM b hg;replace b:=sK b hb;clear hb hbox hg;have cY:=aH.out;have cZ:=aI.out;obtain⟨bK,bL,bM,bN⟩:=cells2 b.out)|((with_reducible refine gate_callee (f:=9) rfl ?_);refine sC (some 15) Try.func9 #[.agg #[.int .i64 a0_0,.slice A0_1 l0_1.length c0_1],.int .i64 1048576] (laws_szHeap.calls k a0_0 _ _ l0_1 1048576 V _ ?side1 ?side2 A3.out) ?_;(case side1=>exact sD (zC al.out HB.out));(case side2=>exact am.out);rintro e c0 ⟨rfl,hb⟩;refine⟨_,rfl,?_⟩;replace b:=sK b hb;replace a:=sK a hb;replace HB:=sB HB hb;(try clear hb);obtain⟨bO,bP,bQ,bR,bS,bT,bU,bV⟩:=cells4 a.out)|((with_reducible refine gate_callee (f:=10) rfl ?_);refine sC (some 20) Try.func10 #[.agg #[.int .i64 a1_0,.int .i64 a1_1,.string a1_2,.int .i64 a1_3],.int .i64 V] (laws_szValue.calls a1_0 a1_1 a1_2 a1_3 V aG _ bj.out) ?_;rintro e bW ⟨rfl,hb⟩;refine⟨_,rfl,?_⟩;replace b:=sK b hb;replace a:=sK a hb;replace HB:=sB HB hb;(try clear hb)))
 replace b:=zM (blk_drew b.out)
 replace a:=zM (blk_drew a.out)
 replace HB:=zM (below_drew1 HB.out)
 refine start_ (n:=6) (S:=fun w'=>w'.cell? ⟨ac,0,none⟩=some (.int .i64 a0_0)∧w'.cell? ⟨ac,1,none⟩=some (.slice A0_1 l0_1.length c0_1)∧w'.cell? ⟨F,0,none⟩=some (.int .i64 a1_0)∧w'.cell? ⟨F,1,none⟩=some (.int .i64 a1_1)∧w'.cell? ⟨F,2,none⟩=some (.string a1_2)∧w'.cell? ⟨F,3,none⟩=some (.int .i64 a1_3)) (ds:=[]) #[false,false,false,false,false,false] (by kernel_rfl) rfl rfl ⟨(blk_cell b.out 0).trans rfl,(blk_cell b.out 1).trans rfl,(blk_cell a.out 0).trans rfl,(blk_cell a.out 1).trans rfl,(blk_cell a.out 2).trans rfl,(blk_cell a.out 3).trans rfl⟩ (fun hHeld=>?_)
 generalize bW.drew=w39 at b a HB hHeld ⊢
 refine take_ (i:=0) (N:=some 23) (v:=?_) (a':=?_) #[true,false,false,false,false,false] rfl rfl (by kernel_rfl) (fun _ _ _ h=>h) (Or.inl ⟨by rfl,?_⟩) hHeld ?_ ?_
 rotate_left
 ·(
 rintro w' ⟨s0,s1,s2,s3,s4,s5⟩
 go_simp
 with_reducible rfl)
 rotate_left
 ·(
 simp only[zP,i64_w,i32_w]
 rfl)
 refine take_ (i:=2) (N:=some 25) (v:=?_) (a':=?_) #[true,false,true,false,false,false] rfl rfl (by kernel_rfl) (fun _ _ _ h=>h) (Or.inl ⟨by rfl,?_⟩) hHeld ?_ ?_
 rotate_left
 ·(
 rintro w' ⟨s0,s1,s2,s3,s4,s5⟩
 go_simp
 with_reducible rfl)
 rotate_left
 ·(
 simp only[zP,i64_w,i32_w]
 rfl)
 refine one_ (i:=1) (N:=some 24) #[true,true,true,false,false,false] rfl rfl (by kernel_rfl) (by decide) (fun K hK=>?_)
 refine goes_ Try.func12 (by kernel_rfl) rfl #[.agg #[.int .i64 a0_0,.slice A0_1 l0_1.length c0_1]] (by rfl) rfl rfl (by(try simp only[List.map_toArray,List.map_cons,List.map_nil]);first|done|rfl|(simp only[List.length_drop,List.length_take];rfl)) ?_
 with_reducible refine(laws_toHeap.calls k a0_0 _ _ l0_1 aJ af _ ?side1 ?side2 bA.out).mono ?_
 (case side1=>exact sD (zC al.out HB.out))
 (case side2=>exact am.out)
 rintro e c1 ⟨c2,rfl,q,hb⟩
 refine⟨_,rfl,?_⟩
 have m:=zM (Kd.S_lower q (below_size zzR))
 replace b:=sK b hb
 replace a:=sK a hb
 replace HB:=sB HB hb
 (try clear hb)
 (try clear hb2)
 (try clear hk)
 (try clear hi)
 (try clear q)
 refine hK.out _ _ ⟨(blk_cell b.out 0).trans rfl,(blk_cell b.out 1).trans rfl,(blk_cell a.out 0).trans rfl,(blk_cell a.out 1).trans rfl,(blk_cell a.out 2).trans rfl,(blk_cell a.out 3).trans rfl⟩ (fun hHeld=>?_)
 clear hK K
 refine norm_ (a':=?_) ?_ ?_
 rotate_left
 ·(
 show Act.put _ (some 24) _=_
 simp only[zP,i64_w,i32_w]
 rfl)
 refine one_ (i:=3) (N:=some 26) #[true,true,true,true,false,false] rfl rfl (by kernel_rfl) (by decide) (fun K hK=>?_)
 refine goes_ Try.func13 (by kernel_rfl) rfl #[.agg #[.int .i64 a1_0,.int .i64 a1_1,.string a1_2,.int .i64 a1_3]] (by rfl) rfl rfl (by(try simp only[List.map_toArray,List.map_cons,List.map_nil]);first|done|rfl|(simp only[List.length_drop,List.length_take];rfl)) ?_
 with_reducible refine(laws_toValue.calls a1_0 a1_1 a1_2 a1_3 aS aT aU aV _ bB.out).mono ?_
 rintro e c3 ⟨rfl,hb⟩
 refine⟨_,rfl,?_⟩
 replace m:=zM (Kd.S_below (sI m.out) hb)
 replace b:=sK b hb
 replace a:=sK a hb
 replace HB:=sB HB hb
 (try clear hb)
 (try clear hb2)
 (try clear hk)
 (try clear hi)
 obtain⟨a1,a2,bp⟩:=Kd.S_slice m.out
 (first|subst bp|(injection bp with ai aN aj;have aO:=ai.symm;have aP:=aj.symm;clear ai aN aj;subst aO;subst aP))
 refine hK.out _ _ ⟨(blk_cell b.out 0).trans rfl,(blk_cell b.out 1).trans rfl,(blk_cell a.out 0).trans rfl,(blk_cell a.out 1).trans rfl,(blk_cell a.out 2).trans rfl,(blk_cell a.out 3).trans rfl⟩ (fun hHeld=>?_)
 clear hK K
 refine norm_ (a':=?_) ?_ ?_
 rotate_left
 ·(
 show Act.put _ (some 26) _=_
 simp only[zP,i64_w,i32_w]
 rfl)
 refine one_ (i:=4) (N:=some 27) #[true,true,true,true,true,false] rfl rfl (by kernel_rfl) (by decide) (fun K hK=>?_)
 refine goes_ Try.func19 (by kernel_rfl) rfl #[.agg #[.int .i64 aJ,.slice a1 af.length a2],.agg #[.int .i64 aS,.int .i64 aT,.string aU,.int .i64 aV]] (by rfl) rfl rfl (by(try simp only[List.map_toArray,List.map_cons,List.map_nil]);first|done|rfl|(simp only[List.length_drop,List.length_take];rfl)) ?_
 with_reducible refine(spec_PairsOf.calls k aJ _ _ af aS aT aU aV d _ ?side1 ?side2 bC.out).mono ?_
 (case side1=>exact sD ((Kd.S_reads' m.out).2.2))
 (case side2=>exact(Kd.S_reads' m.out).2.1)
 rintro e c5 ⟨bb,rfl,q,hb⟩
 refine⟨_,rfl,?_⟩
 replace m:=zM (Kd.S_elder' (sI m.out) (Kd.R_base q) hb)
 have l:=zM (Kd.R_lower q (below_size zzR))
 replace b:=sK b hb
 replace a:=sK a hb
 replace HB:=sB HB hb
 (try clear hb)
 (try clear hb2)
 (try clear hk)
 (try clear hi)
 (try clear q)
 refine hK.out _ _ ⟨(blk_cell b.out 0).trans rfl,(blk_cell b.out 1).trans rfl,(blk_cell a.out 0).trans rfl,(blk_cell a.out 1).trans rfl,(blk_cell a.out 2).trans rfl,(blk_cell a.out 3).trans rfl⟩ (fun hHeld=>?_)
 clear hK K
 refine norm_ (a':=?_) ?_ ?_
 rotate_left
 ·(
 show Act.put _ (some 27) _=_
 simp only[zP,i64_w,i32_w]
 rfl)
 refine pure_ (i:=5) (N:=some 6) (v:=?_) (a':=?_) #[true,true,true,true,true,true] rfl rfl (by kernel_rfl) (fun _ _ _ h=>h) (Or.inl ⟨by rfl,?_⟩) ?_ ?_
 rotate_left
 ·(
 intro w'
 go_simp
 with_reducible rfl)
 rotate_left
 ·(
 simp only[zP,i64_w,i32_w]
 rfl)
 refine done_ (by kernel_rfl) ?_
 obtain⟨bX,bY,bZ,b0⟩:=cells2 b.out
 try go_wp2_with (first|((with_reducible refine gate_callee (f:=12) rfl ?_);refine sC (some 29) Try.func12 #[.agg #[.int .i64 a0_0,.slice A0_1 l0_1.length c0_1]] (laws_toHeap.calls k a0_0 _ _ l0_1 u p _ ?side1 ?side2 bD.out) ?_;(case side1=>exact sD (zC al.out HB.out));(case side2=>exact am.out);rintro e c6 ⟨c7,rfl,q,hb⟩;refine⟨_,rfl,?_⟩;have s:=zM (Kd.S_lower (Kd.S_new' (Kd.S_new' q (Kd.S_lt (sI m.out))) (Kd.R_lt (sE l.out))) (below_size zzR));replace m:=zM (Kd.S_elder' (sI m.out) (Kd.S_base q) hb);replace l:=zM (Kd.R_below (sE l.out) hb);replace b:=sK b hb;replace a:=sK a hb;replace HB:=sB HB hb;(try clear hb);(try clear q))|((with_reducible refine gate_dst (N:=7) rfl ?_);refine sV (N:=7) (cs:= #[.int .i64 0,.slice none 0 0]) (t:=34) ?_;intro x hg ak hbox hb;replace m:=zM (Kd.S_below (sI m.out) hb);replace l:=zM (Kd.R_below (sE l.out) hb);replace s:=zM (Kd.S_below (sI s.out) hb);have j:=zM (hbox);have c8:=sG HB hg;have bc:=sG HB hg;replace HB:=sB HB hb;have bd:=sN b hg;have b1:=sM b hg;replace b:=sK b hb;have be:=sN a hg;have b2:=sM a hg;replace a:=sK a hb;clear hb hbox hg;have c9:=b1.out;have da:=bd.out;have db:=b2.out;have dc:=be.out;obtain⟨b3,b4,b5,b6⟩:=cells2 j.out;obtain⟨D,E,b7⟩:=Kd.S_slice s.out;subst b7))
 have au:Aside0 (Kd.S k56 56 ((ak.setCell ⟨x,0,none⟩ (.int .i64 u)).setCell ⟨x,1,none⟩ (.slice D p.length E)) w.heap.size (fun o=>some o≠(bb:Value).ownBlock∧some o≠(.slice D p.length E:Value).ownBlock) (.slice a1 af.length a2) af):=⟨by(with_reducible repeat(first|apply Kd.S_alloc|apply Kd.S_drewN|apply Kd.S_drew));exact Kd.S_mono (sSF2 (g:=x) (Kd.S_types m.out j.out (by decide)) (fun _ hk=>hk.2)) (fun _ hk=>⟨hk.1.1.2,hk.1.2⟩)⟩
 have av:Aside0 (Kd.R k29 29 ((ak.setCell ⟨x,0,none⟩ (.int .i64 u)).setCell ⟨x,1,none⟩ (.slice D p.length E)) w.heap.size (fun _=>True) bb d):=⟨by(with_reducible repeat(first|apply Kd.R_alloc|apply Kd.R_drewN|apply Kd.R_drew));exact Kd.R_mono (sRF2 (g:=x) (Kd.R_types l.out j.out (by decide)) (fun _ hk=>hk.2)) (fun _ hk=>trivial)⟩
 have aw:Aside0 (Kd.S k56 56 ((ak.setCell ⟨x,0,none⟩ (.int .i64 u)).setCell ⟨x,1,none⟩ (.slice D p.length E)) w.heap.size (fun o=>some o≠(.slice a1 af.length a2:Value).ownBlock∧some o≠(bb:Value).ownBlock) (.slice D p.length E) p):=⟨by(with_reducible repeat(first|apply Kd.S_alloc|apply Kd.S_drewN|apply Kd.S_drew));exact Kd.S_mono (sSF2 (g:=x) (Kd.S_types s.out j.out (by decide)) (fun _ hk=>hk.2)) (fun _ hk=>⟨hk.1.1.2,hk.1.2⟩)⟩
 have ax:Aside0 (((ak.setCell ⟨x,0,none⟩ (.int .i64 u)).setCell ⟨x,1,none⟩ (.slice D p.length E)).heap[ac]?=some (.cells #[.int .i64 a0_0,.slice A0_1 l0_1.length c0_1] 24 (0,0))):=⟨by(with_reducible repeat(first|refine blk_drewN ?_ _|refine blk_drew ?_|refine blk_alloc ?_ _));refine blk_far ?_ bd.out _;(with_reducible repeat(first|refine blk_drewN ?_ _|refine blk_drew ?_|refine blk_alloc ?_ _));refine blk_far ?_ bd.out _;exact sT b.out⟩
 have ay:Aside0 (((ak.setCell ⟨x,0,none⟩ (.int .i64 u)).setCell ⟨x,1,none⟩ (.slice D p.length E)).heap[F]?=some (.cells #[.int .i64 a1_0,.int .i64 a1_1,.string a1_2,.int .i64 a1_3] 26 (0,0))):=⟨by(with_reducible repeat(first|refine blk_drewN ?_ _|refine blk_drew ?_|refine blk_alloc ?_ _));refine blk_far ?_ be.out _;(with_reducible repeat(first|refine blk_drewN ?_ _|refine blk_drew ?_|refine blk_alloc ?_ _));refine blk_far ?_ be.out _;exact sT a.out⟩
 have az:Aside0 (((ak.setCell ⟨x,0,none⟩ (.int .i64 u)).setCell ⟨x,1,none⟩ (.slice D p.length E)).heap[x]?=some (.cells #[.int .i64 u,.slice D p.length E] 34 (0,0))):=⟨sP2 (sT j.out)⟩
 have bf:Aside0 (Below w.heap.size w ((ak.setCell ⟨x,0,none⟩ (.int .i64 u)).setCell ⟨x,1,none⟩ (.slice D p.length E))):=⟨sb⟩
 (try clear m)
 (try clear l)
 (try clear s)
 (try clear b)
 (try clear a)
 (try clear j)
 (try clear HB)
 generalize ((ak.setCell ⟨x,0,none⟩ (.int .i64 u)).setCell ⟨x,1,none⟩ (.slice D p.length E))=w51 at au av aw ax ay az bf ⊢
 have m:=au
 have l:=av
 have s:=aw
 have b:=ax
 have a:=ay
 have j:=az
 have HB:=bf
 clear au av aw ax ay az bf
 replace m:=zM (Kd.S_drew m.out)
 replace l:=zM (Kd.R_drew l.out)
 replace s:=zM (Kd.S_drew s.out)
 replace b:=zM (blk_drew b.out)
 replace a:=zM (blk_drew a.out)
 replace j:=zM (blk_drew j.out)
 replace HB:=zM (below_drew1 HB.out)
 refine start_ (n:=5) (S:=fun w'=>w'.cell? ⟨x,0,none⟩=some (.int .i64 u)∧w'.cell? ⟨x,1,none⟩=some (.slice D p.length E)∧w'.cell? ⟨F,0,none⟩=some (.int .i64 a1_0)∧w'.cell? ⟨F,1,none⟩=some (.int .i64 a1_1)∧w'.cell? ⟨F,2,none⟩=some (.string a1_2)∧w'.cell? ⟨F,3,none⟩=some (.int .i64 a1_3)) (ds:=[]) #[false,false,false,false,false] (by kernel_rfl) rfl rfl ⟨(blk_cell j.out 0).trans rfl,(blk_cell j.out 1).trans rfl,(blk_cell a.out 0).trans rfl,(blk_cell a.out 1).trans rfl,(blk_cell a.out 2).trans rfl,(blk_cell a.out 3).trans rfl⟩ (fun hHeld=>?_)
 generalize w51.drew=w52 at m l s b a j HB hHeld ⊢
 refine take_ (i:=0) (N:=some 30) (v:=?_) (a':=?_) #[true,false,false,false,false] rfl rfl (by kernel_rfl) (fun _ _ _ h=>h) (Or.inl ⟨by rfl,?_⟩) hHeld ?_ ?_
 rotate_left
 ·(
 rintro w' ⟨s0,s1,s2,s3,s4,s5⟩
 go_simp
 with_reducible rfl)
 rotate_left
 ·(
 simp only[zP,i64_w,i32_w]
 rfl)
 refine take_ (i:=1) (N:=some 31) (v:=?_) (a':=?_) #[true,true,false,false,false] rfl rfl (by kernel_rfl) (fun _ _ _ h=>h) (Or.inl ⟨by rfl,?_⟩) hHeld ?_ ?_
 rotate_left
 ·(
 rintro w' ⟨s0,s1,s2,s3,s4,s5⟩
 go_simp
 with_reducible rfl)
 rotate_left
 ·(
 simp only[zP,i64_w,i32_w]
 rfl)
 refine one_ (i:=2) (N:=some 32) #[true,true,true,false,false] rfl rfl (by kernel_rfl) (by decide) (fun K hK=>?_)
 refine goes_ Try.func13 (by kernel_rfl) rfl #[.agg #[.int .i64 a1_0,.int .i64 a1_1,.string a1_2,.int .i64 a1_3]] (by rfl) rfl rfl (by(try simp only[List.map_toArray,List.map_cons,List.map_nil]);first|done|rfl|(simp only[List.length_drop,List.length_take];rfl)) ?_
 with_reducible refine(laws_toValue.calls a1_0 a1_1 a1_2 a1_3 aW aX aY aZ _ bE.out).mono ?_
 rintro e dd ⟨rfl,hb⟩
 refine⟨_,rfl,?_⟩
 replace m:=zM (Kd.S_below (sI m.out) hb)
 replace l:=zM (Kd.R_below (sE l.out) hb)
 replace s:=zM (Kd.S_below (sI s.out) hb)
 replace b:=sK b hb
 replace a:=sK a hb
 replace j:=sK j hb
 replace HB:=sB HB hb
 (try clear hb)
 (try clear hb2)
 (try clear hk)
 (try clear hi)
 refine hK.out _ _ ⟨(blk_cell j.out 0).trans rfl,(blk_cell j.out 1).trans rfl,(blk_cell a.out 0).trans rfl,(blk_cell a.out 1).trans rfl,(blk_cell a.out 2).trans rfl,(blk_cell a.out 3).trans rfl⟩ (fun hHeld=>?_)
 clear hK K
 refine norm_ (a':=?_) ?_ ?_
 rotate_left
 ·(
 show Act.put _ (some 32) _=_
 simp only[zP,i64_w,i32_w]
 rfl)
 refine one_ (i:=3) (N:=some 33) #[true,true,true,true,false] rfl rfl (by kernel_rfl) (by decide) (fun K hK=>?_)
 refine goes_ Try.func20 (by kernel_rfl) rfl #[.agg #[.int .i64 u,.slice D p.length E],.agg #[.int .i64 aW,.int .i64 aX,.string aY,.int .i64 aZ]] (by rfl) rfl rfl (by(try simp only[List.map_toArray,List.map_cons,List.map_nil]);first|done|rfl|(simp only[List.length_drop,List.length_take];rfl)) ?_
 with_reducible refine(impl_PairsOf.calls k u _ _ p aW aX aY aZ c _ ?side1 ?side2 bF.out).mono ?_
 (case side1=>exact sD ((Kd.S_reads' s.out).2.2))
 (case side2=>exact(Kd.S_reads' s.out).2.1)
 rintro e de ⟨df,rfl,q,hb⟩
 refine⟨_,rfl,?_⟩
 replace m:=zM (Kd.S_elder' (sI m.out) (Kd.R_base q) hb)
 replace s:=zM (Kd.S_elder' (sI s.out) (Kd.R_base q) hb)
 have y:=zM (Kd.R_lower (Kd.R_new' q (Kd.R_lt (sE l.out))) (below_size zzR))
 replace l:=zM (Kd.R_elder' (sE l.out) (Kd.R_base q) hb)
 replace b:=sK b hb
 replace a:=sK a hb
 replace j:=sK j hb
 replace HB:=sB HB hb
 (try clear hb)
 (try clear hb2)
 (try clear hk)
 (try clear hi)
 (try clear q)
 refine hK.out _ _ ⟨(blk_cell j.out 0).trans rfl,(blk_cell j.out 1).trans rfl,(blk_cell a.out 0).trans rfl,(blk_cell a.out 1).trans rfl,(blk_cell a.out 2).trans rfl,(blk_cell a.out 3).trans rfl⟩ (fun hHeld=>?_)
 clear hK K
 refine norm_ (a':=?_) ?_ ?_
 rotate_left
 ·(
 show Act.put _ (some 33) _=_
 simp only[zP,i64_w,i32_w]
 rfl)
 refine pure_ (i:=4) (N:=some 8) (v:=?_) (a':=?_) #[true,true,true,true,true] rfl rfl (by kernel_rfl) (fun _ _ _ h=>h) (Or.inl ⟨by rfl,?_⟩) ?_ ?_
 rotate_left
 ·(
 intro w'
 go_simp
 with_reducible rfl)
 rotate_left
 ·(
 simp only[zP,i64_w,i32_w]
 rfl)
 refine done_ (by kernel_rfl) ?_
 obtain⟨Z,aa,b8⟩:=Kd.R_slice y.out
 subst b8
 obtain⟨aA,aB,b9⟩:=Kd.R_slice l.out
 subst b9
 try go_wp2_with (first|((with_reducible refine gate_callee (f:=21) rfl ?_);refine sC (some 36) Try.func21 #[.slice Z c.length aa,.slice aA d.length aB] (laws_eqValueS.calls k _ _ c _ _ d true _ ?side1 ?side2 ?side3 ?side4 bG.out) ?_;(case side1=>exact sD ((Kd.R_reads' y.out).2.2));(case side2=>exact(Kd.R_reads' y.out).2.1);(case side3=>exact sD ((Kd.R_reads' l.out).2.2));(case side4=>exact(Kd.R_reads' l.out).2.1);rintro e ca ⟨rfl,hb⟩;refine⟨_,rfl,?_⟩;replace m:=zM (Kd.S_below (sI m.out) hb);replace l:=zM (Kd.R_below (sE l.out) hb);replace s:=zM (Kd.S_below (sI s.out) hb);replace y:=zM (Kd.R_below (sE y.out) hb);replace b:=sK b hb;replace a:=sK a hb;replace j:=sK j hb;replace HB:=sB HB hb;(try clear hb)))
 replace m:=zM (Kd.S_drew m.out)
 replace l:=zM (Kd.R_drew l.out)
 replace s:=zM (Kd.S_drew s.out)
 replace y:=zM (Kd.R_drew y.out)
 replace b:=zM (blk_drew b.out)
 replace a:=zM (blk_drew a.out)
 replace j:=zM (blk_drew j.out)
 replace HB:=zM (below_drew1 HB.out)
 refine start_ (n:=5) (S:=fun w'=>w'.cell? ⟨x,0,none⟩=some (.int .i64 u)∧w'.cell? ⟨x,1,none⟩=some (.slice D p.length E)∧w'.cell? ⟨ac,0,none⟩=some (.int .i64 a0_0)∧w'.cell? ⟨ac,1,none⟩=some (.slice A0_1 l0_1.length c0_1)) (ds:=[]) #[false,false,false,false,false] (by kernel_rfl) rfl rfl ⟨(blk_cell j.out 0).trans rfl,(blk_cell j.out 1).trans rfl,(blk_cell b.out 0).trans rfl,(blk_cell b.out 1).trans rfl⟩ (fun hHeld=>?_)
 generalize ca.drew=w58 at m l s y b a j HB hHeld ⊢
 refine take_ (i:=0) (N:=some 38) (v:=?_) (a':=?_) #[true,false,false,false,false] rfl rfl (by kernel_rfl) (fun _ _ _ h=>h) (Or.inl ⟨by rfl,?_⟩) hHeld ?_ ?_
 rotate_left
 ·(
 rintro w' ⟨s0,s1,s2,s3⟩
 go_simp
 with_reducible rfl)
 rotate_left
 ·(
 simp only[zP,i64_w,i32_w]
 rfl)
 refine take_ (i:=1) (N:=some 39) (v:=?_) (a':=?_) #[true,true,false,false,false] rfl rfl (by kernel_rfl) (fun _ _ _ h=>h) (Or.inl ⟨by rfl,?_⟩) hHeld ?_ ?_
 rotate_left
 ·(
 rintro w' ⟨s0,s1,s2,s3⟩
 go_simp
 with_reducible rfl)
 rotate_left
 ·(
 simp only[zP,i64_w,i32_w]
 rfl)
 refine one_ (i:=2) (N:=some 40) #[true,true,true,false,false] rfl rfl (by kernel_rfl) (by decide) (fun K hK=>?_)
 refine goes_ Try.func12 (by kernel_rfl) rfl #[.agg #[.int .i64 a0_0,.slice A0_1 l0_1.length c0_1]] (by rfl) rfl rfl (by(try simp only[List.map_toArray,List.map_cons,List.map_nil]);first|done|rfl|(simp only[List.length_drop,List.length_take];rfl)) ?_
 with_reducible refine(laws_toHeap.calls k a0_0 _ _ l0_1 a0 aL _ ?side1 ?side2 bH.out).mono ?_
 (case side1=>exact sD (zC al.out HB.out))
 (case side2=>exact am.out)
 rintro e dg ⟨dh,rfl,q,hb⟩
 refine⟨_,rfl,?_⟩
 have aC:=zM (Kd.S_lower (Kd.S_new' (Kd.S_new' (Kd.S_new' (Kd.S_new' q (Kd.S_lt (sI m.out))) (Kd.R_lt (sE l.out))) (Kd.S_lt (sI s.out))) (Kd.R_lt (sE y.out))) (below_size zzR))
 replace m:=zM (Kd.S_elder' (sI m.out) (Kd.S_base q) hb)
 replace l:=zM (Kd.R_below (sE l.out) hb)
 replace s:=zM (Kd.S_elder' (sI s.out) (Kd.S_base q) hb)
 replace y:=zM (Kd.R_below (sE y.out) hb)
 replace b:=sK b hb
 replace a:=sK a hb
 replace j:=sK j hb
 replace HB:=sB HB hb
 (try clear hb)
 (try clear hb2)
 (try clear hk)
 (try clear hi)
 (try clear q)
 obtain⟨bq,br,bs⟩:=Kd.S_slice aC.out
 (first|subst bs|(injection bs with ai aN aj;have aO:=ai.symm;have aP:=aj.symm;clear ai aN aj;subst aO;subst aP))
 refine hK.out _ _ ⟨(blk_cell j.out 0).trans rfl,(blk_cell j.out 1).trans rfl,(blk_cell b.out 0).trans rfl,(blk_cell b.out 1).trans rfl⟩ (fun hHeld=>?_)
 clear hK K
 refine norm_ (a':=?_) ?_ ?_
 rotate_left
 ·(
 show Act.put _ (some 40) _=_
 simp only[zP,i64_w,i32_w]
 rfl)
 refine one_ (i:=3) (N:=some 41) #[true,true,true,true,false] rfl rfl (by kernel_rfl) (by decide) (fun K hK=>?_)
 refine goes_ Try.func16 (by kernel_rfl) rfl #[.agg #[.int .i64 u,.slice D p.length E],.agg #[.int .i64 a0,.slice bq aL.length br]] (by rfl) rfl rfl (by(try simp only[List.map_toArray,List.map_cons,List.map_nil]);first|done|rfl|(simp only[List.length_drop,List.length_take];rfl)) ?_
 with_reducible refine(laws_eqHeap.calls k u _ _ p a0 _ _ aL true _ ?side1 ?side2 ?side3 ?side4 bI.out).mono ?_
 (case side1=>exact sD ((Kd.S_reads' s.out).2.2))
 (case side2=>exact(Kd.S_reads' s.out).2.1)
 (case side3=>exact sD ((Kd.S_reads' aC.out).2.2))
 (case side4=>exact(Kd.S_reads' aC.out).2.1)
 rintro e di ⟨rfl,hb⟩
 refine⟨_,rfl,?_⟩
 replace m:=zM (Kd.S_below (sI m.out) hb)
 replace l:=zM (Kd.R_below (sE l.out) hb)
 replace s:=zM (Kd.S_below (sI s.out) hb)
 replace y:=zM (Kd.R_below (sE y.out) hb)
 replace aC:=zM (Kd.S_below (sI aC.out) hb)
 replace b:=sK b hb
 replace a:=sK a hb
 replace j:=sK j hb
 replace HB:=sB HB hb
 (try clear hb)
 (try clear hb2)
 (try clear hk)
 (try clear hi)
 refine hK.out _ _ ⟨(blk_cell j.out 0).trans rfl,(blk_cell j.out 1).trans rfl,(blk_cell b.out 0).trans rfl,(blk_cell b.out 1).trans rfl⟩ (fun hHeld=>?_)
 clear hK K
 refine norm_ (a':=?_) ?_ ?_
 rotate_left
 ·(
 show Act.put _ (some 41) _=_
 simp only[zP,i64_w,i32_w]
 rfl)
 refine pure_ (i:=4) (N:=some 42) (v:=?_) (a':=?_) #[true,true,true,true,true] rfl rfl (by kernel_rfl) (fun _ _ _ h=>h) (Or.inl ⟨by rfl,?_⟩) ?_ ?_
 rotate_left
 ·(
 intro w'
 go_simp
 with_reducible rfl)
 rotate_left
 ·(
 simp only[zP,i64_w,i32_w]
 rfl)
 refine done_ (by kernel_rfl) ?_
 obtain⟨cb,cc,cd,ce⟩:=cells2 j.out
 go_upto_region 17 with(first|((with_reducible refine gate_callee (f:=22) rfl ?_);refine sC (some 45) Try.func22 #[.agg #[.int .i64 u,.slice D p.length E],.int .i64 1] (laws_markHeap.calls u (fun o=>(((some o≠(.slice a1 af.length a2:Value).ownBlock∧some o≠(.slice aA d.length aB:Value).ownBlock)∧some o≠(.slice Z c.length aa:Value).ownBlock)∧some o≠(.slice bq aL.length br:Value).ownBlock)) (.slice D p.length E) p 1 P w _ ?side1 ?side2 bJ.out) ?_;(case side1=>repeat(first|(with_reducible first|exact HB.out|apply below_alloc|apply pw_below_drewN|apply below_drew1|refine below_set ?_ X.out|refine below_set ?_ Y.out|refine below_set ?_ bc.out)|exact HB.out));(case side2=>exact Kd.R_mono (Kd.S_R (s.out)) (fun o I=>by first|exact I|(simp only[true_and,and_assoc]at I ⊢;exact I)));rintro e dj ⟨rfl,hb,hkp⟩;refine⟨_,rfl,?_⟩;have au:=zM (blk_kept (sT b.out) hkp (fun J=>(fun L=>mk_treeB (sT b.out) L.2.2.2 (by decide)) J));have av:=zM (blk_kept (sT a.out) hkp (fun J=>(fun L=>mk_treeB (sT a.out) L.2.2.2 (by decide)) J));have aw:=zM (Kd.R_mono (ok':=fun o=>some o≠(.slice Z c.length aa:Value).ownBlock) (Kd.R_keptB ((Kd.R_tight2 rfl l.out)) hkp (fun o I J=>(fun L=>(L.1.1.1.2) I.1) J)) (fun o I=>(by have h_:=I;(try simp only[true_and]at h_);exact h_.1.2)));have ax:=zM (blk_kept (sT j.out) hkp (fun J=>(fun L=>mk_treeB (sT j.out) L.2.2.2 (by decide)) J));have ay:=zM (Kd.R_mono (ok':=fun o=>some o≠(.slice aA d.length aB:Value).ownBlock) (Kd.R_keptB ((Kd.R_tight2 rfl y.out)) hkp (fun o I J=>(fun L=>(L.1.1.2) I.1) J)) (fun o I=>(by have h_:=I;(try simp only[true_and]at h_);exact h_.1.2)));have az:=zM (hb);clear b;clear a;clear l;clear j;clear y;clear HB;clear m;clear s;clear aC;have b:=au;have a:=av;have l:=aw;have j:=ax;have y:=ay;have HB:=az;clear au av aw ax ay az;(try clear hb);(try clear hkp)))
 (try simp only[zP])
 go_cut [53] (fun cf wc=>∃(kq:Nat) (a3:Bool),cf= .bool a3∧Aside0 (laws_FnExactPairsOf.j0 kq d c a3 a0_0 l0_1 a1_0 a1_1 a1_2 a1_3=some true)∧Aside0 (kq≤k)∧Aside0 (Kd.R k29 29 wc w.heap.size (fun o=>some o≠((.slice Z c.length aa):Value).ownBlock) (.slice aA d.length aB) d)∧Aside0 (Kd.R k29 29 wc w.heap.size (fun o=>some o≠((.slice aA d.length aB):Value).ownBlock) (.slice Z c.length aa) c)∧Aside0 (wc.heap[ac]?=some (.cells #[.int .i64 a0_0,(.slice A0_1 l0_1.length c0_1)] 24 (0,0)))∧Aside0 (wc.heap[F]?=some (.cells #[.int .i64 a1_0,.int .i64 a1_1,.string a1_2,.int .i64 a1_3] 26 (0,0)))∧Aside0 (Below w.heap.size w wc))
 case first=>(
 have H:=ba.out
 clear ba
 by_cases aD:P<0
 ·(
 rw[if_pos aD]at H
 have c64b0:=zT aD
 clear aD
 (first|rw[c64b0]|(simp only[i64_w,i32_w];rw[c64b0])|rw[c64b2]|skip)
 have H':=zM H
 clear H
 go_wp2
 go_meet
 case rel=>exact⟨_,(true),sr,H',⟨by first|omega|exact Nat.le_refl _⟩,⟨by exact sE l.out⟩,⟨by exact sE y.out⟩,⟨by exact sT b.out⟩,⟨by exact sT a.out⟩,⟨sb⟩⟩)
 rw[if_neg aD]at H
 have c64b0:=zF aD
 clear aD
 (first|rw[c64b0]|(simp only[i64_w,i32_w];rw[c64b0])|rw[c64b2]|skip)
 obtain⟨Q,cg,H⟩:=sO H
 have H':=zM H
 clear H
 go_wp2_with (first|(go_at_call 21;(with_reducible refine(laws_eqValueS.calls k _ _ c _ _ d Q _ ?side1 ?side2 ?side3 ?side4 cg.out).mono ?_);(case side1=>exact sD ((Kd.R_reads' y.out).2.2));(case side2=>exact(Kd.R_reads' y.out).2.1);(case side3=>exact sD ((Kd.R_reads' l.out).2.2));(case side4=>exact(Kd.R_reads' l.out).2.1);rintro e dk ⟨rfl,hb⟩;replace l:=zM (Kd.R_below (sE l.out) hb);replace y:=zM (Kd.R_below (sE y.out) hb);replace b:=sK b hb;replace a:=sK a hb;replace j:=sK j hb;replace HB:=sB HB hb;(try clear hb)))
 go_meet
 case rel=>exact⟨_,(!Q),sr,H',⟨by first|omega|exact Nat.le_refl _⟩,⟨by exact sE l.out⟩,⟨by exact sE y.out⟩,⟨by exact sT b.out⟩,⟨by exact sT a.out⟩,⟨sb⟩⟩)
 case rest=>(
 clear ba
 try clear c4
 try clear c4b0
 try clear an
 try clear c11b0
 try clear aK
 try clear aM
 try clear bK
 try clear bL
 try clear bO
 try clear bP
 try clear bQ
 try clear bR
 try clear bX
 try clear bY
 try clear b3
 try clear b4
 try clear cb
 try clear cc
 try clear bM
 try clear bN
 try clear bS
 try clear bT
 try clear bU
 try clear bV
 try clear bZ
 try clear b0
 try clear b5
 try clear b6
 try clear cd
 try clear ce
 obtain⟨kq,a3,rfl,HA,dl,z,r,b,a,HB⟩:=hcut
 cases kq with
 |zero=>exact absurd HA.out (by simp[laws_FnExactPairsOf.j0])
 |succ kj30=>(
 have H:=HA.out
 clear HA
 simp only[laws_FnExactPairsOf.j0]at H
 by_cases a4:a3=true
 ·(
 subst a4
 rewrite[if_pos rfl]at H
 exact absurd H (by simp))
 replace a4:=zB a4
 subst a4
 rewrite[if_neg zQ]at H
 replace H:=Option.bind_eq_some_iff.mp H
 obtain⟨⟨M,U⟩,bt,H⟩:=H
 replace H:((laws_heldValueS.f kj30 U 1).bind fun ad=>(if ad<0 then(some false)else(if ad=M then((laws_toHeap.f kj30 a0_0 l0_1).bind fun bu=>((laws_toValue.f a1_0 a1_1 a1_2 a1_3).bind fun ag=>((impl_PairsOf.f kj30 bu.1 bu.2 ag.1 ag.2.1 ag.2.2.1 ag.2.2.2).bind fun ah=>((laws_eqValueS.f kj30 ah d).bind fun ao=>(if ao=true then((laws_heldValueS.f kj30 U 1).bind fun G=>(if G<0 then(some false)else(if G=M then(some true)else(some false))))else(some false))))))else(some false))))=some true:=H
 have ch:=zM bt
 clear bt
 obtain⟨ad,ci,H⟩:=sO H
 by_cases aE:ad<0
 ·(
 rw[if_pos aE]at H
 have c70b0:=zT aE
 clear aE
 exact absurd H (by simp))
 rw[if_neg aE]at H
 have c70b0:=zF aE
 clear aE
 by_cases ap:ad=M
 ·(
 rw[if_pos ap]at H
 have c71b0:(ad==M)=true:=zE ap
 have c71b1:(ad !=M)=false:=zY ap
 clear ap
 replace H:=Option.bind_eq_some_iff.mp H
 obtain⟨⟨aQ,aR⟩,bv,H⟩:=H
 replace H:((laws_toValue.f a1_0 a1_1 a1_2 a1_3).bind fun ag=>((impl_PairsOf.f kj30 aQ aR ag.1 ag.2.1 ag.2.2.1 ag.2.2.2).bind fun ah=>((laws_eqValueS.f kj30 ah d).bind fun ao=>(if ao=true then((laws_heldValueS.f kj30 U 1).bind fun G=>(if G<0 then(some false)else(if G=M then(some true)else(some false))))else(some false)))))=some true:=H
 have cj:=zM bv
 clear bv
 replace H:=Option.bind_eq_some_iff.mp H
 obtain⟨⟨a5,a6,a7,a8⟩,bw,H⟩:=H
 replace H:((impl_PairsOf.f kj30 aQ aR a5 a6 a7 a8).bind fun ah=>((laws_eqValueS.f kj30 ah d).bind fun ao=>(if ao=true then((laws_heldValueS.f kj30 U 1).bind fun G=>(if G<0 then(some false)else(if G=M then(some true)else(some false))))else(some false))))=some true:=H
 have ck:=zM bw
 clear bw
 obtain⟨ah,cl,H⟩:=sO H
 obtain⟨ao,cm,H⟩:=sO H
 by_cases a9:ao=true
 ·(
 subst a9
 rewrite[if_pos rfl]at H
 obtain⟨G,cn,H⟩:=sO H
 by_cases aF:G<0
 ·(
 rw[if_pos aF]at H
 have c78b0:=zT aF
 clear aF
 exact absurd H (by simp))
 rw[if_neg aF]at H
 have c78b0:=zF aF
 clear aF
 by_cases aq:G=M
 ·(
 rw[if_pos aq]at H
 have c79b0:(G==M)=true:=zE aq
 have c79b1:(G !=M)=false:=zY aq
 clear aq
 clear H
 try go_wp2_with (first|((with_reducible refine gate_callee (f:=23) rfl ?_);refine sC (some 56) Try.func23 #[.slice Z c.length aa,.int .i64 1] (laws_markValueS.calls kj30 (fun o=>some o=(.slice Z c.length aa:Value).ownBlock) (.slice Z c.length aa) c 1 M U w _ ?side1 ?side2 ch.out) ?_;(case side1=>repeat(first|(with_reducible first|exact HB.out|apply below_alloc|apply pw_below_drewN|apply below_drew1|refine below_set ?_ X.out|refine below_set ?_ Y.out)|exact HB.out));(case side2=>exact Kd.R_tight rfl r.out);rintro e dm ⟨rfl,bx,hb,hkp⟩;refine⟨_,rfl,?_⟩;replace z:=zM (Kd.R_mono (ok':=fun o=>some o≠(.slice Z c.length aa:Value).ownBlock) (Kd.R_keptB (z.out) hkp (fun o I J=>(I) J)) (fun o I=>I.1));replace b:=zM (blk_kept (sT b.out) hkp (fun J=>(fun L=>(Kd.R_ne r.out b.out (by decide)) L) J));replace a:=zM (blk_kept (sT a.out) hkp (fun J=>(fun L=>(Kd.R_ne r.out a.out (by decide)) L) J));replace r:=zM (Kd.R_reok rfl bx (fun o L=>r.out.1 o L));replace HB:=zM (hb);(try clear hb);(try clear hkp);(try clear bx))|((with_reducible refine gate_callee (f:=24) rfl ?_);refine goesL_ (some 59) rfl rfl Try.func24 (by kernel_rfl) rfl #[.slice Z U.length aa,.int .i64 1] rfl (by(try simp only[List.map_toArray,List.map_cons,List.map_nil]);first|done|(rw[show U.length=c.length from(Kd.R_reads' r.out).1.symm]<;>rfl)|rfl|(simp only[List.length_drop,List.length_take];rfl)) ?_;(with_reducible refine(laws_heldValueS.calls kj30 _ _ U 1 ad _ ?side1 ?side2 ci.out).mono ?_);(case side1=>exact sD ((Kd.R_reads' r.out).2.2));(case side2=>rw[show U.length=c.length from(Kd.R_reads' r.out).1.symm];exact(Kd.R_reads' r.out).2.1);rintro e co ⟨rfl,hb⟩;refine⟨_,rfl,?_⟩;replace z:=zM (Kd.R_below (sE z.out) hb);replace r:=zM (Kd.R_below (sE r.out) hb);replace b:=sK b hb;replace a:=sK a hb;replace HB:=sB HB hb;(try clear hb)))
 replace z:=zM (Kd.R_drew z.out)
 replace r:=zM (Kd.R_drew r.out)
 replace b:=zM (blk_drew b.out)
 replace a:=zM (blk_drew a.out)
 replace HB:=zM (below_drew1 HB.out)
 refine start_ (n:=6) (S:=fun w'=>w'.cell? ⟨ac,0,none⟩=some (.int .i64 a0_0)∧w'.cell? ⟨ac,1,none⟩=some (.slice A0_1 l0_1.length c0_1)∧w'.cell? ⟨F,0,none⟩=some (.int .i64 a1_0)∧w'.cell? ⟨F,1,none⟩=some (.int .i64 a1_1)∧w'.cell? ⟨F,2,none⟩=some (.string a1_2)∧w'.cell? ⟨F,3,none⟩=some (.int .i64 a1_3)) (ds:=[]) #[false,false,false,false,false,false] (by kernel_rfl) rfl rfl ⟨(blk_cell b.out 0).trans rfl,(blk_cell b.out 1).trans rfl,(blk_cell a.out 0).trans rfl,(blk_cell a.out 1).trans rfl,(blk_cell a.out 2).trans rfl,(blk_cell a.out 3).trans rfl⟩ (fun hHeld=>?_)
 generalize co.drew=w82 at z r b a HB hHeld ⊢
 refine take_ (i:=0) (N:=some 65) (v:=?_) (a':=?_) #[true,false,false,false,false,false] rfl rfl (by kernel_rfl) (fun _ _ _ h=>h) (Or.inl ⟨by rfl,?_⟩) hHeld ?_ ?_
 rotate_left
 ·(
 rintro w' ⟨s0,s1,s2,s3,s4,s5⟩
 go_simp
 with_reducible rfl)
 rotate_left
 ·(
 simp only[zP,i64_w,i32_w]
 rfl)
 refine take_ (i:=2) (N:=some 67) (v:=?_) (a':=?_) #[true,false,true,false,false,false] rfl rfl (by kernel_rfl) (fun _ _ _ h=>h) (Or.inl ⟨by rfl,?_⟩) hHeld ?_ ?_
 rotate_left
 ·(
 rintro w' ⟨s0,s1,s2,s3,s4,s5⟩
 go_simp
 with_reducible rfl)
 rotate_left
 ·(
 simp only[zP,i64_w,i32_w]
 rfl)
 refine one_ (i:=1) (N:=some 66) #[true,true,true,false,false,false] rfl rfl (by kernel_rfl) (by decide) (fun K hK=>?_)
 refine goes_ Try.func12 (by kernel_rfl) rfl #[.agg #[.int .i64 a0_0,.slice A0_1 l0_1.length c0_1]] (by rfl) rfl rfl (by(try simp only[List.map_toArray,List.map_cons,List.map_nil]);first|done|rfl|(simp only[List.length_drop,List.length_take];rfl)) ?_
 with_reducible refine(laws_toHeap.calls kj30 a0_0 _ _ l0_1 aQ aR _ ?side1 ?side2 cj.out).mono ?_
 (case side1=>exact sD (zC al.out HB.out))
 (case side2=>exact am.out)
 rintro e dn ⟨dp,rfl,q,hb⟩
 refine⟨_,rfl,?_⟩
 have ab:=zM (Kd.S_lower (Kd.S_new' (Kd.S_new' q (Kd.R_lt (sE z.out))) (Kd.R_lt (sE r.out))) (below_size zzR))
 replace z:=zM (Kd.R_below (sE z.out) hb)
 replace r:=zM (Kd.R_below (sE r.out) hb)
 replace b:=sK b hb
 replace a:=sK a hb
 replace HB:=sB HB hb
 (try clear hb)
 (try clear hb2)
 (try clear hk)
 (try clear hi)
 (try clear q)
 refine hK.out _ _ ⟨(blk_cell b.out 0).trans rfl,(blk_cell b.out 1).trans rfl,(blk_cell a.out 0).trans rfl,(blk_cell a.out 1).trans rfl,(blk_cell a.out 2).trans rfl,(blk_cell a.out 3).trans rfl⟩ (fun hHeld=>?_)
 clear hK K
 refine norm_ (a':=?_) ?_ ?_
 rotate_left
 ·(
 show Act.put _ (some 66) _=_
 simp only[zP,i64_w,i32_w]
 rfl)
 refine one_ (i:=3) (N:=some 68) #[true,true,true,true,false,false] rfl rfl (by kernel_rfl) (by decide) (fun K hK=>?_)
 refine goes_ Try.func13 (by kernel_rfl) rfl #[.agg #[.int .i64 a1_0,.int .i64 a1_1,.string a1_2,.int .i64 a1_3]] (by rfl) rfl rfl (by(try simp only[List.map_toArray,List.map_cons,List.map_nil]);first|done|rfl|(simp only[List.length_drop,List.length_take];rfl)) ?_
 with_reducible refine(laws_toValue.calls a1_0 a1_1 a1_2 a1_3 a5 a6 a7 a8 _ ck.out).mono ?_
 rintro e dq ⟨rfl,hb⟩
 refine⟨_,rfl,?_⟩
 replace z:=zM (Kd.R_below (sE z.out) hb)
 replace r:=zM (Kd.R_below (sE r.out) hb)
 replace ab:=zM (Kd.S_below (sI ab.out) hb)
 replace b:=sK b hb
 replace a:=sK a hb
 replace HB:=sB HB hb
 (try clear hb)
 (try clear hb2)
 (try clear hk)
 (try clear hi)
 obtain⟨cp,cq,bz⟩:=Kd.S_slice ab.out
 (first|subst bz|(injection bz with ai aN aj;have aO:=ai.symm;have aP:=aj.symm;clear ai aN aj;subst aO;subst aP))
 refine hK.out _ _ ⟨(blk_cell b.out 0).trans rfl,(blk_cell b.out 1).trans rfl,(blk_cell a.out 0).trans rfl,(blk_cell a.out 1).trans rfl,(blk_cell a.out 2).trans rfl,(blk_cell a.out 3).trans rfl⟩ (fun hHeld=>?_)
 clear hK K
 refine norm_ (a':=?_) ?_ ?_
 rotate_left
 ·(
 show Act.put _ (some 68) _=_
 simp only[zP,i64_w,i32_w]
 rfl)
 refine one_ (i:=4) (N:=some 69) #[true,true,true,true,true,false] rfl rfl (by kernel_rfl) (by decide) (fun K hK=>?_)
 refine goes_ Try.func20 (by kernel_rfl) rfl #[.agg #[.int .i64 aQ,.slice cp aR.length cq],.agg #[.int .i64 a5,.int .i64 a6,.string a7,.int .i64 a8]] (by rfl) rfl rfl (by(try simp only[List.map_toArray,List.map_cons,List.map_nil]);first|done|rfl|(simp only[List.length_drop,List.length_take];rfl)) ?_
 with_reducible refine(impl_PairsOf.calls kj30 aQ _ _ aR a5 a6 a7 a8 ah _ ?side1 ?side2 cl.out).mono ?_
 (case side1=>exact sD ((Kd.S_reads' ab.out).2.2))
 (case side2=>exact(Kd.S_reads' ab.out).2.1)
 rintro e dr ⟨dt,rfl,q,hb⟩
 refine⟨_,rfl,?_⟩
 replace ab:=zM (Kd.S_elder' (sI ab.out) (Kd.R_base q) hb)
 have ar:=zM (Kd.R_lower (Kd.R_new' (Kd.R_new' q (Kd.R_lt (sE z.out))) (Kd.R_lt (sE r.out))) (below_size zzR))
 replace z:=zM (Kd.R_elder' (sE z.out) (Kd.R_base q) hb)
 replace r:=zM (Kd.R_elder' (sE r.out) (Kd.R_base q) hb)
 replace b:=sK b hb
 replace a:=sK a hb
 replace HB:=sB HB hb
 (try clear hb)
 (try clear hb2)
 (try clear hk)
 (try clear hi)
 (try clear q)
 refine hK.out _ _ ⟨(blk_cell b.out 0).trans rfl,(blk_cell b.out 1).trans rfl,(blk_cell a.out 0).trans rfl,(blk_cell a.out 1).trans rfl,(blk_cell a.out 2).trans rfl,(blk_cell a.out 3).trans rfl⟩ (fun hHeld=>?_)
 clear hK K
 refine norm_ (a':=?_) ?_ ?_
 rotate_left
 ·(
 show Act.put _ (some 69) _=_
 simp only[zP,i64_w,i32_w]
 rfl)
 refine pure_ (i:=5) (N:=some 12) (v:=?_) (a':=?_) #[true,true,true,true,true,true] rfl rfl (by kernel_rfl) (fun _ _ _ h=>h) (Or.inl ⟨by rfl,?_⟩) ?_ ?_
 rotate_left
 ·(
 intro w'
 go_simp
 with_reducible rfl)
 rotate_left
 ·(
 simp only[zP,i64_w,i32_w]
 rfl)
 refine done_ (by kernel_rfl) ?_
 obtain⟨cr,ct,cu⟩:=Kd.R_slice ar.out
 subst cu
 try go_wp2_with (first|((with_reducible refine gate_callee (f:=21) rfl ?_);refine sC (some 72) Try.func21 #[.slice cr ah.length ct,.slice aA d.length aB] (laws_eqValueS.calls kj30 _ _ ah _ _ d true _ ?side1 ?side2 ?side3 ?side4 cm.out) ?_;(case side1=>exact sD ((Kd.R_reads' ar.out).2.2));(case side2=>exact(Kd.R_reads' ar.out).2.1);(case side3=>exact sD ((Kd.R_reads' z.out).2.2));(case side4=>exact(Kd.R_reads' z.out).2.1);rintro e du ⟨rfl,hb⟩;refine⟨_,rfl,?_⟩;replace z:=zM (Kd.R_below (sE z.out) hb);replace r:=zM (Kd.R_below (sE r.out) hb);replace ab:=zM (Kd.S_below (sI ab.out) hb);replace ar:=zM (Kd.R_below (sE ar.out) hb);replace b:=sK b hb;replace a:=sK a hb;replace HB:=sB HB hb;(try clear hb))|((with_reducible refine gate_callee (f:=24) rfl ?_);refine goesL_ (some 76) rfl rfl Try.func24 (by kernel_rfl) rfl #[.slice Z U.length aa,.int .i64 1] rfl (by(try simp only[List.map_toArray,List.map_cons,List.map_nil]);first|done|(rw[show U.length=c.length from(Kd.R_reads' r.out).1.symm]<;>rfl)|rfl|(simp only[List.length_drop,List.length_take];rfl)) ?_;(with_reducible refine(laws_heldValueS.calls kj30 _ _ U 1 G _ ?side1 ?side2 cn.out).mono ?_);(case side1=>exact sD ((Kd.R_reads' r.out).2.2));(case side2=>rw[show U.length=c.length from(Kd.R_reads' r.out).1.symm];exact(Kd.R_reads' r.out).2.1);rintro e dv ⟨rfl,hb⟩;refine⟨_,rfl,?_⟩;replace z:=zM (Kd.R_below (sE z.out) hb);replace r:=zM (Kd.R_below (sE r.out) hb);replace ab:=zM (Kd.S_below (sI ab.out) hb);replace ar:=zM (Kd.R_below (sE ar.out) hb);replace b:=sK b hb;replace a:=sK a hb;replace HB:=sB HB hb;(try clear hb)))
 go_ret
 exact⟨sq,sb⟩)
 rw[if_neg aq]at H
 have c79b0:(G==M)=false:=zN aq
 have c79b1:(G !=M)=true:=zX aq
 exact absurd H (by simp))
 replace a9:=zB a9
 subst a9
 rewrite[if_neg zQ]at H
 exact absurd H (by simp))
 rw[if_neg ap]at H
 have c71b0:(ad==M)=false:=zN ap
 have c71b1:(ad !=M)=true:=zX ap
 exact absurd H (by simp))))
 replace aM:=zB aM
 subst aM
 rewrite[if_neg zQ]at H
 exact absurd H (by simp))
 replace aK:=zB aK
 subst aK
 rewrite[if_neg zQ]at H
 exact absurd H (by simp)
end Go.Proofs.Ytengilknjiobiaa.PFnExactPairsOf
