/- Printed functions: spec_l11Digits. -/
import Derived.Test.YtjmojijopammjaaDoorYCtP0
namespace Go.Proofs.YtjmojijopammjaaDoor.PFnExactCaptureText
open Go.RowKit Go.Proofs.YtjmojijopammjaaDoorG Go.Proofs.YtjmojijopammjaaDoorW.PrintWords Go.Proofs.YtjmojijopammjaaDoorW.PrintLast Go.Proofs.YtjmojijopammjaaDoorW.PrintMore
attribute [local go_sem] max2_int min2_int max_two min_two max_three min_three max_four min_four
set_option linter.unusedVariables false
set_option linter.unusedSimpArgs false
def spec_l11Digits.f : Nat → Int → Option (ByteArray)
 |0,_=>none
 |k+1,a0=>if a0<10 then(some (strOfNums (([(wrap64 (48+a0))%256]:List Int))))else((spec_l11Digits.f k (wrap64 (Int.tdiv a0 10))).bind fun t112=>((some (([(wrap64 (48+(Int.tmod a0 10)))%256]:List Int):List Int)).bind fun y113=>(if t112.size+((strOfNums y113).size)≤9223372036854775807 then(some (t112++(strOfNums y113)))else(none))))
def spec_l11Digits.T3:Bool×List (List Nat×List Nat):=(true,[([],[]),([0],[0]),([1],[1]),([],[]),([3],[3]),([4],[4]),([5],[5]),([6],[6]),([7],[7]),([2,8],[2,8]),([9,2,0,1,2,3,4,5,6,7,8,9],[9])])
def spec_l11Digits.B3:List Nat:=[0,1,3,0,8,24,56,120,248,511,1023]
theorem spec_l11Digits.tab3:rtab .any (opsOf Tryd.f84 3)=spec_l11Digits.T3:=by kernel_rfl
theorem spec_l11Digits.bits3:waitsOk spec_l11Digits.T3.2 spec_l11Digits.B3=true:=by kernel_rfl
set_option maxHeartbeats 8000000 in
set_option maxRecDepth 100000 in
theorem spec_l11Digits.calls (k:Nat):∀(a0:Int) (r:ByteArray) (w:World) (h:spec_l11Digits.f k a0=some r),
  Calls Tryd.prog 84 #[.int .i64 a0] w fun e w'=>e= .returned (.string r)∧Below w.heap.size w w':=by
 induction k using Nat.strongRecOn with
 |_ k ih=>
 intro a0 r w h
 cases k with
 |zero=>exact absurd h (by simp[spec_l11Digits.f])
 |succ k=>
 simp only[spec_l11Digits.f]at h
 have HB:=zM (Below.refl w.heap.size w)
 have H:(if a0<10 then(some (strOfNums (([(wrap64 (48+a0))%256]:List Int))))else((spec_l11Digits.f k (wrap64 (Int.tdiv a0 10))).bind fun c=>((some (([(wrap64 (48+(Int.tmod a0 10)))%256]:List Int):List Int)).bind fun d=>(if c.size+((strOfNums d).size)≤9223372036854775807 then(some (c++(strOfNums d)))else(none)))))=some r:=h
 clear h
 by_cases l:a0<10
 ·(
 rw[if_pos l]at H
 have c2b0:=zT l
 clear l
 obtain⟨y109,hy109⟩:∃y:List Int,y=(([(wrap64 (48+a0))%256]:List Int)):=⟨_,rfl⟩
 replace H:(some (strOfNums y109))=some r:=by first|(rw[hy109];with_reducible exact H)|(have g:=(Option.bind_some _ _).symm.trans H;rw[hy109];with_reducible exact g)|(have g:=(Option.bind_some _ _).symm.trans H;with_reducible exact g)|with_reducible exact H|(rw[hy109];exact H)|exact H
 have C:=zM hy109
 clear hy109
 obtain rfl:=zI H
 go_enter Tryd.func84,Tryd.ntmps84
 go_wp2_with (first|((with_reducible refine gate_dst (N:=8) rfl ?_);refine Kd.R_lit (Kd.int .u8) _ 5 ?hg (N:=8) ?hd (xs:=([(wrap64 (48+a0))%256]:List Int)) (inner:=[.int .u8 ((wrap64 (48+a0))%256)]) (ok:=fun _=>True) (okp:=fun _=>True) ?hr ?hp (fun _ hk=>hk) trivial (Below.refl _ _) (Nat.le_refl _) (by simp) ?_;(case hd=>rfl);(case hg=>rfl);(case hr=>first|(go_simp;done)|(go_simp;rfl));(case hp=>exact(Reps.one (show Kd.M (Kd.int .u8) _ _ _ ((wrap64 (48+a0))%256) [.int .u8 ((wrap64 (48+a0))%256)] from rfl) (Reps.none _ _)));intro L O o hb p q;clear p q;(first|rw[←C.out]at o|(simp only[Int.reduceToNat]at o;rw[←C.out]at o));have G:=zM (Kd.R_lower o (below_size (sH HB.out)));replace HB:=sB HB hb;clear hb o;have Q:=own_string (P:=Tryd.prog) Tryd.underlying51 Tryd.underlying5 Tryd.underlying9 (Kd.own_of_R G.out)))
 go_ret
 exact⟨sq,sb⟩)
 rw[if_neg l]at H
 have c2b0:=zF l
 clear l
 obtain⟨c,z,H⟩:=sO H
 obtain⟨d,hy113⟩:∃y:List Int,y=(([(wrap64 (48+(Int.tmod a0 10)))%256]:List Int)):=⟨_,rfl⟩
 replace H:(if c.size+((strOfNums d).size)≤9223372036854775807 then(some (c++(strOfNums d)))else(none))=some r:=by first|(rw[hy113];with_reducible exact H)|(have g:=(Option.bind_some _ _).symm.trans H;rw[hy113];with_reducible exact g)|(have g:=(Option.bind_some _ _).symm.trans H;with_reducible exact g)|with_reducible exact H|(rw[hy113];exact H)|exact H
 have x:=zM hy113
 clear hy113
 by_cases s:c.size+((strOfNums d).size)≤9223372036854775807
 ·(
 rw[if_pos s]at H
 have c7b0:=eq_true s
 have c7b1:=zT s
 try have c7b2:(9223372036854775807<c.size+((strOfNums d).size))=False:=eq_false (Nat.not_lt.2 s)
 obtain rfl:=zI H
 go_enter Tryd.func84,Tryd.ntmps84
 try go_wp2
 replace HB:=zM (below_drew1 HB.out)
 refine start_ (n:=11) (S:=fun w'=>True) (ds:=[]) #[false,false,false,false,false,false,false,false,false,false,false] (by kernel_rfl) rfl rfl trivial (fun hHeld=>?_);refine with_tabW spec_l11Digits.tab3 spec_l11Digits.bits3 (fun a T=>?_)
 generalize w.drew=w8 at HB hHeld ⊢
 refine pure_ (i:=0) (N:=some 10) (v:=?_) (a':=?_) (bN 11 1) rfl rfl (any_of a.out (by kernel_rfl)) (fun _ _ _ h=>h) (Or.inl ⟨by rfl,?_⟩) ?_ ?_
 rotate_left
 ·(
 intro w'
 go_simp
 with_reducible rfl)
 rotate_left
 ·(
 simp only[zP,i64_w,i32_w]
 rfl)
 refine pure_ (i:=1) (N:=some 11) (v:=?_) (a':=?_) (bN 11 3) rfl rfl (any_of a.out (by kernel_rfl)) (fun _ _ _ h=>h) (Or.inl ⟨by rfl,?_⟩) ?_ ?_
 rotate_left
 ·(
 intro w'
 go_simp
 with_reducible rfl)
 rotate_left
 ·(
 simp only[zP,i64_w,i32_w]
 rfl)
 refine pure_ (i:=3) (N:=some 13) (v:=?_) (a':=?_) (bN 11 11) rfl rfl (any_of a.out (by kernel_rfl)) (fun _ _ _ h=>h) (Or.inl ⟨by rfl,?_⟩) ?_ ?_
 rotate_left
 ·(
 intro w'
 go_simp
 with_reducible rfl)
 rotate_left
 ·(
 simp only[zP,i64_w,i32_w]
 rfl)
 refine pure_ (i:=4) (N:=some 14) (v:=?_) (a':=?_) (bN 11 27) rfl rfl (any_of a.out (by kernel_rfl)) (fun _ _ _ h=>h) (Or.inl ⟨by rfl,?_⟩) ?_ ?_
 rotate_left
 ·(
 intro w'
 go_simp
 with_reducible rfl)
 rotate_left
 ·(
 simp only[zP,i64_w,i32_w]
 rfl)
 refine pure_ (i:=5) (N:=some 15) (v:=?_) (a':=?_) (bN 11 59) rfl rfl (any_of a.out (by kernel_rfl)) (fun _ _ _ h=>h) (Or.inl ⟨by rfl,?_⟩) ?_ ?_
 rotate_left
 ·(
 intro w'
 go_simp
 with_reducible rfl)
 rotate_left
 ·(
 simp only[zP,i64_w,i32_w]
 rfl)
 refine pure_ (i:=6) (N:=some 16) (v:=?_) (a':=?_) (bN 11 123) rfl rfl (any_of a.out (by kernel_rfl)) (fun _ _ _ h=>h) (Or.inl ⟨by rfl,?_⟩) ?_ ?_
 rotate_left
 ·(
 intro w'
 go_simp
 with_reducible rfl)
 rotate_left
 ·(
 simp only[zP,i64_w,i32_w]
 rfl)
 refine join_ (σ:=Value) 2 (bN 11 511) (fun A=>[(12,.string c),(17,A),(18,.string (strOfNums d))]) (fun A w'=>(Kd.R (Kd.int .u8) 5 w' w.heap.size (fun _=>True) A d)∧(Below w.heap.size w w')) ?_ ?_
 rotate_left
 ·(
 intro hCont
 refine two_ (i:=2) (j:=7) (Ni:=some 12) (Nj:=some 17) (bN 11 127) (bN 11 251) rfl rfl rfl rfl (two_of a.out (by kernel_rfl)) (by decide) (by decide) (fun K hK=>?_) (fun K hK=>?_)
 ·(
 skip
 refine goes_ Tryd.func84 (by kernel_rfl) rfl #[.int .i64 (wrap64 (Int.tdiv a0 10))] (by rfl) rfl rfl (by(try simp only[List.map_toArray,List.map_cons,List.map_nil]);first|done|rfl|(simp only[List.length_drop,List.length_take];rfl)) ?_
 with_reducible refine(ih k (by omega) (wrap64 (Int.tdiv a0 10)) c _ z.out).mono ?_
 rintro e I ⟨rfl,hb⟩
 refine⟨_,rfl,?_⟩
 replace HB:=sB HB hb
 (try clear hb)
 (try clear hb2)
 (try clear hk)
 (try clear hi)
 refine hK.out _ _ trivial (fun hHeld=>?_)
 clear hK K
 refine norm_ (a':=?_) ?_ ?_
 rotate_left
 ·(
 show Act.put _ (some 12) _=_
 simp only[zP,i64_w,i32_w]
 rfl)
 refine one_ (i:=7) (N:=some 17) (bN 11 255) rfl rfl (one_of a.out (by kernel_rfl)) (by decide) (fun K hK=>?_)
 refine Kd.R_lit_step (Kd.int .u8) _ 5 ?hg (N:=17) ?hd (xs:=([(wrap64 (48+(Int.tmod a0 10)))%256]:List Int)) (inner:=[.int .u8 ((wrap64 (48+(Int.tmod a0 10)))%256)]) (ok:=fun _=>True) (okp:=fun _=>True) ?hr ?hp (fun _ hk=>hk) trivial (Below.refl _ _) (Nat.le_refl _) (by simp) ?_;(case hd=>rfl);(case hg=>rfl);(case hr=>first|(go_simp;done)|(go_simp;rfl));(case hp=>exact(Reps.one (show Kd.M (Kd.int .u8) _ _ _ ((wrap64 (48+(Int.tmod a0 10)))%256) [.int .u8 ((wrap64 (48+(Int.tmod a0 10)))%256)] from rfl) (Reps.none _ _)))
 intro m U t hb p q
 clear p q
 (first|rw[←x.out]at t|(simp only[Int.reduceToNat]at t;rw[←x.out]at t))
 have b:=zM (Kd.R_lower t (below_size (sH HB.out)))
 replace HB:=sB HB hb
 clear hb t
 refine hK.out _ _ trivial (fun hHeld=>?_)
 clear hK K
 refine norm_ (a':=?_) ?_ ?_
 rotate_left
 ·(
 show Act.put _ (some 17) _=_
 simp only[zP,i64_w,i32_w]
 rfl)
 refine one_ (i:=8) (N:=some 18) (bN 11 511) rfl rfl (one_of a.out (by kernel_rfl)) (by decide) (fun K hK=>?_)
 have B:=own_string (P:=Tryd.prog) Tryd.underlying51 Tryd.underlying5 Tryd.underlying9 (Kd.own_of_R b.out)
 refine value_ (w1:=?_) (v:=?_) (by rfl) rfl ?_ ?_
 rotate_left 2
 ·(
 go_simp
 constructor
 ·rfl
 ·rfl)
 clear B
 refine hK.out _ _ trivial (fun hHeld=>?_)
 clear hK K
 refine norm_ (a':=?_) ?_ ?_
 rotate_left
 ·(
 show Act.put _ (some 18) _=_
 simp only[zP,i64_w,i32_w]
 rfl)
 exact norm_ (by simp only[putAll,Act.put,List.setIfInBounds_toArray,List.set_cons_zero,List.set_cons_succ]) (hCont (m) _ ⟨(sE b.out),(sH HB.out)⟩))
 ·(
 skip
 refine Kd.R_lit_step (Kd.int .u8) _ 5 ?hg (N:=17) ?hd (xs:=([(wrap64 (48+(Int.tmod a0 10)))%256]:List Int)) (inner:=[.int .u8 ((wrap64 (48+(Int.tmod a0 10)))%256)]) (ok:=fun _=>True) (okp:=fun _=>True) ?hr ?hp (fun _ hk=>hk) trivial (Below.refl _ _) (Nat.le_refl _) (by simp) ?_;(case hd=>rfl);(case hg=>rfl);(case hr=>first|(go_simp;done)|(go_simp;rfl));(case hp=>exact(Reps.one (show Kd.M (Kd.int .u8) _ _ _ ((wrap64 (48+(Int.tmod a0 10)))%256) [.int .u8 ((wrap64 (48+(Int.tmod a0 10)))%256)] from rfl) (Reps.none _ _)))
 intro m I u hb p q
 clear p q
 (first|rw[←x.out]at u|(simp only[Int.reduceToNat]at u;rw[←x.out]at u))
 have b:=zM (Kd.R_lower u (below_size (sH HB.out)))
 replace HB:=sB HB hb
 clear hb u
 refine hK.out _ _ trivial (fun hHeld=>?_)
 clear hK K
 refine norm_ (a':=?_) ?_ ?_
 rotate_left
 ·(
 show Act.put _ (some 17) _=_
 simp only[zP,i64_w,i32_w]
 rfl)
 refine two_ (i:=2) (j:=8) (Ni:=some 12) (Nj:=some 18) (bN 11 255) (bN 11 507) rfl rfl rfl rfl (two_of a.out (by kernel_rfl)) (by decide) (by decide) (fun K hK=>?_) (fun K hK=>?_)
 ·(
 skip
 refine goes_ Tryd.func84 (by kernel_rfl) rfl #[.int .i64 (wrap64 (Int.tdiv a0 10))] (by rfl) rfl rfl (by(try simp only[List.map_toArray,List.map_cons,List.map_nil]);first|done|rfl|(simp only[List.length_drop,List.length_take];rfl)) ?_
 with_reducible refine(ih k (by omega) (wrap64 (Int.tdiv a0 10)) c _ z.out).mono ?_
 rintro e V ⟨rfl,hb⟩
 refine⟨_,rfl,?_⟩
 replace b:=zM (Kd.R_below (sE b.out) hb)
 replace HB:=sB HB hb
 (try clear hb)
 (try clear hb2)
 (try clear hk)
 (try clear hi)
 refine hK.out _ _ trivial (fun hHeld=>?_)
 clear hK K
 refine norm_ (a':=?_) ?_ ?_
 rotate_left
 ·(
 show Act.put _ (some 12) _=_
 simp only[zP,i64_w,i32_w]
 rfl)
 refine one_ (i:=8) (N:=some 18) (bN 11 511) rfl rfl (one_of a.out (by kernel_rfl)) (by decide) (fun K hK=>?_)
 have B:=own_string (P:=Tryd.prog) Tryd.underlying51 Tryd.underlying5 Tryd.underlying9 (Kd.own_of_R b.out)
 refine value_ (w1:=?_) (v:=?_) (by rfl) rfl ?_ ?_
 rotate_left 2
 ·(
 go_simp
 constructor
 ·rfl
 ·rfl)
 clear B
 refine hK.out _ _ trivial (fun hHeld=>?_)
 clear hK K
 refine norm_ (a':=?_) ?_ ?_
 rotate_left
 ·(
 show Act.put _ (some 18) _=_
 simp only[zP,i64_w,i32_w]
 rfl)
 exact norm_ (by simp only[putAll,Act.put,List.setIfInBounds_toArray,List.set_cons_zero,List.set_cons_succ]) (hCont (m) _ ⟨(sE b.out),(sH HB.out)⟩))
 ·(
 skip
 have J:=own_string (P:=Tryd.prog) Tryd.underlying51 Tryd.underlying5 Tryd.underlying9 (Kd.own_of_R b.out)
 refine value_ (w1:=?_) (v:=?_) (by rfl) rfl ?_ ?_
 rotate_left 2
 ·(
 go_simp
 constructor
 ·rfl
 ·rfl)
 clear J
 refine hK.out _ _ trivial (fun hHeld=>?_)
 clear hK K
 refine norm_ (a':=?_) ?_ ?_
 rotate_left
 ·(
 show Act.put _ (some 18) _=_
 simp only[zP,i64_w,i32_w]
 rfl)
 refine one_ (i:=2) (N:=some 12) (bN 11 511) rfl rfl (one_of a.out (by kernel_rfl)) (by decide) (fun K hK=>?_)
 refine goes_ Tryd.func84 (by kernel_rfl) rfl #[.int .i64 (wrap64 (Int.tdiv a0 10))] (by rfl) rfl rfl (by(try simp only[List.map_toArray,List.map_cons,List.map_nil]);first|done|rfl|(simp only[List.length_drop,List.length_take];rfl)) ?_
 with_reducible refine(ih k (by omega) (wrap64 (Int.tdiv a0 10)) c _ z.out).mono ?_
 rintro e W ⟨rfl,hb⟩
 refine⟨_,rfl,?_⟩
 replace b:=zM (Kd.R_below (sE b.out) hb)
 replace HB:=sB HB hb
 (try clear hb)
 (try clear hb2)
 (try clear hk)
 (try clear hi)
 refine hK.out _ _ trivial (fun hHeld=>?_)
 clear hK K
 refine norm_ (a':=?_) ?_ ?_
 rotate_left
 ·(
 show Act.put _ (some 12) _=_
 simp only[zP,i64_w,i32_w]
 rfl)
 exact norm_ (by simp only[putAll,Act.put,List.setIfInBounds_toArray,List.set_cons_zero,List.set_cons_succ]) (hCont (m) _ ⟨(sE b.out),(sH HB.out)⟩))))
 rintro m D ⟨E,F⟩
 have b:Aside0 (Kd.R (Kd.int .u8) 5 D w.heap.size (fun _=>True) m d):=⟨E⟩
 replace HB:Aside0 (Below w.heap.size w D):=⟨F⟩
 clear E F
 have hHeld:=trivial
 refine norm_ (a':=?_) ?_ ?_
 rotate_left
 ·(
 simp only[putAll,Act.put,List.setIfInBounds_toArray,List.set_cons_zero,List.set_cons_succ]
 rfl)
 refine pure_ (i:=9) (N:=some 19) (v:=?_) (a':=?_) (bN 11 1023) rfl rfl (any_of a.out (by kernel_rfl)) (fun _ _ _ h=>h) (Or.inl ⟨by rfl,?_⟩) ?_ ?_
 rotate_left
 ·(
 intro w'
 go_simp
 with_reducible rfl)
 rotate_left
 ·(
 simp only[zP,i64_w,i32_w]
 rfl)
 refine pure_ (i:=10) (N:=some 2) (v:=?_) (a':=?_) (bN 11 2047) rfl rfl (any_of a.out (by kernel_rfl)) (fun _ _ _ h=>h) (Or.inl ⟨by rfl,?_⟩) ?_ ?_
 rotate_left
 ·(
 intro w'
 go_simp
 with_reducible rfl)
 rotate_left
 ·(
 simp only[zP,i64_w,i32_w]
 rfl)
 refine done_ (done_of a.out (by kernel_rfl)) ?_
 try go_wp2
 go_ret
 exact⟨sq,sb⟩)
 rw[if_neg s]at H
 exact absurd H (by simp)
end Go.Proofs.YtjmojijopammjaaDoor.PFnExactCaptureText
