/- Printed functions: laws_eqPatternEntry, laws_eqPatternEntryS. -/
import Derived.Test.YtcppdkdnpmgpmaaYEoP0
namespace Go.Proofs.Ytcppdkdnpmgpmaa.PFnExactEntryOf
open Go.RowKit Go.Proofs.YtcppdkdnpmgpmaaG Go.Proofs.YtcppdkdnpmgpmaaW.PrintWords Go.Proofs.YtcppdkdnpmgpmaaW.PrintLast Go.Proofs.YtcppdkdnpmgpmaaW.PrintMore
attribute [local go_sem] max2_int min2_int max_two min_two max_three min_three max_four min_four
set_option linter.unusedVariables false
set_option linter.unusedSimpArgs false
def laws_eqPatternEntry.f (a0_0:ByteArray) (a0_1:Int) (a1_0:ByteArray) (a1_1:Int):Option (Bool):=if a0_0.toList=a1_0.toList then(if a0_1=a1_1 then(some true)else(some false))else(some false)
set_option maxHeartbeats 8000000 in
set_option maxRecDepth 100000 in
theorem laws_eqPatternEntry.calls (a0_0:ByteArray) (a0_1:Int) (a1_0:ByteArray) (a1_1:Int) (r:Bool) (w:World) (h:laws_eqPatternEntry.f a0_0 a0_1 a1_0 a1_1=some r):
  Calls Try.prog 27 #[.agg #[.string a0_0,.int .i64 a0_1],.agg #[.string a1_0,.int .i64 a1_1]] w fun e w'=>e= .returned (.bool r)∧Below w.heap.size w w':=by
 have u:=Try.underlying51
 have HB:=zM (Below.refl w.heap.size w)
 have H:(if a0_0.toList=a1_0.toList then(if a0_1=a1_1 then(some true)else(some false))else(some false))=some r:=h
 clear h
 by_cases b:a0_0.toList=a1_0.toList
 ·(
 rw[if_pos b]at H
 have c3b0:(a0_0.toList==a1_0.toList)=true:=zE b
 have c3b1:(a0_0.toList !=a1_0.toList)=false:=zY b
 clear b
 by_cases c:a0_1=a1_1
 ·(
 rw[if_pos c]at H
 have c4b0:(a0_1==a1_1)=true:=zE c
 have c4b1:(a0_1 !=a1_1)=false:=zY c
 clear c
 obtain rfl:=zI H
 go_enter Try.func27,Try.ntmps27
 go_wp2_with (first|((with_reducible refine gate_dst (N:=2) rfl ?_);refine sV (N:=2) (cs:= #[.string a0_0,.int .i64 a0_1]) (t:=51) ?_;intro l hg x hbox hb;have a:=zM (hbox);have m:=sG HB hg;have o:=sG HB hg;replace HB:=sB HB hb;clear hb hbox hg)|((with_reducible refine gate_dst (N:=3) rfl ?_);refine sV (N:=3) (cs:= #[.string a1_0,.int .i64 a1_1]) (t:=51) ?_;intro p hg y hbox hb;have d:=zM (hbox);have q:=sG HB hg;have s:=sG HB hg;replace HB:=sB HB hb;have g:=sN a hg;have j:=sM a hg;replace a:=sK a hb;clear hb hbox hg;have z:=g.out;have A:=j.out;obtain⟨B,D,E,F⟩:=cells2 a.out;obtain⟨G,I,J,L⟩:=cells2 d.out))
 go_ret
 exact⟨sq,sb⟩)
 rw[if_neg c]at H
 have c4b0:(a0_1==a1_1)=false:=zN c
 have c4b1:(a0_1 !=a1_1)=true:=zX c
 obtain rfl:=zI H
 go_enter Try.func27,Try.ntmps27
 go_wp2_with (first|((with_reducible refine gate_dst (N:=2) rfl ?_);refine sV (N:=2) (cs:= #[.string a0_0,.int .i64 a0_1]) (t:=51) ?_;intro l hg M hbox hb;have a:=zM (hbox);have m:=sG HB hg;have o:=sG HB hg;replace HB:=sB HB hb;clear hb hbox hg)|((with_reducible refine gate_dst (N:=3) rfl ?_);refine sV (N:=3) (cs:= #[.string a1_0,.int .i64 a1_1]) (t:=51) ?_;intro p hg O hbox hb;have d:=zM (hbox);have q:=sG HB hg;have s:=sG HB hg;replace HB:=sB HB hb;have g:=sN a hg;have j:=sM a hg;replace a:=sK a hb;clear hb hbox hg;have P:=g.out;have Q:=j.out;obtain⟨R,T,U,V⟩:=cells2 a.out;obtain⟨W,X,Y,Z⟩:=cells2 d.out))
 go_ret
 exact⟨sq,sb⟩)
 rw[if_neg b]at H
 have c3b0:(a0_0.toList==a1_0.toList)=false:=zN b
 have c3b1:(a0_0.toList !=a1_0.toList)=true:=zX b
 obtain rfl:=zI H
 go_enter Try.func27,Try.ntmps27
 go_wp2_with (first|((with_reducible refine gate_dst (N:=2) rfl ?_);refine sV (N:=2) (cs:= #[.string a0_0,.int .i64 a0_1]) (t:=51) ?_;intro l hg aa hbox hb;have a:=zM (hbox);have m:=sG HB hg;have o:=sG HB hg;replace HB:=sB HB hb;clear hb hbox hg)|((with_reducible refine gate_dst (N:=3) rfl ?_);refine sV (N:=3) (cs:= #[.string a1_0,.int .i64 a1_1]) (t:=51) ?_;intro p hg ab hbox hb;have d:=zM (hbox);have q:=sG HB hg;have s:=sG HB hg;replace HB:=sB HB hb;have g:=sN a hg;have j:=sM a hg;replace a:=sK a hb;clear hb hbox hg;have ac:=g.out;have ad:=j.out;obtain⟨ae,af,ag,ah⟩:=cells2 a.out;obtain⟨ai,aj,ak,al⟩:=cells2 d.out))
 go_ret
 exact⟨sq,sb⟩
def laws_eqPatternEntryS.l0 : Nat → List (S51) → List (S51) → Int → Option (Bool)
 |0,_,_,_=>none
 |k+1,x0,x1,x5=>if x5<(x0.length:Int)then(if 0≤x5 then(if x5<(x1.length:Int)then((laws_eqPatternEntry.f ((rd_T51 x0 x5).f0) ((rd_T51 x0 x5).f1) ((rd_T51 x1 x5).f0) ((rd_T51 x1 x5).f1)).bind fun t400=>(if t400=true then(laws_eqPatternEntryS.l0 k x0 x1 (wrap64 (x5+1)))else(some false)))else(none))else(none))else(some true)
def laws_eqPatternEntryS.f (k:Nat) (l0:List (S51)) (l1:List (S51)):Option (Bool):=if(l0.length:Int)=(l1.length:Int)then(laws_eqPatternEntryS.l0 k l0 l1 0)else(some false)
def laws_eqPatternEntryS.T6:Bool×List (List Nat×List Nat):=(true,[([],[]),([],[]),([0,1],[0,1]),([2],[2]),([],[]),([],[]),([4,5],[4,5]),([6],[6]),([3,7],[3,7]),([8],[8])])
def laws_eqPatternEntryS.B6:List Nat:=[0,0,3,7,0,0,48,112,255,511]
theorem laws_eqPatternEntryS.tab6:rtab .any (opsOf Try.f18 6)=laws_eqPatternEntryS.T6:=by kernel_rfl
theorem laws_eqPatternEntryS.bits6:waitsOk laws_eqPatternEntryS.T6.2 laws_eqPatternEntryS.B6=true:=by kernel_rfl
set_option maxHeartbeats 8000000 in
set_option maxRecDepth 100000 in
theorem laws_eqPatternEntryS.calls (k:Nat) (A0:Option Addr) (c0:Nat) (l0:List (S51)) (A1:Option Addr) (c1:Nat) (l1:List (S51)) (r:Bool) (w:World) (hr0:Kd.C k51 w A0 l0.length l0) (hc0:l0.length≤c0) (hr1:Kd.C k51 w A1 l1.length l1) (hc1:l1.length≤c1) (h:laws_eqPatternEntryS.f k l0 l1=some r):
  Calls Try.prog 18 #[.slice A0 l0.length c0,.slice A1 l1.length c1] w fun e w'=>e= .returned (.bool r)∧Below w.heap.size w w':=by
 have X:=Try.underlying51
 have Q:=zM hr0
 have Y:=zM hc0
 clear hr0 hc0
 have R:=zM hr1
 have Z:=zM hc1
 clear hr1 hc1
 have HB:=zM (Below.refl w.heap.size w)
 have H:(if(l0.length:Int)=(l1.length:Int)then(laws_eqPatternEntryS.l0 k l0 l1 0)else(some false))=some r:=h
 clear h
 by_cases c:(l0.length:Int)=(l1.length:Int)
 ·(
 rw[if_pos c]at H
 have c3b0:((l0.length:Int)==(l1.length:Int))=true:=zE c
 have c3b1:((l0.length:Int) !=(l1.length:Int))=false:=zY c
 have c3b2:(l0.length==l1.length)=true:=by first|simpa using c|(simp at c ⊢;omega)
 clear c
 have H':=zM H
 clear H
 go_enter Try.func18,Try.ntmps18
 go_wp2
 go_loopg [5] k (fun kq V w'=>∃(a:Int),V= .int .i64 a∧Aside0 (laws_eqPatternEntryS.l0 kq l0 l1 a=some r)∧Aside0 (kq≤k)∧Aside0 (Below w.heap.size w w'))
 case atStart=>exact⟨(0),sr,H',⟨Nat.le_refl _⟩,⟨sb⟩⟩
 case round=>(
 clear H'
 try clear c1
 try clear c
 try clear c3b0
 try clear c3b1
 try clear c3b2
 obtain⟨a,rfl,HA,T,HB⟩:=hrel
 cases gk with
 |zero=>exact absurd HA.out (by simp[laws_eqPatternEntryS.l0])
 |succ k1=>(
 have H:=HA.out
 clear HA
 simp only[laws_eqPatternEntryS.l0]at H
 by_cases B:a<(l0.length:Int)
 ·(
 rw[if_pos B]at H
 have c4b0:=zT B
 clear B
 by_cases E:0≤a
 ·(
 rw[if_pos E]at H
 have c5b0:=zT E
 clear E
 by_cases F:a<(l1.length:Int)
 ·(
 rw[if_pos F]at H
 have c6b0:=zT F
 clear F
 obtain⟨W,U,H⟩:=sO H
 by_cases G:W=true
 ·(
 subst G
 rewrite[if_pos rfl]at H
 have H':=zM H
 clear H
 try go_wp2
 replace HB:=zM (below_drew1 HB.out)
 have s:0≤(a:Int):=zzA
 have u:a<(l0.length:Int):=zzA
 obtain⟨x,I,d,g⟩:=at_T51 Q.out a s u
 have j:=g
 have l:=d
 cases I
 replace d:=sX HB d
 replace g:=sX HB g
 replace s:=eq_true s
 replace u:=eq_true u
 have y:0≤(a:Int):=zzA
 have z:a<(l1.length:Int):=zzA
 obtain⟨A,J,m,o⟩:=at_T51 R.out a y z
 have p:=o
 have q:=m
 cases J
 replace m:=sX HB m
 replace o:=sX HB o
 replace y:=eq_true y
 replace z:=eq_true z
 refine start_ (n:=10) (S:=fun w'=>w'.cell? (x.add ((a).toNat*2))=some (.string ((rd_T51 l0 a).f0))∧w'.cell? ⟨(x.add ((a).toNat*2)).block,(x.add ((a).toNat*2)).off+1,none⟩=some (.int .i64 ((rd_T51 l0 a).f1))∧w'.cell? (A.add ((a).toNat*2))=some (.string ((rd_T51 l1 a).f0))∧w'.cell? ⟨(A.add ((a).toNat*2)).block,(A.add ((a).toNat*2)).off+1,none⟩=some (.int .i64 ((rd_T51 l1 a).f1))) (ds:=[]) #[false,false,false,false,false,false,false,false,false,false] (by kernel_rfl) rfl rfl ⟨((HB.out.cell (zL w _ l)).trans l),((HB.out.cell (zL w _ j)).trans j),((HB.out.cell (zL w _ q)).trans q),((HB.out.cell (zL w _ p)).trans p)⟩ (fun hHeld=>?_);refine with_tabW laws_eqPatternEntryS.tab6 laws_eqPatternEntryS.bits6 (fun b D=>?_)
 generalize wr.drew=w9 at HB d g m o hHeld ⊢
 refine pure_ (i:=0) (N:=some 17) (v:=?_) (a':=?_) (bN 10 1) rfl rfl (any_of b.out (by kernel_rfl)) (fun _ _ _ h=>h) (Or.inl ⟨by rfl,?_⟩) ?_ ?_
 rotate_left
 ·(
 intro w'
 go_simp
 with_reducible rfl)
 rotate_left
 ·(
 simp only[zP,i64_w,i32_w]
 rfl)
 refine pure_ (i:=1) (N:=some 18) (v:=?_) (a':=?_) (bN 10 3) rfl rfl (any_of b.out (by kernel_rfl)) (fun _ _ _ h=>h) (Or.inl ⟨by rfl,?_⟩) ?_ ?_
 rotate_left
 ·(
 intro w'
 go_simp
 with_reducible rfl)
 rotate_left
 ·(
 simp only[zP,i64_w,i32_w]
 rfl)
 refine pure_ (i:=2) (N:=some 19) (v:=?_) (a':=?_) (bN 10 7) rfl rfl (any_of b.out (by kernel_rfl)) (fun _ _ _ h=>h) (Or.inl ⟨by rfl,?_⟩) ?_ ?_
 rotate_left
 ·(
 intro w'
 go_simp
 with_reducible rfl)
 rotate_left
 ·(
 simp only[zP,i64_w,i32_w]
 rfl)
 refine pure_ (i:=4) (N:=some 21) (v:=?_) (a':=?_) (bN 10 23) rfl rfl (any_of b.out (by kernel_rfl)) (fun _ _ _ h=>h) (Or.inl ⟨by rfl,?_⟩) ?_ ?_
 rotate_left
 ·(
 intro w'
 go_simp
 with_reducible rfl)
 rotate_left
 ·(
 simp only[zP,i64_w,i32_w]
 rfl)
 refine pure_ (i:=5) (N:=some 22) (v:=?_) (a':=?_) (bN 10 55) rfl rfl (any_of b.out (by kernel_rfl)) (fun _ _ _ h=>h) (Or.inl ⟨by rfl,?_⟩) ?_ ?_
 rotate_left
 ·(
 intro w'
 go_simp
 with_reducible rfl)
 rotate_left
 ·(
 simp only[zP,i64_w,i32_w]
 rfl)
 refine pure_ (i:=6) (N:=some 23) (v:=?_) (a':=?_) (bN 10 119) rfl rfl (any_of b.out (by kernel_rfl)) (fun _ _ _ h=>h) (Or.inl ⟨by rfl,?_⟩) ?_ ?_
 rotate_left
 ·(
 intro w'
 go_simp
 with_reducible rfl)
 rotate_left
 ·(
 simp only[zP,i64_w,i32_w]
 rfl)
 refine take_ (i:=3) (N:=some 20) (v:=?_) (a':=?_) (bN 10 127) rfl rfl (take_ofW b.out D.out (by kernel_rfl)) (fun _ _ _ h=>h) (Or.inl ⟨by rfl,?_⟩) hHeld ?_ ?_
 rotate_left
 ·(
 rintro w' ⟨L,M,O,P⟩
 go_simp
 with_reducible rfl)
 rotate_left
 ·(
 simp only[zP,i64_w,i32_w]
 rfl)
 refine take_ (i:=7) (N:=some 24) (v:=?_) (a':=?_) (bN 10 255) rfl rfl (take_ofW b.out D.out (by kernel_rfl)) (fun _ _ _ h=>h) (Or.inl ⟨by rfl,?_⟩) hHeld ?_ ?_
 rotate_left
 ·(
 rintro w' ⟨L,M,O,P⟩
 go_simp
 with_reducible rfl)
 rotate_left
 ·(
 simp only[zP,i64_w,i32_w]
 rfl)
 refine one_ (i:=8) (N:=some 25) (bN 10 511) rfl rfl (one_of b.out (by kernel_rfl)) (by decide) (fun K hK=>?_)
 refine goes_ Try.func27 (by kernel_rfl) rfl #[.agg #[.string ((rd_T51 l0 a).f0),.int .i64 ((rd_T51 l0 a).f1)],.agg #[.string ((rd_T51 l1 a).f0),.int .i64 ((rd_T51 l1 a).f1)]] (by rfl) rfl rfl (by(try simp only[List.map_toArray,List.map_cons,List.map_nil]);first|done|rfl|(simp only[List.length_drop,List.length_take];rfl)) ?_
 with_reducible refine(laws_eqPatternEntry.calls ((rd_T51 l0 a).f0) ((rd_T51 l0 a).f1) ((rd_T51 l1 a).f0) ((rd_T51 l1 a).f1) true _ U.out).mono ?_
 rintro e aa ⟨rfl,hb⟩
 refine⟨_,rfl,?_⟩
 replace HB:=sB HB hb
 (try clear hb)
 (try clear hb2)
 (try clear hk)
 (try clear hi)
 refine hK.out _ _ ⟨((HB.out.cell (zL w _ l)).trans l),((HB.out.cell (zL w _ j)).trans j),((HB.out.cell (zL w _ q)).trans q),((HB.out.cell (zL w _ p)).trans p)⟩ (fun hHeld=>?_)
 clear hK K
 refine norm_ (a':=?_) ?_ ?_
 rotate_left
 ·(
 show Act.put _ (some 25) _=_
 simp only[zP,i64_w,i32_w]
 rfl)
 refine pure_ (i:=9) (N:=some 26) (v:=?_) (a':=?_) (bN 10 1023) rfl rfl (any_of b.out (by kernel_rfl)) (fun _ _ _ h=>h) (Or.inl ⟨by rfl,?_⟩) ?_ ?_
 rotate_left
 ·(
 intro w'
 go_simp
 with_reducible rfl)
 rotate_left
 ·(
 simp only[zP,i64_w,i32_w]
 rfl)
 refine done_ (done_of b.out (by kernel_rfl)) ?_
 try go_wp2
 go_roundg k1
 case measure=>have:=T.out;omega
 case rel=>exact⟨(wrap64 (a+1)),sr,H',⟨by have:=T.out;omega⟩,⟨sb⟩⟩)
 replace G:=zB G
 subst G
 rewrite[if_neg zQ]at H
 obtain rfl:=zI H
 try go_wp2
 replace HB:=zM (below_drew1 HB.out)
 have s:0≤(a:Int):=zzA
 have u:a<(l0.length:Int):=zzA
 obtain⟨x,I,d,g⟩:=at_T51 Q.out a s u
 have j:=g
 have l:=d
 cases I
 replace d:=sX HB d
 replace g:=sX HB g
 replace s:=eq_true s
 replace u:=eq_true u
 have y:0≤(a:Int):=zzA
 have z:a<(l1.length:Int):=zzA
 obtain⟨A,J,m,o⟩:=at_T51 R.out a y z
 have p:=o
 have q:=m
 cases J
 replace m:=sX HB m
 replace o:=sX HB o
 replace y:=eq_true y
 replace z:=eq_true z
 refine start_ (n:=10) (S:=fun w'=>w'.cell? (x.add ((a).toNat*2))=some (.string ((rd_T51 l0 a).f0))∧w'.cell? ⟨(x.add ((a).toNat*2)).block,(x.add ((a).toNat*2)).off+1,none⟩=some (.int .i64 ((rd_T51 l0 a).f1))∧w'.cell? (A.add ((a).toNat*2))=some (.string ((rd_T51 l1 a).f0))∧w'.cell? ⟨(A.add ((a).toNat*2)).block,(A.add ((a).toNat*2)).off+1,none⟩=some (.int .i64 ((rd_T51 l1 a).f1))) (ds:=[]) #[false,false,false,false,false,false,false,false,false,false] (by kernel_rfl) rfl rfl ⟨((HB.out.cell (zL w _ l)).trans l),((HB.out.cell (zL w _ j)).trans j),((HB.out.cell (zL w _ q)).trans q),((HB.out.cell (zL w _ p)).trans p)⟩ (fun hHeld=>?_);refine with_tabW laws_eqPatternEntryS.tab6 laws_eqPatternEntryS.bits6 (fun b D=>?_)
 generalize wr.drew=w11 at HB d g m o hHeld ⊢
 refine pure_ (i:=0) (N:=some 17) (v:=?_) (a':=?_) (bN 10 1) rfl rfl (any_of b.out (by kernel_rfl)) (fun _ _ _ h=>h) (Or.inl ⟨by rfl,?_⟩) ?_ ?_
 rotate_left
 ·(
 intro w'
 go_simp
 with_reducible rfl)
 rotate_left
 ·(
 simp only[zP,i64_w,i32_w]
 rfl)
 refine pure_ (i:=1) (N:=some 18) (v:=?_) (a':=?_) (bN 10 3) rfl rfl (any_of b.out (by kernel_rfl)) (fun _ _ _ h=>h) (Or.inl ⟨by rfl,?_⟩) ?_ ?_
 rotate_left
 ·(
 intro w'
 go_simp
 with_reducible rfl)
 rotate_left
 ·(
 simp only[zP,i64_w,i32_w]
 rfl)
 refine pure_ (i:=2) (N:=some 19) (v:=?_) (a':=?_) (bN 10 7) rfl rfl (any_of b.out (by kernel_rfl)) (fun _ _ _ h=>h) (Or.inl ⟨by rfl,?_⟩) ?_ ?_
 rotate_left
 ·(
 intro w'
 go_simp
 with_reducible rfl)
 rotate_left
 ·(
 simp only[zP,i64_w,i32_w]
 rfl)
 refine pure_ (i:=4) (N:=some 21) (v:=?_) (a':=?_) (bN 10 23) rfl rfl (any_of b.out (by kernel_rfl)) (fun _ _ _ h=>h) (Or.inl ⟨by rfl,?_⟩) ?_ ?_
 rotate_left
 ·(
 intro w'
 go_simp
 with_reducible rfl)
 rotate_left
 ·(
 simp only[zP,i64_w,i32_w]
 rfl)
 refine pure_ (i:=5) (N:=some 22) (v:=?_) (a':=?_) (bN 10 55) rfl rfl (any_of b.out (by kernel_rfl)) (fun _ _ _ h=>h) (Or.inl ⟨by rfl,?_⟩) ?_ ?_
 rotate_left
 ·(
 intro w'
 go_simp
 with_reducible rfl)
 rotate_left
 ·(
 simp only[zP,i64_w,i32_w]
 rfl)
 refine pure_ (i:=6) (N:=some 23) (v:=?_) (a':=?_) (bN 10 119) rfl rfl (any_of b.out (by kernel_rfl)) (fun _ _ _ h=>h) (Or.inl ⟨by rfl,?_⟩) ?_ ?_
 rotate_left
 ·(
 intro w'
 go_simp
 with_reducible rfl)
 rotate_left
 ·(
 simp only[zP,i64_w,i32_w]
 rfl)
 refine take_ (i:=3) (N:=some 20) (v:=?_) (a':=?_) (bN 10 127) rfl rfl (take_ofW b.out D.out (by kernel_rfl)) (fun _ _ _ h=>h) (Or.inl ⟨by rfl,?_⟩) hHeld ?_ ?_
 rotate_left
 ·(
 rintro w' ⟨L,M,O,P⟩
 go_simp
 with_reducible rfl)
 rotate_left
 ·(
 simp only[zP,i64_w,i32_w]
 rfl)
 refine take_ (i:=7) (N:=some 24) (v:=?_) (a':=?_) (bN 10 255) rfl rfl (take_ofW b.out D.out (by kernel_rfl)) (fun _ _ _ h=>h) (Or.inl ⟨by rfl,?_⟩) hHeld ?_ ?_
 rotate_left
 ·(
 rintro w' ⟨L,M,O,P⟩
 go_simp
 with_reducible rfl)
 rotate_left
 ·(
 simp only[zP,i64_w,i32_w]
 rfl)
 refine one_ (i:=8) (N:=some 25) (bN 10 511) rfl rfl (one_of b.out (by kernel_rfl)) (by decide) (fun K hK=>?_)
 refine goes_ Try.func27 (by kernel_rfl) rfl #[.agg #[.string ((rd_T51 l0 a).f0),.int .i64 ((rd_T51 l0 a).f1)],.agg #[.string ((rd_T51 l1 a).f0),.int .i64 ((rd_T51 l1 a).f1)]] (by rfl) rfl rfl (by(try simp only[List.map_toArray,List.map_cons,List.map_nil]);first|done|rfl|(simp only[List.length_drop,List.length_take];rfl)) ?_
 with_reducible refine(laws_eqPatternEntry.calls ((rd_T51 l0 a).f0) ((rd_T51 l0 a).f1) ((rd_T51 l1 a).f0) ((rd_T51 l1 a).f1) false _ U.out).mono ?_
 rintro e ab ⟨rfl,hb⟩
 refine⟨_,rfl,?_⟩
 replace HB:=sB HB hb
 (try clear hb)
 (try clear hb2)
 (try clear hk)
 (try clear hi)
 refine hK.out _ _ ⟨((HB.out.cell (zL w _ l)).trans l),((HB.out.cell (zL w _ j)).trans j),((HB.out.cell (zL w _ q)).trans q),((HB.out.cell (zL w _ p)).trans p)⟩ (fun hHeld=>?_)
 clear hK K
 refine norm_ (a':=?_) ?_ ?_
 rotate_left
 ·(
 show Act.put _ (some 25) _=_
 simp only[zP,i64_w,i32_w]
 rfl)
 refine pure_ (i:=9) (N:=some 26) (v:=?_) (a':=?_) (bN 10 1023) rfl rfl (any_of b.out (by kernel_rfl)) (fun _ _ _ h=>h) (Or.inl ⟨by rfl,?_⟩) ?_ ?_
 rotate_left
 ·(
 intro w'
 go_simp
 with_reducible rfl)
 rotate_left
 ·(
 simp only[zP,i64_w,i32_w]
 rfl)
 refine done_ (done_of b.out (by kernel_rfl)) ?_
 try go_wp2
 go_ret
 exact⟨sq,sb⟩)
 rw[if_neg F]at H
 exact absurd H (by simp))
 rw[if_neg E]at H
 exact absurd H (by simp))
 rw[if_neg B]at H
 have c4b0:=zF B
 clear B
 obtain rfl:=zI H
 go_wp2
 go_ret
 exact⟨sq,sb⟩)))
 rw[if_neg c]at H
 have c3b0:((l0.length:Int)==(l1.length:Int))=false:=zN c
 have c3b1:((l0.length:Int) !=(l1.length:Int))=true:=zX c
 have c3b2:(l0.length==l1.length)=false:=by first|simpa using c|(simp at c ⊢;omega)
 obtain rfl:=zI H
 go_enter Try.func18,Try.ntmps18
 go_wp2
 go_ret
 exact⟨sq,sb⟩
end Go.Proofs.Ytcppdkdnpmgpmaa.PFnExactEntryOf
