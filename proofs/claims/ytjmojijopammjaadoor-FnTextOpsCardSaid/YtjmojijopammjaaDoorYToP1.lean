/- Printed functions: laws_c2Long, IsS116, spec_l00From, spec_l00Src_next, spec_l00Src_pick, spec_l00Src_one, spec_l00Src_text, spec_l00Src_among. -/
import Derived.Test.YtjmojijopammjaaDoorYToP0
namespace Go.Proofs.YtjmojijopammjaaDoor.PFnTextOps
open Go.RowKit Go.Proofs.YtjmojijopammjaaDoorG Go.Proofs.YtjmojijopammjaaDoorW.PrintWords Go.Proofs.YtjmojijopammjaaDoorW.PrintLast Go.Proofs.YtjmojijopammjaaDoorW.PrintMore
attribute [local go_sem] max2_int min2_int max_two min_two max_three min_three max_four min_four
set_option linter.unusedVariables false
set_option linter.unusedSimpArgs false
def laws_c2Long.f (l0:List Int):Option (Bool):=some (decide ((l0.length:Int)>1048576))
set_option maxHeartbeats 8000000 in
set_option maxRecDepth 100000 in
theorem laws_c2Long.calls (A0:Option Addr) (c0:Nat) (l0:List Int) (r:Bool) (w:World) (hr0:Kd.C (Kd.int .u8) w A0 l0.length l0) (hc0:l0.length≤c0) (h:laws_c2Long.f l0=some r):
  Calls Tryd.prog 29 #[.slice A0 l0.length c0] w fun e w'=>e= .returned (.bool r)∧Drawn0 w w':=by
 have b:=zM hr0
 have c:=zM hc0
 clear hr0 hc0
 have H:(some (decide ((l0.length:Int)>1048576)))=some r:=h
 clear h
 obtain rfl:=zI H
 go_enter Tryd.func29,Tryd.ntmps29
 go_wp2
 go_ret
 exact⟨by first|rfl|(simp;done)|(simp[*];done),by repeat(first|exact Drawn0.refl _|apply Drawn0.step)⟩
def IsS116 (w0 W:World) (g:Nat) (f0:List Int) (f1:Int) (f2:Int):Prop:=∃A0 c0,W.heap[g]?=some (.cells #[.slice A0 f0.length c0,.int .i64 f1,.int .u64 f2] 116 (0,0))∧w0.heap.size≤g∧Kd.C (Kd.int .u8) w0 A0 f0.length f0
theorem IsS116.grown {w0 W:World} {g:Nat} {f0:List Int} {f1:Int} {f2:Int} {W1:World} {row:Option Nat} (h:IsS116 w0 W g f0 f1 f2) (hw:W.grownBy W1 row) (hne:some g≠row):IsS116 w0 W1 g f0 f1 f2:=by
 obtain⟨b,c,hb,hg,i⟩:=h
 exact⟨b,c,blk_grown hb hw hne,hg,i⟩
theorem IsS116.own_neN {w0 W:World} {g:Nat} {f0:List Int} {f1:Int} {f2:Int} {α:Type} {d:Kd α} {e:Nat} {base:Nat} {ok:Nat→Prop} {v:Value} {xs:List α} (h:IsS116 w0 W g f0 f1 f2) (ho:Kd.N d e W base ok v xs) (ht:e≠116):some g≠v.ownBlock:=by
 obtain⟨b,c,hb,hg,i⟩:=h
 exact Kd.N_ne ho hb ht
theorem IsS116.fresh {w0 W:World} {g:Nat} {f0:List Int} {f1:Int} {f2:Int} (h:IsS116 w0 W g f0 f1 f2):∀k,W.heap.size≤k→k≠g:=by
 obtain⟨b,c,hb,hg,i⟩:=h
 exact Kd.freshB hb
theorem IsS116.kept {w0 W:World} {g:Nat} {f0:List Int} {f1:Int} {f2:Int} {W1:World} {S:Nat→Prop} (h:IsS116 w0 W g f0 f1 f2) (hk:Kept W W1 S) (hne:¬S g):IsS116 w0 W1 g f0 f1 f2:=by
 obtain⟨b,c,hb,hg,i⟩:=h
 exact⟨b,c,blk_kept hb hk hne,hg,i⟩
theorem IsS116.below {w0 W:World} {g:Nat} {f0:List Int} {f1:Int} {f2:Int} {W1:World} (h:IsS116 w0 W g f0 f1 f2) (hw:Below W.heap.size W W1):IsS116 w0 W1 g f0 f1 f2:=h.grown (grown_of_below hw none) (by simp)
theorem IsS116.alloc {w0 W:World} {g:Nat} {f0:List Int} {f1:Int} {f2:Int} (h:IsS116 w0 W g f0 f1 f2) (o:Obj):IsS116 w0 (W.alloc o) g f0 f1 f2:=h.below (below_alloc (Below.refl _ _) o)
theorem IsS116.drewN {w0 W:World} {g:Nat} {f0:List Int} {f1:Int} {f2:Int} (h:IsS116 w0 W g f0 f1 f2) (m:Nat):IsS116 w0 (W.drewN m) g f0 f1 f2:=h
theorem IsS116.drew {w0 W:World} {g:Nat} {f0:List Int} {f1:Int} {f2:Int} (h:IsS116 w0 W g f0 f1 f2):IsS116 w0 W.drew g f0 f1 f2:=h
theorem IsS116.at_ {w0 W:World} {g:Nat} {f0:List Int} {f1:Int} {f2:Int} {w':World} {m:Nat} (hq:W.drewN m=w') (h:IsS116 w0 W g f0 f1 f2):IsS116 w0 w' g f0 f1 f2:=by subst hq;exact IsS116.drewN h m
theorem IsS116.apart {w0 W:World} {g:Nat} {f0:List Int} {f1:Int} {f2:Int} {α:Type} {d:Kd α} {e:Nat} {base:Nat} {ok:Nat→Prop} {v:Value} {xs:List α} (h:IsS116 w0 W g f0 f1 f2) (ho:d.R e W base ok v xs) (ht:∀q,q∈e::d.E→q≠116):d.R e W base (fun k=>ok k∧k≠g) v xs:=by
 obtain⟨b,c,hb,hg,i⟩:=h
 exact Kd.R_types ho hb ht
theorem IsS116.own_ne {w0 W:World} {g:Nat} {f0:List Int} {f1:Int} {f2:Int} {α:Type} {d:Kd α} {e:Nat} {base:Nat} {ok:Nat→Prop} {v:Value} {xs:List α} (h:IsS116 w0 W g f0 f1 f2) (ho:d.R e W base ok v xs) (ht:e≠116):some g≠v.ownBlock:=by
 obtain⟨b,c,hb,hg,i⟩:=h
 exact Kd.R_ne ho hb ht
theorem IsS116.apartQ {w0 W:World} {g:Nat} {f0:List Int} {f1:Int} {f2:Int} {α:Type} {d:Kd α} {e:Nat} {base:Nat} {ok:Nat→Prop} {v:Value} {xs:List α} (h:IsS116 w0 W g f0 f1 f2) (ho:d.Q e W base ok v xs) (ht:∀q,q∈e::d.E→q≠116):d.Q e W base (fun k=>ok k∧k≠g) v xs:=by
 obtain⟨b,c,hb,hg,i⟩:=h
 exact Kd.Q_types ho hb ht
theorem IsS116.own_neQ {w0 W:World} {g:Nat} {f0:List Int} {f1:Int} {f2:Int} {α:Type} {d:Kd α} {e:Nat} {base:Nat} {ok:Nat→Prop} {v:Value} {xs:List α} (h:IsS116 w0 W g f0 f1 f2) (ho:d.Q e W base ok v xs) (ht:e≠116):some g≠v.ownBlock:=by
 obtain⟨b,c,hb,hg,i⟩:=h
 exact Kd.Q_ne ho hb ht
theorem IsS116.apartS {w0 W:World} {g:Nat} {f0:List Int} {f1:Int} {f2:Int} {α:Type} {d:Kd α} {e:Nat} {base:Nat} {ok:Nat→Prop} {v:Value} {xs:List α} (h:IsS116 w0 W g f0 f1 f2) (ho:d.S e W base ok v xs) (ht:∀q,q∈e::d.E→q≠116):d.S e W base (fun k=>ok k∧k≠g) v xs:=by
 obtain⟨b,c,hb,hg,i⟩:=h
 exact Kd.S_types ho hb ht
theorem IsS116.own_neS {w0 W:World} {g:Nat} {f0:List Int} {f1:Int} {f2:Int} {α:Type} {d:Kd α} {e:Nat} {base:Nat} {ok:Nat→Prop} {v:Value} {xs:List α} (h:IsS116 w0 W g f0 f1 f2) (ho:d.S e W base ok v xs) (ht:e≠116):some g≠v.ownBlock:=by
 obtain⟨b,c,hb,hg,i⟩:=h
 exact Kd.S_ne ho hb ht
theorem IsS116.lt {w0 W:World} {g:Nat} {f0:List Int} {f1:Int} {f2:Int} (h:IsS116 w0 W g f0 f1 f2):g<W.heap.size:=by
 obtain⟨b,c,hb,hg,i⟩:=h
 exact blk_lt hb
theorem IsS116.ge {w0 W:World} {g:Nat} {f0:List Int} {f1:Int} {f2:Int} (h:IsS116 w0 W g f0 f1 f2):w0.heap.size≤g:=by
 obtain⟨b,c,hb,hg,i⟩:=h
 exact hg
theorem IsS116.ne_blk {w0 W:World} {g:Nat} {f0:List Int} {f1:Int} {f2:Int} {a:Nat} {cs:Array Value} {t:TypeId} {fr:Nat×Nat} (h:IsS116 w0 W g f0 f1 f2) (hb2:W.heap[a]?=some (.cells cs t fr)) (ht:t≠116):g≠a:=by
 obtain⟨c,i,hb,hg,j⟩:=h
 rintro rfl
 rw[hb]at hb2
 injection hb2 with hb2
 injection hb2 with _ b
 exact ht b.symm
theorem IsS116.far {w0 W:World} {g:Nat} {f0:List Int} {f1:Int} {f2:Int} {p:Addr} (h:IsS116 w0 W g f0 f1 f2) (hne:g≠p.block) (u:Value):IsS116 w0 (W.setCell p u) g f0 f1 f2:=by
 obtain⟨b,c,hb,hg,i⟩:=h
 exact⟨b,c,blk_far hb hne u,hg,i⟩
theorem cellS116_0 {W:World} {g:Nat} {A0:Option Addr} {c0:Nat} {f0:List Int} {f1:Int} {f2:Int} (h:W.heap[g]?=some (.cells #[.slice A0 f0.length c0,.int .i64 f1,.int .u64 f2] 116 (0,0))):W.cell? ⟨g,0,none⟩=some (.slice A0 f0.length c0):=(blk_cell h 0).trans rfl
theorem cellS116_1 {W:World} {g:Nat} {A0:Option Addr} {c0:Nat} {f0:List Int} {f1:Int} {f2:Int} (h:W.heap[g]?=some (.cells #[.slice A0 f0.length c0,.int .i64 f1,.int .u64 f2] 116 (0,0))):W.cell? ⟨g,1,none⟩=some (.int .i64 f1):=(blk_cell h 1).trans rfl
theorem IsS116.set_1 {w0 W:World} {g:Nat} {f0:List Int} {f1:Int} {f2:Int} (h:IsS116 w0 W g f0 f1 f2) (x:Int):IsS116 w0 (W.setCell ⟨g,1,none⟩ (.int .i64 x)) g f0 x f2:=by
 obtain⟨b,c,hb,hg,i⟩:=h
 exact⟨b,c,by simpa using blk_set hb 1 (.int .i64 x),hg,i⟩
theorem cellS116_2 {W:World} {g:Nat} {A0:Option Addr} {c0:Nat} {f0:List Int} {f1:Int} {f2:Int} (h:W.heap[g]?=some (.cells #[.slice A0 f0.length c0,.int .i64 f1,.int .u64 f2] 116 (0,0))):W.cell? ⟨g,2,none⟩=some (.int .u64 f2):=(blk_cell h 2).trans rfl
theorem IsS116.set_2 {w0 W:World} {g:Nat} {f0:List Int} {f1:Int} {f2:Int} (h:IsS116 w0 W g f0 f1 f2) (x:Int):IsS116 w0 (W.setCell ⟨g,2,none⟩ (.int .u64 x)) g f0 f1 x:=by
 obtain⟨b,c,hb,hg,i⟩:=h
 exact⟨b,c,by simpa using blk_set hb 2 (.int .u64 x),hg,i⟩
theorem IsS116.new (w0 W:World) (A0:Option Addr) (c0:Nat) (f0:List Int) (f1:Int) (f2:Int) (hB:Below w0.heap.size w0 W) (hr0:Kd.C (Kd.int .u8) w0 A0 f0.length f0):IsS116 w0 (W.alloc (.cells #[.slice A0 f0.length c0,.int .i64 f1,.int .u64 f2] 116)) W.heap.size f0 f1 f2:=⟨A0,c0,by simpa using heap_alloc_new W _,hB.size,hr0⟩
def spec_l00From.f (l0:List Int):Option (List Int×Int×Int):=some (l0,0,0)
set_option maxHeartbeats 8000000 in
set_option maxRecDepth 100000 in
theorem spec_l00From.calls (A0:Option Addr) (c0:Nat) (l0:List Int) (r1:List Int) (r2:Int) (r3:Int) (w0 w:World) (hB:Below w0.heap.size w0 w) (hr0:Kd.C (Kd.int .u8) w0 A0 l0.length l0) (hc0:l0.length≤c0) (h:spec_l00From.f l0=some (r1,r2,r3)):
  Calls Tryd.prog 74 #[.slice A0 l0.length c0] w fun e w'=>∃c:Nat,e= .returned (.pointer (some ⟨c,0,none⟩))∧IsS116 w0 w' c r1 r2 r3∧Below w0.heap.size w0 w'∧Below w.heap.size w w':=by
 have F:=Tryd.underlying116
 have z:=zM hr0
 have G:=zM hc0
 clear hr0 hc0
 have HBW:=zM (Below.refl w.heap.size w)
 have A:=zM hB.size
 have HB:=zM hB
 clear hB
 have H:(some (l0,0,0))=some (r1,r2,r3):=h
 clear h
 simp only[Option.some.injEq,Prod.mk.injEq]at H
 obtain⟨rfl,rfl,rfl⟩:=H
 go_enter Tryd.func74,Tryd.ntmps74
 go_wp2_with (first|((with_reducible refine gate_dst (N:=5) rfl ?_);refine sV (N:=5) (cs:= #[.slice A0 l0.length c0,.int .i64 0,.int .u64 0]) (t:=116) ?_;intro b hg I hbox hb;have i:=zM (below_step HBW.out hb);have j:=sB HB hb;have l:=zM (hbox);have n:=zM ((by rw[hg];exact(below_size (by repeat(first|(with_reducible first|exact HBW.out|apply below_alloc|apply pw_below_drewN|apply below_drew1)|exact HBW.out))):w.heap.size≤b));have s:=zM ((Nat.le_trans A.out (by rw[hg];exact(below_size (by repeat(first|(with_reducible first|exact HBW.out|apply below_alloc|apply pw_below_drewN|apply below_drew1)|exact HBW.out))):w.heap.size≤b):w0.heap.size≤b));clear HBW;clear HB;have HBW:=i;have HB:=j;have B:=l;have D:=n;have y:=s;clear i j l n s;clear hb hbox hg))
 go_ret
 exact⟨_,rfl,(show IsS116 w0 _ b l0 0 0 from⟨_,_,by exact sT B.out,y.out,z.out⟩),by repeat(first|(with_reducible first|exact HB.out|apply below_alloc|apply pw_below_drewN|apply below_drew1|refine below_set ?_ y.out)|exact HB.out),by repeat(first|(with_reducible first|exact HBW.out|apply below_alloc|apply pw_below_drewN|apply below_drew1|refine below_set ?_ D.out)|exact HBW.out)⟩
def spec_l00Src_next.f (s0_0:List Int) (s0_1:Int) (s0_2:Int):Option (Int×Int×Int):=if s0_1<(s0_0.length:Int)then(if 0≤s0_1 then(if(wrap64 (s0_1+1))≤(s0_0.length:Int)then(some (wrap64 (rd s0_0 s0_1),wrap64 (s0_1+1),IntKind.u64.wrap ((IntKind.u64.wrap ((IntKind.u64.wrap (s0_2*6364136223846793005))+(IntKind.u64.wrap (wrap64 (rd s0_0 s0_1)))))+1442695040888963407)))else(some (wrap64 (Go.bits .and .u64 ((IntKind.u64.wrap ((IntKind.u64.wrap ((IntKind.u64.wrap (s0_2*6364136223846793005))+(IntKind.u64.wrap (wrap64 (rd s0_0 s0_1)))))+1442695040888963407))/1099511627776) 255),wrap64 (s0_1+1),IntKind.u64.wrap ((IntKind.u64.wrap ((IntKind.u64.wrap (s0_2*6364136223846793005))+(IntKind.u64.wrap (wrap64 (rd s0_0 s0_1)))))+1442695040888963407))))else(none))else(if(wrap64 (s0_1+1))≤(s0_0.length:Int)then(some (0,wrap64 (s0_1+1),IntKind.u64.wrap ((IntKind.u64.wrap ((IntKind.u64.wrap (s0_2*6364136223846793005))))+1442695040888963407)))else(some (wrap64 (Go.bits .and .u64 ((IntKind.u64.wrap ((IntKind.u64.wrap ((IntKind.u64.wrap (s0_2*6364136223846793005))))+1442695040888963407))/1099511627776) 255),wrap64 (s0_1+1),IntKind.u64.wrap ((IntKind.u64.wrap ((IntKind.u64.wrap (s0_2*6364136223846793005))))+1442695040888963407))))
set_option maxHeartbeats 8000000 in
set_option maxRecDepth 100000 in
theorem spec_l00Src_next.calls (g:Nat) (s0_0:List Int) (s0_1:Int) (s0_2:Int) (r1:Int) (r2:Int) (r3:Int) (w0 w:World) (hI:IsS116 w0 w g s0_0 s0_1 s0_2) (hB:Below w0.heap.size w0 w) (h:spec_l00Src_next.f s0_0 s0_1 s0_2=some (r1,r2,r3)):
  Calls Tryd.prog 113 #[.pointer (some ⟨g,0,none⟩)] w fun e w'=>e= .returned (.int .i64 r1)∧IsS116 w0 w' g s0_0 r2 r3∧Below w0.heap.size w0 w'∧KeepBut w w' g none:=by
 have b:=zM hI
 have HK:=zM (KeepBut.refl w g none)
 have HL:=zM hB.size
 clear hI
 have P:=zM hB.size
 have HB:=zM hB
 clear hB
 have H:(if s0_1<(s0_0.length:Int)then(if 0≤s0_1 then(if(wrap64 (s0_1+1))≤(s0_0.length:Int)then(some (wrap64 (rd s0_0 s0_1),wrap64 (s0_1+1),IntKind.u64.wrap ((IntKind.u64.wrap ((IntKind.u64.wrap (s0_2*6364136223846793005))+(IntKind.u64.wrap (wrap64 (rd s0_0 s0_1)))))+1442695040888963407)))else(some (wrap64 (Go.bits .and .u64 ((IntKind.u64.wrap ((IntKind.u64.wrap ((IntKind.u64.wrap (s0_2*6364136223846793005))+(IntKind.u64.wrap (wrap64 (rd s0_0 s0_1)))))+1442695040888963407))/1099511627776) 255),wrap64 (s0_1+1),IntKind.u64.wrap ((IntKind.u64.wrap ((IntKind.u64.wrap (s0_2*6364136223846793005))+(IntKind.u64.wrap (wrap64 (rd s0_0 s0_1)))))+1442695040888963407))))else(none))else(if(wrap64 (s0_1+1))≤(s0_0.length:Int)then(some (0,wrap64 (s0_1+1),IntKind.u64.wrap ((IntKind.u64.wrap ((IntKind.u64.wrap (s0_2*6364136223846793005))))+1442695040888963407)))else(some (wrap64 (Go.bits .and .u64 ((IntKind.u64.wrap ((IntKind.u64.wrap ((IntKind.u64.wrap (s0_2*6364136223846793005))))+1442695040888963407))/1099511627776) 255),wrap64 (s0_1+1),IntKind.u64.wrap ((IntKind.u64.wrap ((IntKind.u64.wrap (s0_2*6364136223846793005))))+1442695040888963407)))))=some (r1,r2,r3):=h
 clear h
 by_cases j:s0_1<(s0_0.length:Int)
 ·(
 rw[if_pos j]at H
 have c2b0:=zT j
 clear j
 by_cases D:0≤s0_1
 ·(
 rw[if_pos D]at H
 have c3b0:=zT D
 clear D
 by_cases l:(wrap64 (s0_1+1))≤(s0_0.length:Int)
 ·(
 rw[if_pos l]at H
 have c4b0:=zT l
 clear l
 simp only[Option.some.injEq,Prod.mk.injEq]at H
 obtain⟨rfl,rfl,rfl⟩:=H
 obtain⟨T,U,n,G,I⟩:=b.out
 have V:=cellS116_0 n
 have X:=cellS116_1 n
 have Y:=cellS116_2 n
 have Z:=blk_frozen n 1
 have aa:=blk_frozen n 2
 clear n G
 have c:0≤(s0_1:Int):=zzA
 have i:s0_1<(s0_0.length:Int):=zzA
 obtain⟨J,F,B⟩:=Kd.at_int I s0_1 c i
 cases F
 replace B:=pw_cell_below HB.out B
 replace c:=eq_true c
 replace i:=eq_true i
 go_enter Tryd.func113,Tryd.ntmps113
 go_wp2
 repeat(go_quiet (fail);try go_wp2)
 go_ret
 exact⟨sq,by repeat(first|(with_reducible first|exact b.out|apply IsS116.alloc|apply IsS116.drewN|apply IsS116.drew|apply IsS116.set_1|apply IsS116.set_2)|exact b.out),by repeat(first|(with_reducible first|exact HB.out|apply below_alloc|apply pw_below_drewN|apply below_drew1|refine below_set ?_ (IsS116.ge b.out))|exact HB.out),by repeat(first|(with_reducible first|exact HK.out|apply KeepBut.set_|apply keep_drewN|apply keep_drew|apply keep_alloc)|exact HK.out)⟩)
 rw[if_neg l]at H
 have c4b0:=zF l
 clear l
 simp only[Option.some.injEq,Prod.mk.injEq]at H
 obtain⟨rfl,rfl,rfl⟩:=H
 obtain⟨ab,ac,s,K,L⟩:=b.out
 have ae:=cellS116_0 s
 have af:=cellS116_1 s
 have ag:=cellS116_2 s
 have ah:=blk_frozen s 1
 have ai:=blk_frozen s 2
 clear s K
 have c:0≤(s0_1:Int):=zzA
 have i:s0_1<(s0_0.length:Int):=zzA
 obtain⟨J,F,B⟩:=Kd.at_int L s0_1 c i
 cases F
 replace B:=pw_cell_below HB.out B
 replace c:=eq_true c
 replace i:=eq_true i
 go_enter Tryd.func113,Tryd.ntmps113
 go_wp2
 repeat(go_quiet (fail);try go_wp2)
 go_ret
 exact⟨sq,by repeat(first|(with_reducible first|exact b.out|apply IsS116.alloc|apply IsS116.drewN|apply IsS116.drew|apply IsS116.set_1|apply IsS116.set_2)|exact b.out),by repeat(first|(with_reducible first|exact HB.out|apply below_alloc|apply pw_below_drewN|apply below_drew1|refine below_set ?_ (IsS116.ge b.out))|exact HB.out),by repeat(first|(with_reducible first|exact HK.out|apply KeepBut.set_|apply keep_drewN|apply keep_drew|apply keep_alloc)|exact HK.out)⟩)
 rw[if_neg D]at H
 exact absurd H (by simp))
 rw[if_neg j]at H
 have c2b0:=zF j
 clear j
 by_cases y:(wrap64 (s0_1+1))≤(s0_0.length:Int)
 ·(
 rw[if_pos y]at H
 have c7b0:=zT y
 clear y
 simp only[Option.some.injEq,Prod.mk.injEq]at H
 obtain⟨rfl,rfl,rfl⟩:=H
 obtain⟨aj,ak,z,M,al⟩:=b.out
 have am:=cellS116_0 z
 have an:=cellS116_1 z
 have ao:=cellS116_2 z
 have ap:=blk_frozen z 1
 have aq:=blk_frozen z 2
 clear z M
 go_enter Tryd.func113,Tryd.ntmps113
 go_wp2
 repeat(go_quiet (fail);try go_wp2)
 go_ret
 exact⟨sq,by repeat(first|(with_reducible first|exact b.out|apply IsS116.alloc|apply IsS116.drewN|apply IsS116.drew|apply IsS116.set_1|apply IsS116.set_2)|exact b.out),by repeat(first|(with_reducible first|exact HB.out|apply below_alloc|apply pw_below_drewN|apply below_drew1|refine below_set ?_ (IsS116.ge b.out))|exact HB.out),by repeat(first|(with_reducible first|exact HK.out|apply KeepBut.set_|apply keep_drewN|apply keep_drew|apply keep_alloc)|exact HK.out)⟩)
 rw[if_neg y]at H
 have c7b0:=zF y
 clear y
 simp only[Option.some.injEq,Prod.mk.injEq]at H
 obtain⟨rfl,rfl,rfl⟩:=H
 obtain⟨ar,au,A,O,av⟩:=b.out
 have aw:=cellS116_0 A
 have ax:=cellS116_1 A
 have ay:=cellS116_2 A
 have az:=blk_frozen A 1
 have aA:=blk_frozen A 2
 clear A O
 go_enter Tryd.func113,Tryd.ntmps113
 go_wp2
 repeat(go_quiet (fail);try go_wp2)
 go_ret
 exact⟨sq,by repeat(first|(with_reducible first|exact b.out|apply IsS116.alloc|apply IsS116.drewN|apply IsS116.drew|apply IsS116.set_1|apply IsS116.set_2)|exact b.out),by repeat(first|(with_reducible first|exact HB.out|apply below_alloc|apply pw_below_drewN|apply below_drew1|refine below_set ?_ (IsS116.ge b.out))|exact HB.out),by repeat(first|(with_reducible first|exact HK.out|apply KeepBut.set_|apply keep_drewN|apply keep_drew|apply keep_alloc)|exact HK.out)⟩
def spec_l00Src_pick.f (s0_0:List Int) (s0_1:Int) (s0_2:Int) (a1:Int):Option (Int×Int×Int):=if a1≤1 then(some (0,s0_1,s0_2))else((spec_l00Src_next.f s0_0 s0_1 s0_2).bind fun bt103=>(if a1>200 then((spec_l00Src_next.f s0_0 bt103.2.1 bt103.2.2).bind fun bt106=>(if a1=0 then(none)else(some (Int.tmod (wrap64 ((wrap64 (bt103.1*256))+bt106.1)) a1,bt106.2.1,bt106.2.2))))else(if a1=0 then(none)else(some (Int.tmod bt103.1 a1,bt103.2.1,bt103.2.2)))))
set_option maxHeartbeats 8000000 in
set_option maxRecDepth 100000 in
theorem spec_l00Src_pick.calls (g:Nat) (s0_0:List Int) (s0_1:Int) (s0_2:Int) (a1:Int) (r1:Int) (r2:Int) (r3:Int) (w0 w:World) (hI:IsS116 w0 w g s0_0 s0_1 s0_2) (hB:Below w0.heap.size w0 w) (h:spec_l00Src_pick.f s0_0 s0_1 s0_2 a1=some (r1,r2,r3)):
  Calls Tryd.prog 79 #[.pointer (some ⟨g,0,none⟩),.int .i64 a1] w fun e w'=>e= .returned (.int .i64 r1)∧IsS116 w0 w' g s0_0 r2 r3∧Below w0.heap.size w0 w'∧KeepBut w w' g none:=by
 have b:=zM hI
 have HK:=zM (KeepBut.refl w g none)
 have HL:=zM hB.size
 clear hI
 have L:=zM hB.size
 have HB:=zM hB
 clear hB
 have H:(if a1≤1 then(some (0,s0_1,s0_2))else((spec_l00Src_next.f s0_0 s0_1 s0_2).bind fun i=>(if a1>200 then((spec_l00Src_next.f s0_0 i.2.1 i.2.2).bind fun c=>(if a1=0 then(none)else(some (Int.tmod (wrap64 ((wrap64 (i.1*256))+c.1)) a1,c.2.1,c.2.2))))else(if a1=0 then(none)else(some (Int.tmod i.1 a1,i.2.1,i.2.2))))))=some (r1,r2,r3):=h
 clear h
 by_cases j:a1≤1
 ·(
 rw[if_pos j]at H
 have c3b0:=zT j
 clear j
 simp only[Option.some.injEq,Prod.mk.injEq]at H
 obtain⟨rfl,rfl,rfl⟩:=H
 go_enter Tryd.func79,Tryd.ntmps79
 go_wp2
 go_ret
 exact⟨sq,by repeat(first|(with_reducible first|exact b.out|apply IsS116.alloc|apply IsS116.drewN|apply IsS116.drew|apply IsS116.set_1|apply IsS116.set_2)|exact b.out),by repeat(first|(with_reducible first|exact HB.out|apply below_alloc|apply pw_below_drewN|apply below_drew1|refine below_set ?_ (IsS116.ge b.out))|exact HB.out),by repeat(first|(with_reducible first|exact HK.out|apply KeepBut.set_|apply keep_drewN|apply keep_drew|apply keep_alloc)|exact HK.out)⟩)
 rw[if_neg j]at H
 have c3b0:=zF j
 clear j
 replace H:=Option.bind_eq_some_iff.mp H
 obtain⟨⟨n,s,y⟩,B,H⟩:=H
 replace H:(if a1>200 then((spec_l00Src_next.f s0_0 s y).bind fun c=>(if a1=0 then(none)else(some (Int.tmod (wrap64 ((wrap64 (n*256))+c.1)) a1,c.2.1,c.2.2))))else(if a1=0 then(none)else(some (Int.tmod n a1,s,y))))=some (r1,r2,r3):=H
 have D:=zM B
 clear B
 by_cases l:a1>200
 ·(
 rw[if_pos l]at H
 have c5b0:decide (200<a1)=true:=zT l
 clear l
 replace H:=Option.bind_eq_some_iff.mp H
 obtain⟨⟨F,G,I⟩,J,H⟩:=H
 replace H:(if a1=0 then(none)else(some (Int.tmod (wrap64 ((wrap64 (n*256))+F)) a1,G,I)))=some (r1,r2,r3):=H
 have K:=zM J
 clear J
 by_cases z:a1=0
 ·(
 rw[if_pos z]at H
 exact absurd H (by simp))
 rw[if_neg z]at H
 have c7b0:(a1==0)=false:=zN z
 have c7b1:(a1 !=0)=true:=zX z
 simp only[Option.some.injEq,Prod.mk.injEq]at H
 obtain⟨rfl,rfl,rfl⟩:=H
 go_enter Tryd.func79,Tryd.ntmps79
 go_wp2_with (first|((with_reducible refine gate_callee (f:=113) rfl ?_);refine sC (some 9) Tryd.func113 #[.pointer (some ⟨g,0,none⟩)] (spec_l00Src_next.calls g s0_0 s0_1 s0_2 n s y w0 _ ?side1 ?side2 D.out) ?_;(case side1=>repeat(first|(with_reducible first|exact b.out|apply IsS116.alloc|apply IsS116.drewN|apply IsS116.drew|apply IsS116.set_1|apply IsS116.set_2)|exact b.out));(case side2=>repeat(first|(with_reducible first|exact HB.out|apply below_alloc|apply pw_below_drewN|apply below_drew1|refine below_set ?_ (IsS116.ge b.out))|exact HB.out));rintro e M ⟨rfl,hi,hb,hk⟩;refine⟨_,rfl,?_⟩;replace HK:=zM (KeepBut.trans (by repeat(first|(with_reducible first|exact HK.out|apply KeepBut.set_|apply keep_drewN|apply keep_drew|apply keep_alloc)|exact HK.out)) hk (.inl rfl));replace HB:=zM (hb);replace b:=zM (hi);(try clear hb);(try clear hk);(try clear hi))|((with_reducible refine gate_callee (f:=113) rfl ?_);refine sC (some 15) Tryd.func113 #[.pointer (some ⟨g,0,none⟩)] (spec_l00Src_next.calls g s0_0 s y F G I w0 _ ?side1 ?side2 K.out) ?_;(case side1=>repeat(first|(with_reducible first|exact b.out|apply IsS116.alloc|apply IsS116.drewN|apply IsS116.drew|apply IsS116.set_1|apply IsS116.set_2)|exact b.out));(case side2=>repeat(first|(with_reducible first|exact HB.out|apply below_alloc|apply pw_below_drewN|apply below_drew1|refine below_set ?_ (IsS116.ge b.out))|exact HB.out));rintro e O ⟨rfl,hi,hb,hk⟩;refine⟨_,rfl,?_⟩;replace HK:=zM (KeepBut.trans (by repeat(first|(with_reducible first|exact HK.out|apply KeepBut.set_|apply keep_drewN|apply keep_drew|apply keep_alloc)|exact HK.out)) hk (.inl rfl));replace HB:=zM (hb);replace b:=zM (hi);(try clear hb);(try clear hk);(try clear hi)))
 go_ret
 exact⟨sq,by repeat(first|(with_reducible first|exact b.out|apply IsS116.alloc|apply IsS116.drewN|apply IsS116.drew|apply IsS116.set_1|apply IsS116.set_2)|exact b.out),by repeat(first|(with_reducible first|exact HB.out|apply below_alloc|apply pw_below_drewN|apply below_drew1|refine below_set ?_ (IsS116.ge b.out))|exact HB.out),by repeat(first|(with_reducible first|exact HK.out|apply KeepBut.set_|apply keep_drewN|apply keep_drew|apply keep_alloc)|exact HK.out)⟩)
 rw[if_neg l]at H
 have c5b0:decide (200<a1)=false:=zF l
 clear l
 by_cases A:a1=0
 ·(
 rw[if_pos A]at H
 exact absurd H (by simp))
 rw[if_neg A]at H
 have c10b0:(a1==0)=false:=zN A
 have c10b1:(a1 !=0)=true:=zX A
 simp only[Option.some.injEq,Prod.mk.injEq]at H
 obtain⟨rfl,rfl,rfl⟩:=H
 go_enter Tryd.func79,Tryd.ntmps79
 go_wp2_with (first|((with_reducible refine gate_callee (f:=113) rfl ?_);refine sC (some 9) Tryd.func113 #[.pointer (some ⟨g,0,none⟩)] (spec_l00Src_next.calls g s0_0 s0_1 s0_2 n s y w0 _ ?side1 ?side2 D.out) ?_;(case side1=>repeat(first|(with_reducible first|exact b.out|apply IsS116.alloc|apply IsS116.drewN|apply IsS116.drew|apply IsS116.set_1|apply IsS116.set_2)|exact b.out));(case side2=>repeat(first|(with_reducible first|exact HB.out|apply below_alloc|apply pw_below_drewN|apply below_drew1|refine below_set ?_ (IsS116.ge b.out))|exact HB.out));rintro e P ⟨rfl,hi,hb,hk⟩;refine⟨_,rfl,?_⟩;replace HK:=zM (KeepBut.trans (by repeat(first|(with_reducible first|exact HK.out|apply KeepBut.set_|apply keep_drewN|apply keep_drew|apply keep_alloc)|exact HK.out)) hk (.inl rfl));replace HB:=zM (hb);replace b:=zM (hi);(try clear hb);(try clear hk);(try clear hi)))
 go_ret
 exact⟨sq,by repeat(first|(with_reducible first|exact b.out|apply IsS116.alloc|apply IsS116.drewN|apply IsS116.drew|apply IsS116.set_1|apply IsS116.set_2)|exact b.out),by repeat(first|(with_reducible first|exact HB.out|apply below_alloc|apply pw_below_drewN|apply below_drew1|refine below_set ?_ (IsS116.ge b.out))|exact HB.out),by repeat(first|(with_reducible first|exact HK.out|apply KeepBut.set_|apply keep_drewN|apply keep_drew|apply keep_alloc)|exact HK.out)⟩
def spec_l00Src_one.f (s0_0:List Int) (s0_1:Int) (s0_2:Int) (a1:Int):Option (Bool×Int×Int):=(spec_l00Src_pick.f s0_0 s0_1 s0_2 a1).bind fun bt109=>(some ((bt109.1==0),bt109.2.1,bt109.2.2))
set_option maxHeartbeats 8000000 in
set_option maxRecDepth 100000 in
theorem spec_l00Src_one.calls (g:Nat) (s0_0:List Int) (s0_1:Int) (s0_2:Int) (a1:Int) (r1:Bool) (r2:Int) (r3:Int) (w0 w:World) (hI:IsS116 w0 w g s0_0 s0_1 s0_2) (hB:Below w0.heap.size w0 w) (h:spec_l00Src_one.f s0_0 s0_1 s0_2 a1=some (r1,r2,r3)):
  Calls Tryd.prog 80 #[.pointer (some ⟨g,0,none⟩),.int .i64 a1] w fun e w'=>e= .returned (.bool r1)∧IsS116 w0 w' g s0_0 r2 r3∧Below w0.heap.size w0 w'∧KeepBut w w' g none:=by
 have b:=zM hI
 have HK:=zM (KeepBut.refl w g none)
 have HL:=zM hB.size
 clear hI
 have y:=zM hB.size
 have HB:=zM hB
 clear hB
 have H:((spec_l00Src_pick.f s0_0 s0_1 s0_2 a1).bind fun c=>(some ((c.1==0),c.2.1,c.2.2)))=some (r1,r2,r3):=h
 clear h
 replace H:=Option.bind_eq_some_iff.mp H
 obtain⟨⟨i,j,l⟩,n,H⟩:=H
 replace H:(some ((i==0),j,l))=some (r1,r2,r3):=H
 have s:=zM n
 clear n
 simp only[Option.some.injEq,Prod.mk.injEq]at H
 obtain⟨rfl,rfl,rfl⟩:=H
 go_enter Tryd.func80,Tryd.ntmps80
 go_wp2_with (first|((with_reducible refine gate_callee (f:=79) rfl ?_);refine sC (some 7) Tryd.func79 #[.pointer (some ⟨g,0,none⟩),.int .i64 a1] (spec_l00Src_pick.calls g s0_0 s0_1 s0_2 a1 i j l w0 _ ?side1 ?side2 s.out) ?_;(case side1=>repeat(first|(with_reducible first|exact b.out|apply IsS116.alloc|apply IsS116.drewN|apply IsS116.drew|apply IsS116.set_1|apply IsS116.set_2)|exact b.out));(case side2=>repeat(first|(with_reducible first|exact HB.out|apply below_alloc|apply pw_below_drewN|apply below_drew1|refine below_set ?_ (IsS116.ge b.out))|exact HB.out));rintro e z ⟨rfl,hi,hb,hk⟩;refine⟨_,rfl,?_⟩;replace HK:=zM (KeepBut.trans (by repeat(first|(with_reducible first|exact HK.out|apply KeepBut.set_|apply keep_drewN|apply keep_drew|apply keep_alloc)|exact HK.out)) hk (.inl rfl));replace HB:=zM (hb);replace b:=zM (hi);(try clear hb);(try clear hk);(try clear hi)))
 go_ret
 exact⟨sq,by repeat(first|(with_reducible first|exact b.out|apply IsS116.alloc|apply IsS116.drewN|apply IsS116.drew|apply IsS116.set_1|apply IsS116.set_2)|exact b.out),by repeat(first|(with_reducible first|exact HB.out|apply below_alloc|apply pw_below_drewN|apply below_drew1|refine below_set ?_ (IsS116.ge b.out))|exact HB.out),by repeat(first|(with_reducible first|exact HK.out|apply KeepBut.set_|apply keep_drewN|apply keep_drew|apply keep_alloc)|exact HK.out)⟩
def spec_l00Src_text.f (s0_0:List Int) (s0_1:Int) (s0_2:Int) (l1:List ByteArray):Option (ByteArray×Int×Int):=(spec_l00Src_pick.f s0_0 s0_1 s0_2 (l1.length:Int)).bind fun bt112=>(if 0≤bt112.1 then(if bt112.1<(l1.length:Int)then(some (rdOf ByteArray.empty l1 bt112.1,bt112.2.1,bt112.2.2))else(none))else(none))
set_option maxHeartbeats 8000000 in
set_option maxRecDepth 100000 in
theorem spec_l00Src_text.calls (g:Nat) (s0_0:List Int) (s0_1:Int) (s0_2:Int) (A1:Option Addr) (c1:Nat) (l1:List ByteArray) (r1:ByteArray) (r2:Int) (r3:Int) (w0 w:World) (hI:IsS116 w0 w g s0_0 s0_1 s0_2) (hB:Below w0.heap.size w0 w) (hr1:Kd.C Kd.string w A1 l1.length l1) (hc1:l1.length≤c1) (hf1:∀ad,A1=some ad→0<l1.length→ad.block≠g) (h:spec_l00Src_text.f s0_0 s0_1 s0_2 l1=some (r1,r2,r3)):
  Calls Tryd.prog 76 #[.pointer (some ⟨g,0,none⟩),.slice A1 l1.length c1] w fun e w'=>e= .returned (.string r1)∧IsS116 w0 w' g s0_0 r2 r3∧Below w0.heap.size w0 w'∧KeepBut w w' g none:=by
 have D:=zM hr1
 have J:=zM hc1
 clear hr1 hc1
 have c:=zM hI
 have HK:=zM (KeepBut.refl w g none)
 have HL:=zM hB.size
 clear hI
 have K:=zM hB.size
 have HB:=zM hB
 clear hB
 have H:((spec_l00Src_pick.f s0_0 s0_1 s0_2 (l1.length:Int)).bind fun i=>(if 0≤i.1 then(if i.1<(l1.length:Int)then(some (rdOf ByteArray.empty l1 i.1,i.2.1,i.2.2))else(none))else(none)))=some (r1,r2,r3):=h
 clear h
 replace H:=Option.bind_eq_some_iff.mp H
 obtain⟨⟨b,y,z⟩,A,H⟩:=H
 replace H:(if 0≤b then(if b<(l1.length:Int)then(some (rdOf ByteArray.empty l1 b,y,z))else(none))else(none))=some (r1,r2,r3):=H
 have F:=zM A
 clear A
 by_cases j:0≤b
 ·(
 rw[if_pos j]at H
 have c4b0:=zT j
 clear j
 by_cases l:b<(l1.length:Int)
 ·(
 rw[if_pos l]at H
 have c5b0:=zT l
 clear l
 simp only[Option.some.injEq,Prod.mk.injEq]at H
 obtain⟨rfl,rfl,rfl⟩:=H
 go_enter Tryd.func76,Tryd.ntmps76
 go_wp2_with (first|((with_reducible refine gate_callee (f:=79) rfl ?_);refine sC (some 9) Tryd.func79 #[.pointer (some ⟨g,0,none⟩),.int .i64 (l1.length:Int)] (spec_l00Src_pick.calls g s0_0 s0_1 s0_2 (l1.length:Int) b y z w0 _ ?side1 ?side2 F.out) ?_;(case side1=>repeat(first|(with_reducible first|exact c.out|apply IsS116.alloc|apply IsS116.drewN|apply IsS116.drew|apply IsS116.set_1|apply IsS116.set_2)|exact c.out));(case side2=>repeat(first|(with_reducible first|exact HB.out|apply below_alloc|apply pw_below_drewN|apply below_drew1|refine below_set ?_ (IsS116.ge c.out))|exact HB.out));rintro e L ⟨rfl,hi,hb,hk⟩;refine⟨_,rfl,?_⟩;replace HK:=zM (KeepBut.trans (by repeat(first|(with_reducible first|exact HK.out|apply KeepBut.set_|apply keep_drewN|apply keep_drew|apply keep_alloc)|exact HK.out)) hk (.inl rfl));replace HB:=zM (hb);replace c:=zM (hi);(try clear hb);(try clear hk);(try clear hi);have n:0≤(b:Int):=zzA;have s:b<(l1.length:Int):=zzA;obtain⟨G,I,B⟩:=Kd.at_string D.out b n s;cases I;replace B:=keep_cell HK.out B (by first|(rw[add_block];exact hf1 _ rfl (by omega))|exact hf1 _ rfl (by omega)|exact hf1 G rfl (by omega));replace n:=eq_true n;replace s:=eq_true s))
 go_ret
 exact⟨sq,by repeat(first|(with_reducible first|exact c.out|apply IsS116.alloc|apply IsS116.drewN|apply IsS116.drew|apply IsS116.set_1|apply IsS116.set_2)|exact c.out),by repeat(first|(with_reducible first|exact HB.out|apply below_alloc|apply pw_below_drewN|apply below_drew1|refine below_set ?_ (IsS116.ge c.out))|exact HB.out),by repeat(first|(with_reducible first|exact HK.out|apply KeepBut.set_|apply keep_drewN|apply keep_drew|apply keep_alloc)|exact HK.out)⟩)
 rw[if_neg l]at H
 exact absurd H (by simp))
 rw[if_neg j]at H
 exact absurd H (by simp)
def spec_l00Src_among.f (s0_0:List Int) (s0_1:Int) (s0_2:Int) (l1:List Int):Option (Int×Int×Int):=(spec_l00Src_pick.f s0_0 s0_1 s0_2 (l1.length:Int)).bind fun bt161=>(if 0≤bt161.1 then(if bt161.1<(l1.length:Int)then(some (rd l1 bt161.1,bt161.2.1,bt161.2.2))else(none))else(none))
set_option maxHeartbeats 8000000 in
set_option maxRecDepth 100000 in
theorem spec_l00Src_among.calls (g:Nat) (s0_0:List Int) (s0_1:Int) (s0_2:Int) (A1:Option Addr) (c1:Nat) (l1:List Int) (r1:Int) (r2:Int) (r3:Int) (w0 w:World) (hI:IsS116 w0 w g s0_0 s0_1 s0_2) (hB:Below w0.heap.size w0 w) (hr1:Kd.C (Kd.int .i64) w A1 l1.length l1) (hc1:l1.length≤c1) (hf1:∀ad,A1=some ad→0<l1.length→ad.block≠g) (h:spec_l00Src_among.f s0_0 s0_1 s0_2 l1=some (r1,r2,r3)):
  Calls Tryd.prog 81 #[.pointer (some ⟨g,0,none⟩),.slice A1 l1.length c1] w fun e w'=>e= .returned (.int .i64 r1)∧IsS116 w0 w' g s0_0 r2 r3∧Below w0.heap.size w0 w'∧KeepBut w w' g none:=by
 have D:=zM hr1
 have J:=zM hc1
 clear hr1 hc1
 have c:=zM hI
 have HK:=zM (KeepBut.refl w g none)
 have HL:=zM hB.size
 clear hI
 have K:=zM hB.size
 have HB:=zM hB
 clear hB
 have H:((spec_l00Src_pick.f s0_0 s0_1 s0_2 (l1.length:Int)).bind fun i=>(if 0≤i.1 then(if i.1<(l1.length:Int)then(some (rd l1 i.1,i.2.1,i.2.2))else(none))else(none)))=some (r1,r2,r3):=h
 clear h
 replace H:=Option.bind_eq_some_iff.mp H
 obtain⟨⟨b,y,z⟩,A,H⟩:=H
 replace H:(if 0≤b then(if b<(l1.length:Int)then(some (rd l1 b,y,z))else(none))else(none))=some (r1,r2,r3):=H
 have F:=zM A
 clear A
 by_cases j:0≤b
 ·(
 rw[if_pos j]at H
 have c4b0:=zT j
 clear j
 by_cases l:b<(l1.length:Int)
 ·(
 rw[if_pos l]at H
 have c5b0:=zT l
 clear l
 simp only[Option.some.injEq,Prod.mk.injEq]at H
 obtain⟨rfl,rfl,rfl⟩:=H
 go_enter Tryd.func81,Tryd.ntmps81
 go_wp2_with (first|((with_reducible refine gate_callee (f:=79) rfl ?_);refine sC (some 9) Tryd.func79 #[.pointer (some ⟨g,0,none⟩),.int .i64 (l1.length:Int)] (spec_l00Src_pick.calls g s0_0 s0_1 s0_2 (l1.length:Int) b y z w0 _ ?side1 ?side2 F.out) ?_;(case side1=>repeat(first|(with_reducible first|exact c.out|apply IsS116.alloc|apply IsS116.drewN|apply IsS116.drew|apply IsS116.set_1|apply IsS116.set_2)|exact c.out));(case side2=>repeat(first|(with_reducible first|exact HB.out|apply below_alloc|apply pw_below_drewN|apply below_drew1|refine below_set ?_ (IsS116.ge c.out))|exact HB.out));rintro e L ⟨rfl,hi,hb,hk⟩;refine⟨_,rfl,?_⟩;replace HK:=zM (KeepBut.trans (by repeat(first|(with_reducible first|exact HK.out|apply KeepBut.set_|apply keep_drewN|apply keep_drew|apply keep_alloc)|exact HK.out)) hk (.inl rfl));replace HB:=zM (hb);replace c:=zM (hi);(try clear hb);(try clear hk);(try clear hi);have n:0≤(b:Int):=zzA;have s:b<(l1.length:Int):=zzA;obtain⟨G,I,B⟩:=Kd.at_int D.out b n s;cases I;replace B:=keep_cell HK.out B (by first|(rw[add_block];exact hf1 _ rfl (by omega))|exact hf1 _ rfl (by omega)|exact hf1 G rfl (by omega));replace n:=eq_true n;replace s:=eq_true s))
 go_ret
 exact⟨sq,by repeat(first|(with_reducible first|exact c.out|apply IsS116.alloc|apply IsS116.drewN|apply IsS116.drew|apply IsS116.set_1|apply IsS116.set_2)|exact c.out),by repeat(first|(with_reducible first|exact HB.out|apply below_alloc|apply pw_below_drewN|apply below_drew1|refine below_set ?_ (IsS116.ge c.out))|exact HB.out),by repeat(first|(with_reducible first|exact HK.out|apply KeepBut.set_|apply keep_drewN|apply keep_drew|apply keep_alloc)|exact HK.out)⟩)
 rw[if_neg l]at H
 exact absurd H (by simp))
 rw[if_neg j]at H
 exact absurd H (by simp)
end Go.Proofs.YtjmojijopammjaaDoor.PFnTextOps
