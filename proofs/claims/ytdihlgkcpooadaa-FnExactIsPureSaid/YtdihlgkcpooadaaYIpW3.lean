/- Words of the print, and of mine. -/
import Derived.Laws.StructEq
import Derived.Tactics
import Derived.WalkKit
import Derived.Test.YtdihlgkcpooadaaYIpW2
section
namespace Go.Proofs.YtdihlgkcpooadaaG
open Go.RowKit Go.Proofs.YtdihlgkcpooadaaW.PrintWords Go.Proofs.YtdihlgkcpooadaaW.PrintLast Go.Proofs.YtdihlgkcpooadaaW.PrintMore
set_option linter.unusedVariables false
theorem cells2 {W:World} {g t:Nat} {a0 a1:Value} (h:W.heap[g]?=some (.cells #[a0,a1] t (0,0))):W.cell? ⟨g,0,none⟩=some a0∧W.cell? ⟨g,1,none⟩=some a1∧W.frozen? ⟨g,0,none⟩=false∧W.frozen? ⟨g,1,none⟩=false:=⟨(blk_cell h 0).trans rfl,(blk_cell h 1).trans rfl,blk_frozen h 0,blk_frozen h 1⟩
theorem cells4 {W:World} {g t:Nat} {a0 a1 a2 a3:Value} (h:W.heap[g]?=some (.cells #[a0,a1,a2,a3] t (0,0))):W.cell? ⟨g,0,none⟩=some a0∧W.cell? ⟨g,1,none⟩=some a1∧W.cell? ⟨g,2,none⟩=some a2∧W.cell? ⟨g,3,none⟩=some a3∧W.frozen? ⟨g,0,none⟩=false∧W.frozen? ⟨g,1,none⟩=false∧W.frozen? ⟨g,2,none⟩=false∧W.frozen? ⟨g,3,none⟩=false:=⟨(blk_cell h 0).trans rfl,(blk_cell h 1).trans rfl,(blk_cell h 2).trans rfl,(blk_cell h 3).trans rfl,blk_frozen h 0,blk_frozen h 1,blk_frozen h 2,blk_frozen h 3⟩
theorem cells5 {W:World} {g t:Nat} {a0 a1 a2 a3 a4:Value} (h:W.heap[g]?=some (.cells #[a0,a1,a2,a3,a4] t (0,0))):W.cell? ⟨g,0,none⟩=some a0∧W.cell? ⟨g,1,none⟩=some a1∧W.cell? ⟨g,2,none⟩=some a2∧W.cell? ⟨g,3,none⟩=some a3∧W.cell? ⟨g,4,none⟩=some a4∧W.frozen? ⟨g,0,none⟩=false∧W.frozen? ⟨g,1,none⟩=false∧W.frozen? ⟨g,2,none⟩=false∧W.frozen? ⟨g,3,none⟩=false∧W.frozen? ⟨g,4,none⟩=false:=⟨(blk_cell h 0).trans rfl,(blk_cell h 1).trans rfl,(blk_cell h 2).trans rfl,(blk_cell h 3).trans rfl,(blk_cell h 4).trans rfl,blk_frozen h 0,blk_frozen h 1,blk_frozen h 2,blk_frozen h 3,blk_frozen h 4⟩
theorem cells9 {W:World} {g t:Nat} {a0 a1 a2 a3 a4 a5 a6 a7 a8:Value} (h:W.heap[g]?=some (.cells #[a0,a1,a2,a3,a4,a5,a6,a7,a8] t (0,0))):W.cell? ⟨g,0,none⟩=some a0∧W.cell? ⟨g,1,none⟩=some a1∧W.cell? ⟨g,2,none⟩=some a2∧W.cell? ⟨g,3,none⟩=some a3∧W.cell? ⟨g,4,none⟩=some a4∧W.cell? ⟨g,5,none⟩=some a5∧W.cell? ⟨g,6,none⟩=some a6∧W.cell? ⟨g,7,none⟩=some a7∧W.cell? ⟨g,8,none⟩=some a8∧W.frozen? ⟨g,0,none⟩=false∧W.frozen? ⟨g,1,none⟩=false∧W.frozen? ⟨g,2,none⟩=false∧W.frozen? ⟨g,3,none⟩=false∧W.frozen? ⟨g,4,none⟩=false∧W.frozen? ⟨g,5,none⟩=false∧W.frozen? ⟨g,6,none⟩=false∧W.frozen? ⟨g,7,none⟩=false∧W.frozen? ⟨g,8,none⟩=false:=⟨(blk_cell h 0).trans rfl,(blk_cell h 1).trans rfl,(blk_cell h 2).trans rfl,(blk_cell h 3).trans rfl,(blk_cell h 4).trans rfl,(blk_cell h 5).trans rfl,(blk_cell h 6).trans rfl,(blk_cell h 7).trans rfl,(blk_cell h 8).trans rfl,blk_frozen h 0,blk_frozen h 1,blk_frozen h 2,blk_frozen h 3,blk_frozen h 4,blk_frozen h 5,blk_frozen h 6,blk_frozen h 7,blk_frozen h 8⟩
theorem sB {w W0 W W1 : World} (h : Aside0 (Below w.heap.size w W0)) (hb : Below W.heap.size W W1)
    (hw:Below w.heap.size w W:=by repeat(first|(with_reducible first|exact Aside0.out (by assumption)|apply below_alloc|apply pw_below_drewN|apply below_drew1|refine below_set ?_ (Aside0.out (by assumption)))|exact Aside0.out (by assumption))):Aside0 (Below w.heap.size w W1):=⟨below_step hw hb⟩
theorem sG {w W0 W : World} {g : Nat} (h : Aside0 (Below w.heap.size w W0)) (hg : g = W.heap.size)
    (hw:Below w.heap.size w W:=by repeat(first|(with_reducible first|exact Aside0.out (by assumption)|apply below_alloc|apply pw_below_drewN|apply below_drew1|refine below_set ?_ (Aside0.out (by assumption)))|exact Aside0.out (by assumption))):Aside0 (w.heap.size≤g):=⟨by rw[hg];exact below_size hw⟩
theorem sK {W0 W W1 : World} {g : Nat} {o : Obj} (h : Aside0 (W0.heap[g]? = some o)) (hb : Below W.heap.size W W1)
    (hw:W.heap[g]?=some o:=by(with_reducible repeat(first|refine blk_drewN ?_ _|refine blk_drew ?_|refine blk_alloc ?_ _));exact Aside0.out (by assumption)):Aside0 (W1.heap[g]?=some o):=⟨blk_below hw hb⟩
theorem sN {W0 W : World} {g g' : Nat} {o : Obj} (h : Aside0 (W0.heap[g]? = some o)) (hg : g' = W.heap.size)
    (hw:W.heap[g]?=some o:=by(with_reducible repeat(first|refine blk_drewN ?_ _|refine blk_drew ?_|refine blk_alloc ?_ _));exact Aside0.out (by assumption)):Aside0 (g≠g'):=⟨by rw[hg];exact Nat.ne_of_lt (blk_lt hw)⟩
theorem sM {W0 W : World} {g g' : Nat} {o : Obj} (h : Aside0 (W0.heap[g]? = some o)) (hg : g' = W.heap.size)
    (hw:W.heap[g]?=some o:=by(with_reducible repeat(first|refine blk_drewN ?_ _|refine blk_drew ?_|refine blk_alloc ?_ _));exact Aside0.out (by assumption)):Aside0 (g'≠g):=⟨by rw[hg];exact Nat.ne_of_gt (blk_lt hw)⟩
section
variable {P:Program} {ops:Array Oper} {Q:Exit→Act→World→Prop}
theorem sV {rest : List Oper} {o : Oper} {a : Act} {W : World} {N : Tmp} {cs : Array Value} {t : TypeId}
    (h:∀g,g=W.heap.size→∀w1,w1.heap[g]?=some (.cells cs t (0,0))→Below W.heap.size W w1→wpList P ops Q rest (a.put o.dst (.pointer (some ⟨g,0,none⟩))) w1)
    (hgd:o.guard=none:=by rfl) (hd:o.dst=some N:=by rfl)
    (hr:(execOp a.eval o).run P W= .ok (.value (.pointer (some ⟨W.heap.size,0,none⟩))) (W.alloc (.cells cs t (0,0))):=by first|(go_simp;done)|(go_simp;rfl)):wpList P ops Q (o::rest) a W:=
  box_event hgd hd hr h
theorem sC {rest : List Oper} {oi : Oper} {a : Act} {w : World} (N : Option Tmp) {f : FuncId} {fn : Func} {as_ : Array Operand} {ts : Array TypeId} (hf : P.funcs[f]? = some fn) (args : Array Value)
    {R:Ending→World→Prop} (hc:Calls P f args w R) (h:∀e w',R e w'→∃v,e= .returned v∧wpList P ops Q rest (a.put N v) w')
    (hd:oi.dst=N:=by rfl) (hg:oi.guard=none:=by rfl) (hname:(fn.name== "runtime.NumGoroutine")=false:=by kernel_rfl) (hb:fn.body.isSome=true:=by rfl)
    (hop:oi.op= .call {callee:= .value (.func f),args:=as_,argTypes:=ts}:=by rfl) (hargs:as_.map a.eval=args:=by(try simp only[List.map_toArray,List.map_cons,List.map_nil]);first|done|rfl|(simp only[List.length_drop,List.length_take];rfl)):
    wpList P ops Q (oi::rest) a w:=goesL_ N hd hg hf hname hb args hop hargs (hc.mono h)
end
theorem sX {w W:World} {p:Addr} {v:Value} (hb:Aside0 (Below w.heap.size w W)) (h:w.cell? p=some v):W.cell? p=some v:=(hb.out.cell (World.block_lt_of_cell? w _ h)).trans h
theorem sq {α:Sort _} {a b:α} (h:a=b:=by first|rfl|(simp<;>rfl)|(simp[*]<;>rfl)):a=b:=h
theorem sr {α:Sort _} {a b:α} (h:a=b:=by first|rfl|(simp;done)|(simp[*];done)):a=b:=h
theorem sb {n:Nat} {w W:World} (h:Below n w W:=by repeat(first|(with_reducible first|exact Aside0.out (by assumption)|apply below_alloc|apply pw_below_drewN|apply below_drew1|refine below_set ?_ (Aside0.out (by assumption)))|exact Aside0.out (by assumption))):Below n w W:=h
end Go.Proofs.YtdihlgkcpooadaaG
end
section
namespace Go.Proofs.YtdihlgkcpooadaaG
open Go.RowKit Go.Proofs.YtdihlgkcpooadaaW.PrintWords Go.Proofs.YtdihlgkcpooadaaW.PrintLast Go.Proofs.YtdihlgkcpooadaaW.PrintMore
theorem not_kept_block {w:World} {S:Nat→Prop} {p:Addr} (hr:∀E,Kept w E S→∃v,E.cell? p=some v):¬S p.block:=by
  intro hs
  obtain⟨v0,h0⟩:=hr w (Kept.refl w S)
  have hlt:p.block<w.heap.size:=World.block_lt_of_cell? _ _ h0
  obtain⟨v,hv⟩:=hr {w with heap:=w.heap.setIfInBounds p.block (.cells #[] 0 (0,0))} ⟨by simp,fun i hi hn=>by
    have hne:p.block≠i:=fun e=>hn (e▸hs)
    simp[Array.getElem?_setIfInBounds_ne hne]⟩
  unfold World.cell? at hv
  simp only[Array.getElem?_setIfInBounds_self_of_lt hlt]at hv
  split at hv<;>simp at hv
theorem seen_kept {w W : World} {S : Nat → Prop} {p : Addr} {A3 : Option Addr} {n c3 : Nat} {Q : World → Option Addr → Prop}
    (hat:∀E,Kept w E S→∃A c,E.cell? p=some (.slice A n c)∧Q E A) (hW:Kept w W S) (hcell:W.cell? p=some (.slice A3 n c3)):∀E,Kept w E S→Q E A3:=by
  intro E hE
  have hn:¬S p.block:=not_kept_block (fun E hE=>by obtain⟨A,c,h,_⟩:=hat E hE;exact⟨_,h⟩)
  obtain⟨A0,c0,h0,_⟩:=hat w (Kept.refl w S)
  have hlt:p.block<w.heap.size:=World.block_lt_of_cell? _ _ h0
  obtain⟨A,c,h,hq⟩:=hat E hE
  have he:E.cell? p=W.cell? p:=by
    unfold World.cell?
    rw[hE.2 _ hlt hn,hW.2 _ hlt hn]
  rw[he,hcell]at h
  injection h with h
  injection h with h1 h2 h3
  rw[h1];exact hq
end Go.Proofs.YtdihlgkcpooadaaG
end
section
namespace Go.Proofs.YtdihlgkcpooadaaG.Kq
open Go.RowKit Go.Proofs.YtdihlgkcpooadaaW.PrintWords Go.Proofs.YtdihlgkcpooadaaW.PrintLast Go.Proofs.YtdihlgkcpooadaaW.PrintMore
open Go.Proofs.YtdihlgkcpooadaaW.PrintWords.Kd (FK FK_mono FK_step FK_bound FK_now FK_raw F raw)
def N {α:Type} (d:Kd α) (e:Nat) (w:World) (base:Nat) (ok:Nat→Prop) (v:Value) (xs:List α):Prop:=
  (∀k,v.ownBlock=some k→ok k)∧∃rows:List (List Value),rows.length=xs.length∧(raw d.sz).Q e w base (fun _=>True) v rows∧∀(j:Nat) (x:α) (c:List Value),xs[j]?=some x→rows[j]?=some c→FK d w (fun k=>ok k∧some k≠v.ownBlock) x c
section
variable {α:Type} {d:Kd α} {e base n cc g:Nat} {ok ok' okp S:Nat→Prop} {w w1 W:World} {A:Option Addr} {u v v1:Value} {xs:List α}
theorem of_N (h:Kd.N d e w base ok v xs):N d e w base ok v xs:=by
  obtain⟨h0,rows,hl,hR,hf⟩:=h
  exact⟨h0,rows,hl,Kd.Q_of_R (Kd.raw_any hR),hf⟩
theorem N_nil (d:Kd α) (e:Nat) (w:World) (base:Nat) (ok:Nat→Prop):N d e w base ok (.slice none 0 0) []:=of_N (Kd.N_nil d e w base ok)
theorem raw_own {sz:Nat} {rows:List (List Value)} (h:(raw sz).Q e w base (fun _=>True) v rows):(raw sz).Q e w base (fun k=>some k=v.ownBlock) v rows:=by
  obtain⟨_,inner,ho,hr⟩:=h
  exact⟨fun k hk=>hk.symm,inner,ho,hr⟩
theorem raw_all {sz:Nat} {rows:List (List Value)} (h:(raw sz).Q e w base ok v rows):(raw sz).Q e w base (fun _=>True) v rows:=Kd.Q_mono h (fun _ _=>trivial)
theorem N_mono (h:N d e w base ok v xs) (hok:∀k,ok k→ok' k):N d e w base ok' v xs:=by
  obtain⟨h0,rows,hl,hR,hf⟩:=h
  exact⟨fun k hk=>hok k (h0 k hk),rows,hl,hR,fun j x c hx hc=>FK_mono (hf j x c hx hc) (fun k hk=>⟨hok k hk.1,hk.2⟩)⟩
theorem N_lt (h:N d e w base ok v xs):∀k,v.ownBlock=some k→k<w.heap.size:=by
  obtain⟨_,rows,_,hR,_⟩:=h
  exact Kd.Q_lt hR
theorem N_base (h:N d e w base ok v xs):∀k,v.ownBlock=some k→base≤k:=by
  obtain⟨_,rows,_,hR,_⟩:=h
  exact Kd.Q_base hR
theorem N_base2 (h:N d e w base ok v xs):v.ownBlock=none∨∃k,v.ownBlock=some k∧base≤k:=by
  obtain⟨_,rows,_,hR,_⟩:=h
  exact Kd.Q_base2 hR
theorem N_typed (h:N d e w base ok v xs):∀k,v.ownBlock=some k→∃cells,w.heap[k]?=some (.cells cells e (0,0)):=by
  obtain⟨_,rows,_,hR,_⟩:=h
  exact Kd.Q_typed hR
theorem N_ne (h:N d e w base ok v xs) {t:Nat} {cells:Array Value} (hb:w.heap[g]?=some (.cells cells t (0,0))) (ht:e≠t):some g≠v.ownBlock:=by
  obtain⟨_,rows,_,hR,_⟩:=h
  exact Kd.Q_ne hR hb ht
theorem N_away (h:N d e w base ok v xs) (hok:∀k,ok k→k≠g):some g≠v.ownBlock:=fun he=>hok g (h.1 g he.symm) rfl
theorem N_bound (h:N d e w base ok v xs):N d e w base (fun k=>ok k∧k<w.heap.size) v xs:=by
  have hlt:=N_lt h
  obtain⟨h0,rows,hl,hR,hf⟩:=h
  exact⟨fun k hk=>⟨h0 k hk,hlt k hk⟩,rows,hl,hR,fun j x c hx hc=>FK_mono (FK_bound (hf j x c hx hc)) (fun k hk=>⟨⟨hk.1.1,hk.2⟩,hk.1.2⟩)⟩
theorem N_lower {base':Nat} (h:N d e w base ok v xs) (hb:base'≤base):N d e w base' ok v xs:=by
  obtain⟨h0,rows,hl,hR,hf⟩:=h
  exact⟨h0,rows,hl,Kd.Q_lower hR hb,hf⟩
theorem N_step (h:N d e w base ok v xs) (hm:∀k,ok k→k<w.heap.size→w1.heap[k]?=w.heap[k]?):N d e w1 base ok v xs:=by
  obtain⟨h0,rows,hl,hR,hf⟩:=h
  exact⟨h0,rows,hl,raw_all (Kd.Q_step (raw_own hR) (fun k hk hlt=>hm k (h0 k hk.symm) hlt)),fun j x c hx hc=>FK_step (hf j x c hx hc) (fun k hk hlt=>hm k hk.1 hlt)⟩
theorem N_below (h:N d e w base ok v xs) (hb:Below w.heap.size w w1):N d e w1 base ok v xs:=N_step h (fun k _ hk=>hb.block k hk)
theorem N_alloc (h:N d e w base ok v xs) (o:Obj):N d e (w.alloc o) base ok v xs:=N_below h (below_alloc (Below.refl _ _) o)
theorem N_drew (h:N d e w base ok v xs):N d e w.drew base ok v xs:=N_below h (below_drew (Below.refl _ _))
theorem N_drewN (h:N d e w base ok v xs) (m:Nat):N d e (w.drewN m) base ok v xs:=N_below h (pw_below_drewN (Below.refl _ _) m)
theorem N_grown (h:N d e w base ok v xs) {row:Option Nat} (hg:w.grownBy w1 row) (hok:∀k,ok k→some k≠row):N d e w1 base ok v xs:=N_step h (fun k ho hk=>hg.block k hk (hok k ho))
theorem N_far (h:N d e w base ok v xs) {p:Addr} (hok:∀k,ok k→k≠p.block) (u:Value):N d e (w.setCell p u) base ok v xs:=N_step h (fun k ho _=>Below.heap_setCell w p u k (hok k ho))
theorem N_kept (h:N d e w base ok v xs) (hk:Kept w w1 S) (hok:∀k,ok k→¬S k):N d e w1 base ok v xs:=N_step h (fun k ho hlt=>hk.2 k hlt (hok k ho))
theorem N_keptB (h:N d e W base ok v xs) (hk:Kept W w1 S) (hne:∀k,ok k→¬S k):N d e w1 base (fun k=>ok k∧(¬S k∧k<W.heap.size)) v xs:=
  N_kept (N_mono (N_bound h) (fun k hk=>⟨hk.1,hne k hk.1,hk.2⟩)) hk (fun _ hk=>hk.2.1)
theorem N_elder' (h:N d e W base ok v xs) (hbase:∀k,u.ownBlock=some k→W.heap.size≤k) (hb:Below W.heap.size W w1):N d e w1 base (fun k=>ok k∧some k≠u.ownBlock) v xs:=
  N_mono (N_below (N_bound h) hb) (fun k hk=>⟨hk.1,fun he=>Nat.lt_irrefl _ (Nat.lt_of_lt_of_le hk.2 (hbase k he.symm))⟩)
theorem N_elderB (h:N d e w base ok v xs) (a:Nat) (ha:w.heap.size≤a):N d e w base (fun k=>ok k∧k≠a) v xs:=N_mono (N_bound h) (fun _ hk=>⟨hk.1,fun he=>Nat.lt_irrefl _ (Nat.lt_of_lt_of_le hk.2 (he▸ha))⟩)
theorem N_afterv (h:N d e W base (fun k=>ok k∧some k≠v.ownBlock) u xs) (hg:W.grownBy w1 v.ownBlock) (hat:v1.ownBlock=v.ownBlock∨∃b,v1.ownBlock=some b∧W.heap.size≤b):N d e w1 base (fun k=>ok k∧some k≠v1.ownBlock) u xs:=by
  refine N_mono (N_step (N_bound h) (fun k hk hlt=>hg.block k hlt hk.1.2)) (fun k hk=>⟨hk.1.1,?_⟩)
  rcases hat with hat|⟨b,hb,hle⟩
  · rw[hat];exact hk.1.2
  · rw [hb]
    intro he
    injection he with he
    exact Nat.lt_irrefl _ (Nat.lt_of_lt_of_le hk.2 (he▸hle))
theorem N_slice (h:N d e w base ok v xs):∃A c,v= .slice A xs.length c:=by
  obtain⟨_,rows,hl,hR,_⟩:=h
  obtain⟨A,c,he,_⟩:=Kd.Q_slice hR
  exact⟨A,c,by rw[he,hl]⟩
theorem N_reads' {n c:Nat} (h:N d e w base ok (.slice A n c) xs):n=xs.length∧n≤c∧d.C w A xs.length xs:=by
  obtain⟨_,rows,hl,hR,hf⟩:=h
  obtain⟨hn,hc,hC⟩:=Kd.Q_reads' hR
  refine⟨by omega,hc,?_⟩
  rw[hl]at hC
  refine⟨rfl,hC.2.1,fun hp=>?_⟩
  obtain⟨ad,he,hcell⟩:=hC.2.2 hp
  refine⟨ad,he,fun j p hj=>?_⟩
  have hjl:j<rows.length:=by have:=(List.getElem?_eq_some_iff.1 hj).1;omega
  obtain⟨c',hcl,hK,hcc⟩:=hcell j _ (List.getElem?_eq_getElem hjl)
  have hk:=FK_now (hf j p _ hj (List.getElem?_eq_getElem hjl))
  refine⟨c',hcl,?_,hcc⟩
  rw[show c'=rows[j] from hK.1]
  exact hk
theorem N_F {n:Nat} (h:N d e w base ok (.slice A n cc) xs):F d w ok A n xs:=fun W' hW=>by
  have h2:=N_reads' (N_step h hW)
  rw[h2.1]
  exact h2.2.2
theorem N_V {base':Nat} (h:N d e W base ok v xs):Kd.V d e W base' ok v xs:=by
  obtain⟨A,c,rfl⟩:=N_slice h
  exact⟨A,c,rfl,(N_reads' h).2.1,N_F h⟩
theorem N_get {ad:Addr} {n cap:Nat} (h:N d e W base ok (.slice (some ad) n cap) xs) (z:α) (i:Int) (h0:0≤i) (h1:i<n):
    ∃c,c.length=d.sz∧FK d W (fun k=>ok k∧some k≠(Value.slice (some ad) n cap).ownBlock) (xs.getD i.toNat z) c∧∀j u,c[j]?=some u→W.cell? (ad.add (i.toNat*d.sz+j))=some u:=by
  obtain⟨_,rows,hl,hR,hf⟩:=h
  obtain⟨hn,_,hC⟩:=Kd.Q_reads' hR
  rw[hn]at h1
  obtain⟨ad',c,he,hcl,hK,hcc⟩:=Kd.C_get hC [] i h0 h1
  injection he with he
  subst he
  have hil:i.toNat<rows.length:=by omega
  have hil':i.toNat<xs.length:=by omega
  have hc:c=rows[i.toNat]:=by
    have h2:=hK.1
    rwa [List.getD_eq_getElem?_getD,List.getElem?_eq_getElem hil]at h2
  refine⟨c,hcl,?_,hcc⟩
  rw[List.getD_eq_getElem?_getD,List.getElem?_eq_getElem hil']
  exact hf _ _ _ (List.getElem?_eq_getElem hil') (by rw[hc];exact List.getElem?_eq_getElem hil)
theorem NN_drop {k n c:Nat} (h:N d e w base ok (.slice A n c) xs) (hk:k≤xs.length):N d e w base ok (.slice (if c=k then A else A.map (·.add (k*d.sz))) (n-k) (c-k)) (xs.drop k):=by
  obtain⟨h0,rows,hl,hR,hf⟩:=h
  have hb:(Value.slice (if c=k then A else A.map (·.add (k*d.sz))) (n-k) (c-k)).ownBlock=(Value.slice A n c).ownBlock:=by
    split
    · cases A<;>rfl
    · cases A with
      |none=>rfl
      |some a=>simp[Value.ownBlock];unfold Addr.add;split<;>rfl
  refine⟨fun j hj=>h0 j (by rw[←hb];exact hj),rows.drop k,by rw[List.length_drop,List.length_drop,hl],Kd.Q_drop hR (by omega),fun j x c' hx hc=>?_⟩
  rw[List.getElem?_drop]at hx hc
  rw[hb]
  exact hf _ x c' hx hc
theorem N_appended {rows news : List (List Value)} {ys : List α} (h0 : ∀ k, v.ownBlock = some k → ok k) (hl : rows.length = xs.length) (hf : ∀ (j : Nat) (x : α) (c : List Value), xs[j]? = some x → rows[j]? = some c → FK d W (fun k => ok k ∧ some k ≠ v.ownBlock) x c)
    (hl2:news.length=ys.length) (hf2:∀(j:Nat) (x:α) (c:List Value),ys[j]?=some x→news[j]?=some c→FK d W okp x c) (hokp:∀k,okp k→ok k∧some k≠v.ownBlock) (hfresh:∀k,W.heap.size≤k→ok k)
    (hR:(raw d.sz).Q e w1 base (fun _=>True) v1 (rows++news)) (hg:W.grownBy w1 v.ownBlock) (hat:v1.ownBlock=v.ownBlock∨∃b,v1.ownBlock=some b∧W.heap.size≤b):N d e w1 base ok v1 (xs++ys):=by
  have hne:∀k,some k≠v.ownBlock→k<W.heap.size→some k≠v1.ownBlock:=by
    intro k hk hlt
    rcases hat with hat|⟨b,hb,hle⟩
    · rw[hat];exact hk
    · rw [hb]
      intro he
      injection he with he
      omega
  have step:∀{x:α} {c:List Value} {o:Nat→Prop},FK d W o x c→(∀k,o k→ok k∧some k≠v.ownBlock)→FK d w1 (fun k=>ok k∧some k≠v1.ownBlock) x c:=by
    intro x c o hq ho
    exact FK_mono (FK_step (FK_bound hq) (fun k hk hlt=>hg.block k hlt (ho k hk.1).2)) (fun k hk=>⟨(ho k hk.1).1,hne k (ho k hk.1).2 hk.2⟩)
  refine⟨fun k hk=>?_,rows++news,by rw[List.length_append,List.length_append,hl,hl2],hR,fun j x c hx hc=>?_⟩
  · rcases hat with hat | ⟨b, hb, hle⟩
    · exact h0 k (hat▸hk)
    · rw [hb] at hk
      injection hk with hk
      exact hfresh k (by omega)
  · rcases Nat.lt_or_ge j xs.length with hlt | hge
    · rw [List.getElem?_append_left hlt] at hx
      rw[List.getElem?_append_left (by omega)]at hc
      exact step (hf j x c hx hc) (fun _ hk=>hk)
    · rw [List.getElem?_append_right hge] at hx
      rw[List.getElem?_append_right (by omega),hl]at hc
      exact step (hf2 _ x c hx hc) hokp
end
section
variable {P:Program} {ops:Array Oper} {rest:List Oper} {o:Oper} {a:Act} {Q:Exit→Act→World→Prop} {Kc:Act→World→Prop} {α:Type} {W:World}
theorem N_append (d : Kd α) {w0 W : World} (base : Nat) (hgd : o.guard = none) (s x : Operand) (t e : TypeId) (z : Value) (bytes : Nat)
    (ho:o.op= .call {callee:= .builtin .append,args:= #[s,x],argTypes:= #[t,t]})
    (ht:P.underlying t=some (.slice e)) (hinfo:(P.info? e).map (fun i=>(i.zero,i.size,i.bytes))=some (some z,d.sz,bytes)) (hz:z.cells.size=d.sz) (hs0:0<d.sz) (hb0:0<bytes)
    (v:Value) (xs:List α) (p:α) (cs:List Value) (ok okp:Nat→Prop) (hs:a.eval s=v) (hx:a.eval x= .slice (some ⟨W.heap.size,0,none⟩) 1 1) (hp:FK d W okp p cs) (hokp:∀k,okp k→ok k∧some k≠v.ownBlock) (hfresh:∀k,W.heap.size≤k→ok k)
    (HO:N d e W base ok v xs) (HB:Below base w0 W) (hbase:base≤W.heap.size) (hl:(xs.length+1)*bytes≤140737488355328)
    (h:∀v1 w1,N d e w1 base ok v1 (xs++[p])→Below base w0 w1→W.grownBy w1 v.ownBlock→(v1.ownBlock=v.ownBlock∨∃b,v1.ownBlock=some b∧W.heap.size≤b)→wpList P ops Q rest (a.put o.dst v1) w1):
    wpList P ops Q (o::rest) a (W.alloc (.cells cs.toArray e)):=by
  obtain⟨h0,rows,hlr,hR,hf⟩:=HO
  refine Kd.Q_append (raw d.sz) base hgd s x t e z bytes ho ht hinfo hz hs0 hb0 v rows cs cs (fun _=>True) (fun k=>some k≠v.ownBlock) hs hx (FK_raw hp) (fun _ hk=>⟨trivial,hk⟩) (fun _ _=>trivial) hR HB hbase (by rw[hlr];exact hl) ?_
  intro v1 w1 hr hb hg hat
  exact h v1 w1 (N_appended h0 hlr hf (ys:=[p]) (news:=[cs]) rfl (fun j y c hy hc=>by
    rcases j with _|j
    · simp only [List.getElem?_cons_zero, Option.some.injEq] at hy hc
      rw[←hy, ←hc];exact hp
    · simp at hy) hokp hfresh hr hg hat) hb hg hat
theorem N_lit (d : Kd α) {w0 W : World} (base e : Nat) (hgd : o.guard = none) {N' : Tmp} (hd : o.dst = some N') {xs : List α} {inner : List Value} {ok okp : Nat → Prop}
    (hrun:(execOp a.eval o).run P W= .ok (.value (.slice (some ⟨W.heap.size,0,none⟩) xs.length xs.length)) (W.alloc (.cells inner.toArray e)))
    (hrep:Reps (FK d W okp) d.sz xs inner) (hok:∀k,okp k→ok k) (hfresh:ok W.heap.size) (HB:Below base w0 W) (hbase:base≤W.heap.size) (hm:xs.length≤9223372036854775807)
    (h:∀v1 w1,N d e w1 base ok v1 xs→Below base w0 w1→W.grownBy w1 none→(∃b,v1.ownBlock=some b∧W.heap.size≤b)→wpList P ops Q rest (a.put o.dst v1) w1):
    wpList P ops Q (o::rest) a W:=
  Kd.N_lit d base e hgd hd hrun hrep hok hfresh HB hbase hm (fun v1 w1 hr=>h v1 w1 (of_N hr))
end
end Go.Proofs.YtdihlgkcpooadaaG.Kq
end
section
namespace Go.Proofs.YtdihlgkcpooadaaG
open Go.RowKit Go.Proofs.YtdihlgkcpooadaaW.PrintWords Go.Proofs.YtdihlgkcpooadaaW.PrintLast Go.Proofs.YtdihlgkcpooadaaW.PrintMore
set_option linter.unusedVariables false
class InW (w W:World):Prop where
  b:Below w.heap.size w W
instance (priority:=low) inW_refl (w:World):InW w w:=⟨Below.refl _ _⟩
instance inW_alloc {w W:World} [i:InW w W] (o:Obj):InW w (W.alloc o):=⟨below_alloc i.b o⟩
instance inW_drew {w W:World} [i:InW w W]:InW w W.drew:=⟨below_drew i.b⟩
instance inW_drewN {w W:World} [i:InW w W] (n:Nat):InW w (W.drewN n):=⟨pw_below_drewN i.b n⟩
theorem sD {α:Type} {d:Kd α} {w W:World} {A:Option Addr} {n:Nat} {xs:List α} (h:d.C w A n xs) [i:InW w W]:d.C W A n xs:=Kd.C_below h i.b
theorem sE {α:Type} {d:Kd α} {e:Nat} {w W:World} {base:Nat} {ok:Nat→Prop} {v:Value} {xs:List α} (h:d.R e w base ok v xs) [i:InW w W]:d.R e W base ok v xs:=Kd.R_below h i.b
theorem sH {w w1 W:World} (h:Below w.heap.size w w1) [i:InW w1 W]:Below w.heap.size w W:=below_then h h.size i.b
theorem sT {w W:World} {g:Nat} {o:Obj} (h:w.heap[g]?=some o) [i:InW w W]:W.heap[g]?=some o:=blk_below h i.b
theorem sO {α β:Type} {x:Option α} {f:α→Option β} {r:β} (h:x.bind f=some r):∃t,Aside0 (x=some t)∧f t=some r:=by
  obtain⟨t,a,b⟩:=Option.bind_eq_some_iff.mp h
  exact⟨t,⟨a⟩,b⟩
def bN (n m:Nat):Array Bool:=((List.range n).map (fun i=>m.testBit i)).toArray
theorem sZ (a:Addr) (n:Nat):a.add (Int.toNat 0*n)=a:=by
  rw[show Int.toNat 0*n=0 from Nat.zero_mul n,Addr.add_zero']
theorem sP4 {w:World} {g:Nat} {t:TypeId} {c0 c1 c2 c3 v0 v1 v2 v3:Value} (h:w.heap[g]?=some (.cells #[c0,c1,c2,c3] t (0,0))):((((w.setCell ⟨g,0,none⟩ v0).setCell ⟨g,1,none⟩ v1).setCell ⟨g,2,none⟩ v2).setCell ⟨g,3,none⟩ v3).heap[g]?=some (.cells #[v0,v1,v2,v3] t (0,0)):=by
  have h0:=blk_put (cs':= #[v0,c1,c2,c3]) h 0 v0 rfl
  have h1:=blk_put (cs':= #[v0,v1,c2,c3]) h0 1 v1 rfl
  have h2:=blk_put (cs':= #[v0,v1,v2,c3]) h1 2 v2 rfl
  have h3:=blk_put (cs':= #[v0,v1,v2,v3]) h2 3 v3 rfl
  exact h3
theorem sP5 {w:World} {g:Nat} {t:TypeId} {c0 c1 c2 c3 c4 v0 v1 v2 v3 v4:Value} (h:w.heap[g]?=some (.cells #[c0,c1,c2,c3,c4] t (0,0))):(((((w.setCell ⟨g,0,none⟩ v0).setCell ⟨g,1,none⟩ v1).setCell ⟨g,2,none⟩ v2).setCell ⟨g,3,none⟩ v3).setCell ⟨g,4,none⟩ v4).heap[g]?=some (.cells #[v0,v1,v2,v3,v4] t (0,0)):=by
  have h0:=blk_put (cs':= #[v0,c1,c2,c3,c4]) h 0 v0 rfl
  have h1:=blk_put (cs':= #[v0,v1,c2,c3,c4]) h0 1 v1 rfl
  have h2:=blk_put (cs':= #[v0,v1,v2,c3,c4]) h1 2 v2 rfl
  have h3:=blk_put (cs':= #[v0,v1,v2,v3,c4]) h2 3 v3 rfl
  have h4:=blk_put (cs':= #[v0,v1,v2,v3,v4]) h3 4 v4 rfl
  exact h4
theorem sQ4 {w:World} {g i0 i1 i2 i3:Nat} {v0 v1 v2 v3:Value} {a:Addr} {x:Option Value} (h:a.block≠g) (e:w.cell? a=x):((((w.setCell ⟨g,i0,none⟩ v0).setCell ⟨g,i1,none⟩ v1).setCell ⟨g,i2,none⟩ v2).setCell ⟨g,i3,none⟩ v3).cell? a=x:=((cell_far (p:=⟨g,i3,none⟩) h v3).trans ((cell_far (p:=⟨g,i2,none⟩) h v2).trans ((cell_far (p:=⟨g,i1,none⟩) h v1).trans ((cell_far (p:=⟨g,i0,none⟩) h v0).trans e))))
end Go.Proofs.YtdihlgkcpooadaaG
end
section
namespace Go.Proofs.YtdihlgkcpooadaaW.PrintLast
open Go.Proofs.YtdihlgkcpooadaaW.PrintWords (Aside0)
def needsOf (md:Region.Mode) (o:Oper):List Nat:=(o.after.toList.filter (fun e=>Region.binds md e)).map (fun e=>e.on)
def clashOf (md : Region.Mode) (ops : Array Oper) (i : Nat) (oi : Oper) : List Nat := (List.range ops.size).filter fun j => !(j == i) && match ops[j]? with
  |some oj=> !(oj.after.any (fun e=>Region.binds md e&&e.on==i)||oi.apart ops oj)
  |none=>false
def rtab (md : Region.Mode) (ops : Array Oper) : Bool × List (List Nat × List Nat) := (Region.noSelect ops, (List.range ops.size).map fun i => match ops[i]? with
  |some o=>(needsOf md o,clashOf md ops i o)
  |none=>([],[]))
def readyAt (T : List (List Nat × List Nat)) (l : List Bool) (i : Nat) : Bool := !l.getD i true && match T[i]? with
  |some r=>r.1.all (fun j=>l.getD j false)
  |none=>false
def readyT (T:List (List Nat×List Nat)) (l:List Bool):List Nat:=(List.range T.length).filter (readyAt T l)
def freeT (T : List (List Nat × List Nat)) (l : List Bool) (i : Nat) : Bool := match T[i]? with
  |some r=>r.2.all (fun j=>l.getD j true)
  |none=>false
def closedT (T : List (List Nat × List Nat)) (l : List Bool) : Bool := (List.range T.length).all fun j => !l.getD j false || match T[j]? with
  |some r=>r.1.all (fun k=>l.getD k false)
  |none=>true
def reachT (T : List (List Nat × List Nat)) (i : Nat) : Nat → Nat → Bool
  |0,_=>false
  | fuel + 1, d => match T[d]? with
    |some r=>r.1.any fun j=>j==i||reachT T i fuel j
    |none=>false
def lastT (T:List (List Nat×List Nat)) (l:List Bool) (ds:List Nat) (i:Nat):Bool:=ds.all fun d=>l.getD d true||reachT T i T.length d
section
variable {md:Region.Mode} {ops:Array Oper} {T:Bool×List (List Nat×List Nat)} {l l' li lj lk:Array Bool} {ds:List Nat} {i j k:Nat}
theorem gd (l:Array Bool) (j:Nat) (b:Bool):l.getD j b=l.toList.getD j b:=by simp[Array.getD_eq_getD_getElem?,List.getD_eq_getElem?_getD]
theorem needs_all (o:Oper) (p:Nat→Bool):o.after.all (fun e=> !Region.binds md e||p e.on)=(needsOf md o).all p:=by
  unfold needsOf
  rw[←Array.all_toList]
  induction o.after.toList with
  |nil=>rfl
  |cons e r ih=>
    rw[List.all_cons,ih,List.filter_cons]
    cases h:Region.binds md e<;>simp
theorem needs_any (o:Oper) (p:Nat→Bool):o.after.any (fun e=>Region.binds md e&&p e.on)=(needsOf md o).any p:=by
  unfold needsOf
  rw[←Array.any_toList]
  induction o.after.toList with
  |nil=>rfl
  |cons e r ih=>
    rw[List.any_cons,ih,List.filter_cons]
    cases h:Region.binds md e<;>simp
theorem rtab_length:(rtab md ops).2.length=ops.size:=by simp[rtab]
theorem rtab_some {o:Oper} (h:ops[i]?=some o):(rtab md ops).2[i]?=some (needsOf md o,clashOf md ops i o):=by
  have hi:=(Array.getElem?_eq_some_iff.1 h).1
  unfold rtab
  rw[List.getElem?_map,List.getElem?_range hi,Option.map_some,h]
theorem rtab_none (h:ops[i]?=none):(rtab md ops).2[i]?=none:=by
  have hi:ops.size≤i:=Array.getElem?_eq_none_iff.1 h
  exact List.getElem?_eq_none (by rw[rtab_length];exact hi)
theorem readyAt_eq:readyAt (rtab md ops).2 l.toList i=(!l.getD i true&&((ops[i]?).map (·.after.all fun e=> !Region.binds md e||l.getD e.on false)).getD false):=by
  unfold readyAt
  rw[gd]
  cases h:ops[i]? with
  |none=>rw[rtab_none h];rfl
  |some o=>
    rw[rtab_some h]
    simp only[Option.map_some,Option.getD_some]
    rw[←needs_all]
    simp only[gd]
theorem ready_eq:Region.ready md ops l=readyT (rtab md ops).2 l.toList:=by
  unfold Region.ready readyT
  rw[rtab_length]
  refine List.filter_congr (fun i _=>?_)
  rw[readyAt_eq]
theorem free_eq:Region.free md ops l i=freeT (rtab md ops).2 l.toList i:=by
  unfold Region.free freeT
  cases h:ops[i]? with
  |none=>rw[rtab_none h]
  |some oi=>
    rw[rtab_some h]
    simp only[clashOf]
    rw[List.all_filter]
    congr 1
    funext j
    rw[gd]
    cases hj:ops[j]? with
    |none=>cases(j==i)<;>cases(l.toList.getD j true)<;>simp
    |some oj=>
      cases(j==i)<;>cases(l.toList.getD j true)<;>cases(oj.after.any (fun e=>Region.binds md e&&e.on==i)||oi.apart ops oj)<;>simp_all
theorem closed_eq:Region.closedB md ops l=closedT (rtab md ops).2 l.toList:=by
  unfold Region.closedB closedT
  rw[rtab_length]
  congr 1
  funext j
  rw[gd]
  cases h:ops[j]? with
  |none=>rw[rtab_none h]
  |some o=>
    rw[rtab_some h]
    simp only
    rw[←needs_all]
    simp only[gd]
theorem reach_eq : ∀ (fuel d : Nat), Region.reachB md ops i fuel d = reachT (rtab md ops).2 i fuel d
  |0,_=>rfl
  |fuel+1,d=>by
    unfold Region.reachB reachT
    cases h:ops[d]? with
    |none=>rw[rtab_none h]
    |some o=>
      rw[rtab_some h]
      simp only
      rw[←needs_any]
      congr 1
      funext e
      rw[reach_eq fuel]
theorem last_eq:Region.lastB md ops l ds i=lastT (rtab md ops).2 l.toList ds i:=by
  unfold Region.lastB lastT
  rw[rtab_length]
  congr 1
  funext d
  rw[gd,reach_eq]
theorem readyAt_mem (h:readyAt T.2 l.toList i=true) (hT:rtab md ops=T):(Region.ready md ops l).contains i=true:=by
  subst hT
  rw[ready_eq]
  unfold readyT
  rw[List.contains_iff_mem,List.mem_filter,List.mem_range]
  refine⟨?_,h⟩
  unfold readyAt at h
  rw[Bool.and_eq_true]at h
  cases hq:(rtab md ops).2[i]? with
  |none=>rw[hq]at h;simp at h
  |some r=>exact(List.getElem?_eq_some_iff.1 hq).1
theorem set_of (h:(l.toList.set i true==l'.toList)=true):(l.setIfInBounds i true==l')=true:=by
  rw[beq_iff_eq]at h ⊢
  apply Array.ext'
  rw[Array.toList_setIfInBounds]
  exact h
def anyT (T:Bool×List (List Nat×List Nat)) (l l':List Bool) (i:Nat):Bool:=T.1&&freeT T.2 l i&&readyAt T.2 l i&&(l.set i true==l')
theorem any_of (hT:rtab md ops=T) (h:anyT T l.toList l'.toList i=true):anyB md ops l l' i=true:=by
  simp only[anyT,Bool.and_eq_true]at h
  obtain⟨⟨⟨h1,h2⟩,h3⟩,h4⟩:=h
  have h5:=readyAt_mem h3 hT
  have h6:=set_of h4
  subst hT
  simp only[anyB,Bool.and_eq_true]
  exact⟨⟨⟨h1,by rw[free_eq];exact h2⟩,h5⟩,h6⟩
def takeT (T:Bool×List (List Nat×List Nat)) (ds:List Nat) (l l':List Bool) (i:Nat):Bool:=T.1&&freeT T.2 l i&&readyAt T.2 l i&&closedT T.2 l&&lastT T.2 l ds i&&(l.set i true==l')
theorem take_of (hT:rtab md ops=T) (h:takeT T ds l.toList l'.toList i=true):takeB md ops ds l l' i=true:=by
  simp only[takeT,Bool.and_eq_true]at h
  obtain⟨⟨⟨⟨⟨h1,h2⟩,h3⟩,h4⟩,h5⟩,h6⟩:=h
  have h7:=readyAt_mem h3 hT
  have h8:=set_of h6
  subst hT
  simp only[takeB,Bool.and_eq_true]
  exact⟨⟨⟨⟨⟨h1,by rw[free_eq];exact h2⟩,h7⟩,by rw[closed_eq];exact h4⟩,by rw[last_eq];exact h5⟩,h8⟩
theorem one_of (hT:rtab md ops=T) (h:(readyT T.2 l.toList==[i]&&l.toList.set i true==l'.toList)=true):readyB md ops l l' i=true:=by
  simp only[Bool.and_eq_true]at h
  obtain⟨h1,h2⟩:=h
  subst hT
  simp only[readyB,Bool.and_eq_true]
  exact⟨by rw[ready_eq];exact h1,set_of h2⟩
theorem two_of (hT:rtab md ops=T) (h:(readyT T.2 l.toList==[i,j]&&l.toList.set i true==li.toList&&l.toList.set j true==lj.toList)=true):(Region.ready md ops l==[i,j]&&l.setIfInBounds i true==li&&l.setIfInBounds j true==lj)=true:=by
  simp only[Bool.and_eq_true]at h ⊢
  obtain⟨⟨h1,h2⟩,h3⟩:=h
  subst hT
  exact⟨⟨by rw[ready_eq];exact h1,set_of h2⟩,set_of h3⟩
theorem done_of (hT:rtab md ops=T) (h:(readyT T.2 l.toList==[])=true):(Region.ready md ops l==[])=true:=by
  subst hT
  rw[ready_eq]
  exact h
def upM (B : List Nat) (d : Nat) : List Nat → Nat
  |[]=>0
  |n::r=>(2^n|||(if n<d then B.getD n 0 else 0))|||upM B d r
def waitsOk (T : List (List Nat × List Nat)) (B : List Nat) : Bool := (List.range T.length).all fun d => match T[d]? with
  |some r=>(B.getD d 0|||upM B d r.1)==upM B d r.1
  |none=>false
theorem upM_bit {B : List Nat} {d i : Nat} : ∀ {ns : List Nat}, (upM B d ns).testBit i = true → ∃ n ∈ ns, n = i ∨ (n < d ∧ (B.getD n 0).testBit i = true)
  |[],h=>by simp[upM]at h
  |n::r,h=>by
    unfold upM at h
    rw[Nat.testBit_or,Nat.testBit_or,Bool.or_eq_true,Bool.or_eq_true]at h
    rcases h with(h|h)|h
    · rw [Nat.testBit_two_pow] at h
      exact⟨n,List.mem_cons_self,.inl (by simpa using h)⟩
    · by_cases hn : n < d
      · rw [if_pos hn] at h
        exact⟨n,List.mem_cons_self,.inr ⟨hn,h⟩⟩
      · rw [if_neg hn] at h
        simp at h
    · obtain ⟨m, hm, h2⟩ := upM_bit h
      exact⟨m,List.mem_cons_of_mem _ hm,h2⟩
theorem reach_bit {T : List (List Nat × List Nat)} {B : List Nat} (hB : waitsOk T B = true) : ∀ (fuel d : Nat), d < fuel → d < T.length → (B.getD d 0).testBit i = true → reachT T i fuel d = true
  |0,d,h,_,_=>by omega
  |fuel+1,d,h,hd,hb=>by
    have h1:=List.all_eq_true.1 hB d (List.mem_range.2 hd)
    cases hr:T[d]? with
    |none=>rw[hr]at h1;simp at h1
    |some r=>
      rw[hr]at h1
      simp only[beq_iff_eq]at h1
      have h2:(upM B d r.1).testBit i=true:=by rw[←h1,Nat.testBit_or,hb,Bool.true_or]
      obtain⟨n,hn,h3⟩:=upM_bit h2
      unfold reachT
      rw[hr]
      simp only
      rw[List.any_eq_true]
      refine⟨n,hn,?_⟩
      rcases h3 with rfl|⟨h4,h5⟩
      · simp
      · rw[reach_bit hB fuel n (by omega) (by omega) h5,Bool.or_true]
def lastW (T:List (List Nat×List Nat)) (B:List Nat) (l:List Bool) (ds:List Nat) (i:Nat):Bool:=ds.all fun d=>l.getD d true||(decide (d<T.length)&&(B.getD d 0).testBit i)
def takeW (T:Bool×List (List Nat×List Nat)) (B:List Nat) (ds:List Nat) (l l':List Bool) (i:Nat):Bool:=T.1&&freeT T.2 l i&&readyAt T.2 l i&&closedT T.2 l&&lastW T.2 B l ds i&&(l.set i true==l')
theorem take_ofW {B:List Nat} (hT:rtab md ops=T) (hB:waitsOk T.2 B=true) (h:takeW T B ds l.toList l'.toList i=true):takeB md ops ds l l' i=true:=by
  refine take_of hT ?_
  simp only[takeW,takeT,Bool.and_eq_true]at h ⊢
  obtain⟨⟨⟨⟨⟨h1,h2⟩,h3⟩,h4⟩,h5⟩,h6⟩:=h
  refine⟨⟨⟨⟨⟨h1,h2⟩,h3⟩,h4⟩,?_⟩,h6⟩
  unfold lastW at h5
  unfold lastT
  rw[List.all_eq_true]at h5 ⊢
  intro d hd
  have h7:=h5 d hd
  rw[Bool.or_eq_true,Bool.and_eq_true,decide_eq_true_eq]at h7
  rcases h7 with h7|⟨h8,h9⟩
  · rw[h7,Bool.true_or]
  · rw[reach_bit hB _ d h8 h8 h9,Bool.or_true]
theorem with_tabW {P:Program} {Q:Exit→Act→World→Prop} {S:World→Prop} {n:Nat} {a:Act} {w:World} {B:List Nat} (hT:rtab md ops=T) (hB:waitsOk T.2 B=true) (h:Aside0 (rtab md ops=T)→Aside0 (waitsOk T.2 B=true)→wpAnyLast P md ops Q S ds n l a w):wpAnyLast P md ops Q S ds n l a w:=h ⟨hT⟩ ⟨hB⟩
end
def opsIn : Code → Nat → Option (Array Oper)
  | .region id ops _,k=>if id==k then some ops else none
  | .seq a b, k => match opsIn a k with
    |some o=>some o
    |none=>opsIn b k
  | .cond _ a b, k => match opsIn a k with
    |some o=>some o
    |none=>opsIn b k
  | .block _ c,k=>opsIn c k
  | .loop c,k=>opsIn c k
  | .scope c,k=>opsIn c k
  | .rangeFunc _ _ a b, k => match opsIn a k with
    |some o=>some o
    |none=>opsIn b k
  |_,_=>none
def opsOf (f:Func) (k:Nat):Array Oper:=((f.body.bind fun c=>opsIn c k)).getD #[]
end Go.Proofs.YtdihlgkcpooadaaW.PrintLast
end
section
namespace Go.Proofs.YtdihlgkcpooadaaW.PrintLast
section
variable {P:Program} {ops:Array Oper} {Q:Exit→Act→World→Prop} {md:Region.Mode} {S:World→Prop} {ds:List Nat} {T:Bool×List (List Nat×List Nat)}
end
end Go.Proofs.YtdihlgkcpooadaaW.PrintLast
end
section
namespace Go.Proofs.YtdihlgkcpooadaaW.PrintWords
open Go.RowKit
namespace Kd
section
variable {α:Type} {d:Kd α} {W:World} {g n:Nat} {S ok:Nat→Prop} {A:Option Addr} {ad:Addr} {xs:List α}
end
end Kd
end Go.Proofs.YtdihlgkcpooadaaW.PrintWords
end
section
namespace Go.Proofs.YtdihlgkcpooadaaW.PrintWords
open Go.RowKit
section
variable {w w' u:World} {m B g:Nat} {o:Obj} {row:Option Nat} {S:Nat→Prop} {a:Addr} {v:Value}
end
namespace Kd
section
variable {α:Type} {d:Kd α} {e base n m:Nat} {ok:Nat→Prop} {w w':World} {v:Value} {A:Option Addr} {xs:List α}
end
end Kd
end Go.Proofs.YtdihlgkcpooadaaW.PrintWords
end
section
namespace Go.Proofs.YtdihlgkcpooadaaW.PrintWords
open Go.RowKit
section
variable {P:Program} {d:Nat} {xs ys:Array Value} {f:Field} {fs:List Field} {a b:Value} {r s:Bool} {w:World}
end
end Go.Proofs.YtdihlgkcpooadaaW.PrintWords
end
section
namespace Go.Proofs.YtdihlgkcpooadaaW.PrintWords
theorem Reps.one {α:Type} {R:α→List Value→Prop} {ps:List α} {cs:List Value} {p:α} {v:Value} (hp:R p [v]) (h:Reps R 1 ps cs):Reps R 1 (p::ps) (v::cs):=by
  refine⟨by simp[h.1],fun j q hq=>?_⟩
  cases j with
  |zero=>
    simp only[List.getElem?_cons_zero,Option.some.injEq]at hq
    subst hq
    simpa using hp
  |succ j=>
    simp only[List.getElem?_cons_succ]at hq
    have h1:=h.2 j q hq
    simpa[Nat.mul_one]using h1
theorem Reps.front {α:Type} {R:α→List Value→Prop} {size:Nat} {ps:List α} {cs c all:List Value} {p:α} (hp:R p c) (hc:c.length=size) (h:Reps R size ps cs) (ha:c++cs=all):Reps R size (p::ps) all:=by
  subst ha
  refine⟨by rw[List.length_append,hc,h.1,List.length_cons,Nat.succ_mul,Nat.add_comm],fun j q hq=>?_⟩
  cases j with
  |zero=>
    simp only[List.getElem?_cons_zero,Option.some.injEq]at hq
    subst hq
    rw[Nat.zero_mul,List.drop_zero,List.take_append_of_le_length (by omega),List.take_of_length_le (by omega)]
    exact hp
  |succ j=>
    simp only[List.getElem?_cons_succ]at hq
    have h1:=h.2 j q hq
    rw[Nat.succ_mul,List.drop_append,List.drop_of_length_le (by rw[hc];exact Nat.le_add_left _ _),List.nil_append,hc,Nat.add_sub_cancel]
    exact h1
theorem Reps.c2 {α:Type} {R:α→List Value→Prop} {ps:List α} {cs:List Value} {p:α} {va vb:Value} (hp:R p [va,vb]) (h:Reps R 2 ps cs):Reps R 2 (p::ps) (va::vb::cs):=Reps.front hp rfl h rfl
theorem Reps.c3 {α:Type} {R:α→List Value→Prop} {ps:List α} {cs:List Value} {p:α} {va vb vc:Value} (hp:R p [va,vb,vc]) (h:Reps R 3 ps cs):Reps R 3 (p::ps) (va::vb::vc::cs):=Reps.front hp rfl h rfl
theorem Reps.c4 {α:Type} {R:α→List Value→Prop} {ps:List α} {cs:List Value} {p:α} {va vb vc vd:Value} (hp:R p [va,vb,vc,vd]) (h:Reps R 4 ps cs):Reps R 4 (p::ps) (va::vb::vc::vd::cs):=Reps.front hp rfl h rfl
theorem Reps.c5 {α:Type} {R:α→List Value→Prop} {ps:List α} {cs:List Value} {p:α} {va vb vc vd ve:Value} (hp:R p [va,vb,vc,vd,ve]) (h:Reps R 5 ps cs):Reps R 5 (p::ps) (va::vb::vc::vd::ve::cs):=Reps.front hp rfl h rfl
theorem Reps.c6 {α:Type} {R:α→List Value→Prop} {ps:List α} {cs:List Value} {p:α} {va vb vc vd ve vf:Value} (hp:R p [va,vb,vc,vd,ve,vf]) (h:Reps R 6 ps cs):Reps R 6 (p::ps) (va::vb::vc::vd::ve::vf::cs):=Reps.front hp rfl h rfl
theorem Reps.c7 {α:Type} {R:α→List Value→Prop} {ps:List α} {cs:List Value} {p:α} {va vb vc vd ve vf vg:Value} (hp:R p [va,vb,vc,vd,ve,vf,vg]) (h:Reps R 7 ps cs):Reps R 7 (p::ps) (va::vb::vc::vd::ve::vf::vg::cs):=Reps.front hp rfl h rfl
theorem Reps.c8 {α:Type} {R:α→List Value→Prop} {ps:List α} {cs:List Value} {p:α} {va vb vc vd ve vf vg vh:Value} (hp:R p [va,vb,vc,vd,ve,vf,vg,vh]) (h:Reps R 8 ps cs):Reps R 8 (p::ps) (va::vb::vc::vd::ve::vf::vg::vh::cs):=Reps.front hp rfl h rfl
theorem Reps.c9 {α:Type} {R:α→List Value→Prop} {ps:List α} {cs:List Value} {p:α} {va vb vc vd ve vf vg vh vi:Value} (hp:R p [va,vb,vc,vd,ve,vf,vg,vh,vi]) (h:Reps R 9 ps cs):Reps R 9 (p::ps) (va::vb::vc::vd::ve::vf::vg::vh::vi::cs):=Reps.front hp rfl h rfl
theorem Reps.c10 {α:Type} {R:α→List Value→Prop} {ps:List α} {cs:List Value} {p:α} {va vb vc vd ve vf vg vh vi vj:Value} (hp:R p [va,vb,vc,vd,ve,vf,vg,vh,vi,vj]) (h:Reps R 10 ps cs):Reps R 10 (p::ps) (va::vb::vc::vd::ve::vf::vg::vh::vi::vj::cs):=Reps.front hp rfl h rfl
end Go.Proofs.YtdihlgkcpooadaaW.PrintWords
end
section
namespace Go.Proofs.YtdihlgkcpooadaaW.PrintLast
def up (b:Nat→Bool) (i:Nat):Nat→Bool:=fun j=>if j=i then true else b j
section
variable {P:Program} {ops:Array Oper} {Q:Exit→Act→World→Prop} {md:Region.Mode} {T:Bool×List (List Nat×List Nat)} {B:List Nat} {O:List Nat} {b:Nat→Bool} {i j n:Nat}
end
end Go.Proofs.YtdihlgkcpooadaaW.PrintLast
end
section
namespace Go.Proofs.YtdihlgkcpooadaaW.PrintWords
open Go.RowKit
end Go.Proofs.YtdihlgkcpooadaaW.PrintWords
namespace Go.Proofs.YtdihlgkcpooadaaW.PrintLast
section
variable {ops:Array Oper} {a:Act} {o og:Oper} {g:Nat} {t:Tmp} {u:Bool}
end
end Go.Proofs.YtdihlgkcpooadaaW.PrintLast
end
section
namespace Go.Proofs.YtdihlgkcpooadaaW.PrintWords
open Go.RowKit
section
variable {P:Program} {ops:Array Oper} {rest:List Oper} {o:Oper} {a:Act} {Q:Exit→Act→World→Prop} {W:World}
theorem gate_guard (hw:Region.wanted o (yielded ops a.tmps)=true) (h:wpList P ops Q ({o with guard:=none}::rest) a W):wpList P ops Q (o::rest) a W:=by
  have h1:Region.wanted {o with guard:=none} (yielded ops a.tmps)=true:=rfl
  unfold wpList at h ⊢
  rw[if_pos h1]at h
  rw[if_pos hw]
  exact h
end
end Go.Proofs.YtdihlgkcpooadaaW.PrintWords
end
section
namespace Go.Proofs.YtdihlgkcpooadaaG
open Go.RowKit Go.Proofs.YtdihlgkcpooadaaW.PrintWords Go.Proofs.YtdihlgkcpooadaaW.PrintLast Go.Proofs.YtdihlgkcpooadaaW.PrintMore
set_option linter.unusedVariables false
theorem zI {α:Type} {a b:α} (h:some a=some b):a=b:=Option.some.inj h
theorem zT {p:Prop} [Decidable p] (h:p):decide p=true:=decide_eq_true h
theorem zF {p:Prop} [Decidable p] (h:¬p):decide p=false:=decide_eq_false h
theorem zB {b:Bool} (h:¬b=true):b=false:=Bool.eq_false_iff.mpr h
theorem zE {α:Type} [BEq α] [LawfulBEq α] {a b:α} (h:a=b):(a==b)=true:=beq_iff_eq.mpr h
theorem zN {α:Type} [BEq α] [LawfulBEq α] {a b:α} (h:¬a=b):(a==b)=false:=beq_eq_false_iff_ne.mpr h
theorem zX {α:Type} [BEq α] [LawfulBEq α] {a b:α} (h:¬a=b):(a !=b)=true:=bne_iff_ne.mpr h
theorem zY {α:Type} [BEq α] [LawfulBEq α] {a b:α} (h:a=b):(a !=b)=false:=bne_eq_false_iff_eq.mpr h
theorem zM {p:Prop} (h:p):Aside0 p:=⟨h⟩
theorem zC {α:Type} {d:Kd α} {w w1:World} {xs:List α} {A:Option Addr} {n:Nat} (h:d.C w A n xs) (hb:Below w.heap.size w w1):d.C w1 A n xs:=Kd.C_below h hb
theorem zzA {p:Prop} [Decidable p] (h:decide p=true:=by first|(with_reducible assumption)|assumption):p:=of_decide_eq_true h
theorem zzR {w W:World} (h:Below w.heap.size w W:=by repeat(first|(with_reducible first|exact Aside0.out (by assumption)|apply below_alloc|apply pw_below_drewN|apply below_drew1|refine below_set ?_ (Aside0.out (by assumption)))|exact Aside0.out (by assumption))):Below w.heap.size w W:=h
theorem zL (w:World) (a:Addr) {u:Value} (h:w.cell? a=some u):a.block<w.heap.size:=World.block_lt_of_cell? w a h
theorem sRF4 {α:Type} {d:Kd α} {e base g:Nat} {w:World} {ok:Nat→Prop} {v:Value} {xs:List α} {u0 u1 u2 u3:Value} (h:d.R e w base ok v xs) (hok:∀k,ok k→k≠g):d.R e ((((w.setCell ⟨g,0,none⟩ u0).setCell ⟨g,1,none⟩ u1).setCell ⟨g,2,none⟩ u2).setCell ⟨g,3,none⟩ u3) base ok v xs:=(Kd.R_far (p:=⟨g,3,none⟩) (Kd.R_far (p:=⟨g,2,none⟩) (Kd.R_far (p:=⟨g,1,none⟩) (Kd.R_far (p:=⟨g,0,none⟩) h hok u0) hok u1) hok u2) hok u3)
theorem sRF5 {α:Type} {d:Kd α} {e base g:Nat} {w:World} {ok:Nat→Prop} {v:Value} {xs:List α} {u0 u1 u2 u3 u4:Value} (h:d.R e w base ok v xs) (hok:∀k,ok k→k≠g):d.R e (((((w.setCell ⟨g,0,none⟩ u0).setCell ⟨g,1,none⟩ u1).setCell ⟨g,2,none⟩ u2).setCell ⟨g,3,none⟩ u3).setCell ⟨g,4,none⟩ u4) base ok v xs:=(Kd.R_far (p:=⟨g,4,none⟩) (Kd.R_far (p:=⟨g,3,none⟩) (Kd.R_far (p:=⟨g,2,none⟩) (Kd.R_far (p:=⟨g,1,none⟩) (Kd.R_far (p:=⟨g,0,none⟩) h hok u0) hok u1) hok u2) hok u3) hok u4)
theorem zQ:¬(false=true):=by decide
theorem zP:(∀(a:Act) (dst:Option Tmp) (v:Value),a.put dst v=match dst with|some d=>{a with tmps:=a.tmps.setIfInBounds d v}|none=>a)∧(∀{α:Type} (l:List α) (i:Nat) (a:α),l.toArray.setIfInBounds i a=(l.set i a).toArray)∧(∀{α:Type} (x:α) (l:List α) (a:α),List.set (x::l) 0 a=a::l)∧(∀{α:Type} (x:α) (l:List α) (n:Nat) (a:α),List.set (x::l) (n+1) a=x::l.set n a):=
  ⟨fun _ _ _=>rfl,fun l i a=>List.setIfInBounds_toArray l i a,fun _ _ _=>rfl,fun _ _ _ _=>rfl⟩
end Go.Proofs.YtdihlgkcpooadaaG
end
