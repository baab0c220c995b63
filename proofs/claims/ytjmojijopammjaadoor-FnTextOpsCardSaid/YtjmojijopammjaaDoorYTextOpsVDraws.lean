/- What the drawing functions come to: always something. No condition. -/
import Derived.Test.YtjmojijopammjaaDoorYToW3
import Derived.Laws.BitsLemmas
import Derived.Test.YtjmojijopammjaaDoorYToP0
import Derived.Test.YtjmojijopammjaaDoorYToP1
namespace Go.Proofs.YtjmojijopammjaaDoor.PureFnTextOps
open Go.RowKit Go.Proofs.YtjmojijopammjaaDoorG Go.Proofs.YtjmojijopammjaaDoor.PFnTextOps Go.Proofs.YtjmojijopammjaaDoorW.PrintWords Go.Proofs.YtjmojijopammjaaDoorW.PrintLast Go.Proofs.YtjmojijopammjaaDoorW.PrintMore
set_option linter.unusedSimpArgs false
set_option linter.unusedVariables false
def bytesP (l:List Int):Prop:=∀x,x∈l→0≤x∧x≤255
theorem u64w (n:Int):IntKind.u64.wrap n=n%18446744073709551616:=by simp[IntKind.wrap,IntKind.bits,IntKind.signed]
theorem and255 (n:Int):0≤wrap64 (Go.bits .and .u64 (IntKind.u64.wrap n/1099511627776) 255)∧wrap64 (Go.bits .and .u64 (IntKind.u64.wrap n/1099511627776) 255)≤255:=by
  have h0:0≤IntKind.u64.wrap n/1099511627776∧IntKind.u64.wrap n/1099511627776<16777216:=by rw[u64w];omega
  have e:=Go.bits_mask .u64 24 (by decide) (fun m h h1=>by rw[u64w];omega) 8 (by decide) _ h0.1 (by simpa using h0.2)
  have e2:Go.bits .and .u64 (IntKind.u64.wrap n/1099511627776) 255=(IntKind.u64.wrap n/1099511627776)%256:=by simpa using e
  rw[e2]
  unfold wrap64
  omega
theorem next_ok (l:List Int) (hb:bytesP l) (hl:l.length≤1048576) (p sd:Int) (h0:0≤p) (h1:p≤2000000):∃v sd',spec_l00Src_next.f l p sd=some (v,p+1,sd')∧0≤v∧v≤255:=by
  have w:wrap64 (p+1)=p+1:=wrap_id (by omega) (by omega)
  simp only[spec_l00Src_next.f,w]
  by_cases c:p<(l.length:Int)
  · rw [if_pos c, if_pos h0, if_pos (by omega)]
    obtain⟨i,rfl⟩:∃i:Nat,p=i:=⟨p.toNat,by omega⟩
    have hr:=hb (rd l (i:Int)) (by rw[rd_get l i (by omega)];exact List.getElem_mem _)
    exact⟨_,_,rfl,by rw[wrap_id (by omega) (by omega)];omega,by rw[wrap_id (by omega) (by omega)];omega⟩
  · rw [if_neg c, if_neg (by omega)]
    exact⟨_,_,rfl,(and255 _).1,(and255 _).2⟩
theorem pick_ok (l:List Int) (hb:bytesP l) (hl:l.length≤1048576) (p sd:Int) (h0:0≤p) (h1:p≤2000000) (n:Int) (h2:2≤n) (h3:n≤200):∃v sd',spec_l00Src_pick.f l p sd n=some (v,p+1,sd')∧0≤v∧v<n:=by
  obtain⟨v,sd',e,hv,_⟩:=next_ok l hb hl p sd h0 h1
  simp only[spec_l00Src_pick.f]
  rw[if_neg (by omega),e,Option.bind_some,if_neg (by omega),if_neg (by omega)]
  exact⟨_,_,rfl,Int.tmod_nonneg _ hv,Int.tmod_lt_of_pos _ (by omega)⟩
theorem one_ok (l:List Int) (hb:bytesP l) (hl:l.length≤1048576) (p sd:Int) (h0:0≤p) (h1:p≤2000000) (n:Int) (h2:2≤n) (h3:n≤200):∃v sd',spec_l00Src_one.f l p sd n=some (v,p+1,sd'):=by
  obtain⟨v,sd',e,_⟩:=pick_ok l hb hl p sd h0 h1 n h2 h3
  simp only[spec_l00Src_one.f]
  rw[e,Option.bind_some]
  exact⟨_,_,rfl⟩
theorem among_ok (l:List Int) (hb:bytesP l) (hl:l.length≤1048576) (p sd:Int) (h0:0≤p) (h1:p≤2000000) (xs:List Int) (h2:2≤xs.length) (h3:xs.length≤200):∃v sd',spec_l00Src_among.f l p sd xs=some (v,p+1,sd'):=by
  obtain⟨v,sd',e,hv,hv1⟩:=pick_ok l hb hl p sd h0 h1 (xs.length:Int) (by omega) (by omega)
  simp only[spec_l00Src_among.f]
  rw[e,Option.bind_some,if_pos hv,if_pos hv1]
  exact⟨_,_,rfl⟩
theorem text_ok (l:List Int) (hb:bytesP l) (hl:l.length≤1048576) (p sd:Int) (h0:0≤p) (h1:p≤2000000) (xs:List ByteArray) (h2:2≤xs.length) (h3:xs.length≤200) (h4:∀x,x∈xs→x.size≤10):∃t sd',spec_l00Src_text.f l p sd xs=some (t,p+1,sd')∧t.size≤10:=by
  obtain⟨v,sd',e,hv,hv1⟩:=pick_ok l hb hl p sd h0 h1 (xs.length:Int) (by omega) (by omega)
  simp only[spec_l00Src_text.f]
  rw[e,Option.bind_some]
  dsimp only
  rw[if_pos hv,if_pos hv1]
  obtain⟨i,rfl⟩:∃i:Nat,v=i:=⟨v.toNat,by omega⟩
  refine⟨_,_,rfl,?_⟩
  rw[rdOf_get _ _ i (by omega)]
  exact h4 _ (List.getElem_mem _)
end Go.Proofs.YtjmojijopammjaaDoor.PureFnTextOps
