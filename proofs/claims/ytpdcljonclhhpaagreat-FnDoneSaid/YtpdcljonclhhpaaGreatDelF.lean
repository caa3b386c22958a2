/- slices.DeleteFunc with a function that asks whether an element's first cell is a variable's: the runs. -/
import Derived.Test.YtpdcljonclhhpaaGreatDelWant
import Derived.Test.YtpdcljonclhhpaaGreatDelHeld
set_option linter.unusedVariables false
set_option linter.unusedSimpArgs false
namespace Go.Proofs.YtpdcljonclhhpaaGreat.Ev
open Go.RowKit Go.Lib Go.Sort
theorem C1G{a c:World}(h:a.grownBy c none)(row:Option Nat):a.grownBy c row:=⟨h.os,h.tape,h.output,h.size,fun i hi _=>h.block i hi (by simp)⟩
def kept(who:Nat->Int)(atv:Int):Nat->List Nat
 | 0=> []
 | n+1=>kept who atv n++(if who n=atv then [] else [n])
theorem C1H(who:Nat->Int)(atv:Int):∀ n,(kept who atv n).length<=n
 | 0=>Nat.le_refl _
 | n+1=>by
  have:=C1H who atv n;simp only [kept,List.length_append];split<;>simp<;>omega
theorem B9j{who:Nat->Int}{atv:Int}:∀ {n:Nat},(∀ q,q<n->who q≠atv)->kept who atv n=List.range n
 | 0,_=>rfl
 | n+1,h=>by
  rw [kept,B9j (fun q hq=>h q (by omega)),if_neg (h n (by omega)),List.range_succ]
theorem B29{α:Type}(l:List α)(sz:Nat):∀ m,m*sz<=l.length->(List.range m).flatMap (fun q=>(l.drop (q*sz)).take sz)=l.take (m*sz)
 | 0,_=>by simp
 | m+1,h=>by
  have h':m*sz+sz<=l.length:=by rw [<- Nat.succ_mul];exact h
  rw [List.range_succ,List.flatMap_append,B29 l sz m (by omega),Nat.succ_mul,List.take_add];simp
theorem D6W(w:World)(cs ds:Array Value)(t:TypeId):(w.alloc (.cells cs t)).setRow w.heap.size ds=w.alloc (.cells ds t):=by
 have h:(w.heap.push (Obj.cells cs t)).modify w.heap.size (fun
   | .cells _ elem frozen=>.cells ds elem frozen
   | o=>o)=w.heap.push (Obj.cells ds t):=by
  refine Array.ext_getElem? fun i=>?_
  rw [Array.getElem?_modify];by_cases hi:w.heap.size=i
  ·subst hi;simp
  ·rw [if_neg hi];rcases Nat.lt_or_gt_of_ne hi with h | h
   ·rw [Array.getElem?_eq_none (by simp;omega),Array.getElem?_eq_none (by simp;omega)]
   ·rw [Array.getElem?_push_lt (by omega),Array.getElem?_push_lt (by omega)]
 exact congrArg (fun a=>({w with heap:=a}:World)) h
theorem A6R{P:Program}(w:World)(cs:Array Value)(t:TypeId)(i:Nat)(v:Value)(hi:i<cs.size)(h1:v.oneCell' = true) :
  (store ⟨w.heap.size,i,none⟩ v).run P (w.alloc (.cells cs t))=.ok () (w.alloc (.cells (cs.setIfInBounds i v) t)):=by
 have hg:(w.alloc (.cells cs t)).heap[w.heap.size]? = some (.cells cs t (0,0)):=heap_alloc_new w _;have hcell:(w.alloc (.cells cs t)).cell? ⟨w.heap.size,i,none⟩=some cs[i]:=by rw [cell_of_row _ _ i cs t (0,0) hg];exact Array.getElem?_eq_getElem hi
 have hfro:(w.alloc (.cells cs t)).frozen? ⟨w.heap.size,i,none⟩=false:=Thawed.not hg (.inl rfl) hi;rw [run_store P _ _ v _ h1,hcell];simp only [hfro,setCell_eq_setRow _ w.heap.size i cs t (0,0) v hg,D6W];rfl
theorem A6S{P:Program}(w:World)(g:Nat)(cs:Array Value)(t:TypeId)(fz:Nat×Nat)(hg:w.heap[g]? = some (.cells cs t fz))(hfz:Thawed cs.size fz)(i:Nat)(v:Value)(hi:i<cs.size)(h1:v.oneCell' = true) :
  (store ⟨g,i,none⟩ v).run P w=.ok () (w.setRow g (cs.setIfInBounds i v)):=by
 have hcell:w.cell? ⟨g,i,none⟩=some cs[i]:=by rw [cell_of_row w g i cs t fz hg];exact Array.getElem?_eq_getElem hi
 rw [run_store P _ _ v _ h1,hcell];simp only [Thawed.not hg hfz hi,setCell_eq_setRow w g i cs t fz v hg];rfl
theorem A9v(w:World)(cs:Array Value)(t:TypeId)(i:Nat)(v:Value)(h:cs[i]? = some v):(w.alloc (.cells cs t)).cell? ⟨w.heap.size,i,none⟩=some v:=by
 have hg:(w.alloc (.cells cs t)).heap[w.heap.size]? = some (.cells cs t (0,0)):=heap_alloc_new w _;rw [cell_of_row _ _ i cs t (0,0) hg];exact h
def C1n:List Value->Nat->List Value->List Value
 | l,_,[]=>l
 | l,o,v::r=>C1n (l.set o v) (o+1) r
theorem D8p:∀ (vs l:List Value) (o:Nat),o+vs.length<=l.length->C1n l o vs=l.take o++vs++l.drop (o+vs.length)
 | [],l,o,h=>by simp [C1n]
 | v::r,l,o,h=>by
  have h2:o+1+r.length<=l.length:=by simp at h;omega
  rw [C1n,D8p r (l.set o v) (o+1) (by simpa using h2)];have e:=list_seg_step l o v r (by simpa using h);simpa [Nat.add_assoc,Nat.add_comm,Nat.add_left_comm] using e
theorem C1I(l l0 cs:List Value)(o p s:Nat)(hs:cs.length=s)(ho:o+s<=l.length)(hop:o<=p)(hd:l.drop p=l0.drop p):(C1n l o cs).take (o+s)=l.take o++cs/\(C1n l o cs).drop (p+s)=l0.drop (p+s):=by
 have hA:(l.take o++cs).length=o+s:=by rw [List.length_append,List.length_take,hs];omega
 rw [D8p cs l o (by omega),hs];refine ⟨List.take_left' hA,?_⟩;rw [show p+s=(l.take o++cs).length+(p-o) by omega,<- List.drop_drop,List.drop_left,List.drop_drop,hA,show o+s+(p-o)=p+s by omega,<- List.drop_drop,hd,List.drop_drop]
theorem D6a{who:Nat->Int}{atv:Int}{m:Nat}(h:who m=atv):∀ {j:Nat},m<j->(kept who atv j).length<j
 | j+1,hm=>by
  simp only [kept,List.length_append];by_cases e:m=j
  ·subst e;have:=C1H who atv m;rw [if_pos h];simp;omega
  ·have:=D6a h (j:=j) (by omega);split<;>simp<;>omega
theorem C1J(w:World)(g:Nat)(ds:Array Value){cs:Array Value}{t:TypeId}{fz:Nat×Nat}(hg:w.heap[g]? = some (.cells cs t fz)):w.grownBy (w.setRow g ds) (some g):=
 ⟨rfl,rfl,rfl,by simp [World.setRow],fun k _ hk=>setRow_other w g k ds (fun e=>hk (by rw [e]))⟩
structure E3c (sz el:Nat) (w wr:World) (g:Nat) (fz:Nat×Nat) (cur:Array Value) (who:Nat->Int) (atv:Int) (j:Nat):Prop where
 grown:w.grownBy wr (some g)
 row:∃ cur':Array Value,wr.heap[g]? = some (.cells cur' el fz)/\cur'.size=cur.size/\cur'.toList.take ((kept who atv j).length*sz)=((kept who atv j).flatMap fun q=>(cur.toList.drop (q*sz)).take sz)/\cur'.toList.drop (j*sz)=cur.toList.drop (j*sz)
theorem B9k{who:Nat->Int}{atv:Int}:∀ {n a q:Nat},(kept who atv n)[a]? = some q->q<n/\who q≠atv/\(kept who atv q).length=a
 | 0,a,q,h=>by simp [kept] at h
 | n+1,a,q,h=>by
  simp only [kept] at h;rcases Nat.lt_or_ge a (kept who atv n).length with ha | ha
  ·rw [List.getElem?_append_left ha] at h;obtain ⟨h1,h2,h3⟩:=B9k h;exact ⟨by omega,h2,h3⟩
  ·rw [List.getElem?_append_right ha] at h;split at h
   ·simp at h
   ·rename_i hw;have h0:=(List.getElem?_eq_some_iff.1 h).1;simp at h0;have e:a-(kept who atv n).length=0:=by omega
    rw [e] at h;simp at h;subst h;exact ⟨by omega,hw,by omega⟩
theorem rdn{k:K}{xs:List k.T}{i:Nat}(h:i<xs.length):rd k xs (i:Int)=xs[i]:=by
 unfold rd;rw [Int.toNat_natCast];simp [List.getD,h]
theorem B9l{k2:K}(xs:List (K.pair (.int .i64) k2).T)(atv:Int):∀ m,m<=xs.length->(xs.take m).filter (fun a:Int×k2.T=>!decide (a.1=atv))=(kept (fun q:Nat=>(rd (.pair (.int .i64) k2) xs (q:Int)).1) atv m).map fun q:Nat=>rd (.pair (.int .i64) k2) xs (q:Int)
 | 0,_=>rfl
 | m+1,h=>by
  have hm:m<xs.length:=h;rw [List.take_succ_eq_append_getElem hm,List.filter_append,B9l xs atv m (by omega)];have hr:=rdn (k:=.pair (.int .i64) k2) (xs:=xs) hm;have hk:kept (fun q:Nat=>(rd (.pair (.int .i64) k2) xs (q:Int)).1) atv (m+1)=kept (fun q:Nat=>(rd (.pair (.int .i64) k2) xs (q:Int)).1) atv m++(if (rd (.pair (.int .i64) k2) xs (m:Int)).1=atv then [] else [m]):=rfl;rw [hk,List.map_append,hr]
  congr 1
  by_cases e:(show Int from (xs[m]).1)=atv
  ·rw [if_pos e,List.filter_cons_of_neg (by simpa using e)];rfl
  ·rw [if_neg e,List.filter_cons_of_pos (by simpa using e)];simp only [List.map_cons,List.map_nil,hr];rfl
theorem D6b{α:Type}(f:Nat->List α)(s:Nat):∀ (l:List Nat),(∀ q∈l,(f q).length=s)->∀ {a q:Nat},l[a]? = some q->((l.flatMap f).drop (a*s)).take s=f q
 | [],_,a,q,h=>by simp at h
 | x::l,hl,0,q,h=>by
  simp at h;subst h;rw [List.flatMap_cons,Nat.zero_mul,List.drop_zero,List.take_left' (hl _ List.mem_cons_self)]
 | x::l,hl,a+1,q,h=>by
  have hx:=hl x List.mem_cons_self;rw [List.flatMap_cons,Nat.succ_mul,Nat.add_comm,<- List.drop_drop,List.drop_left' hx];exact D6b f s l (fun q hq=>hl q (List.mem_cons_of_mem _ hq)) (by simpa using h)
def dF(who:Nat->Int)(atv:Int):F2->Option F2
 | []=>some [2*5000]
 | a::q=>if who a=atv then none else some (2*5000::(kept who atv a).length::q)
theorem D1g(cs:List Value)(h:cs.length=3):∃ c0 c1 c2,cs = [c0,c1,c2]:=match cs,h with
 | [c0,c1,c2],_=>⟨c0,c1,c2,rfl⟩
set_option maxHeartbeats 4000000 in
set_option maxRecDepth 1000000 in
theorem C1o(W:World)(who atv:Int)(rest:List Value)(hl:rest.length+1=3)(h1:∀ u∈rest,u.oneCell' = true)(ad:Addr)(hc:W.cell? ad=some (.int .i64 atv)) :
  Calls Tryz.prog 264 #[.agg (Value.int .i64 who::rest).toArray,.pointer (some ad)] W fun e w'=>e=.returned (.bool (decide (who=atv)))/\W.grownBy w' none:=by
 have mixed:Tryz.prog.follows .mixedOrders=true:=by kernel_rfl
 have t3:=Tryz.underlying3;have a3:=Tryz.isAgg3;have z3:=Tryz.sizeOf3;have v3:=Tryz.zeroValue3;have t4:=Tryz.underlying4;have a4:=Tryz.isAgg4;have z4:=Tryz.sizeOf4;have v4:=Tryz.zeroValue4;have tE:=Tryz.underlying130;have aE:=Tryz.isAgg130;have zE:=Tryz.sizeOf130;have vE:=Tryz.zeroValue130;have hc2:(W.alloc (.cells (Value.int IntKind.i64 who::rest).toArray 130)).cell? ad=some (.int .i64 atv):=(World.grownBy_alloc W _ none).cell hc (by simp)
 go_enter Tryz.func264,Tryz.ntmps264
 go_wp2
 go_ret
 exact ⟨rfl,World.grownBy_alloc W _ none⟩
set_option maxHeartbeats 4000000 in
set_option maxRecDepth 1000000 in
theorem D1h(g n cap:Nat)(w:World)(hn:n<=cap)(hm:cap<=9223372036854775807)(cur:Array Value)(fz:Nat×Nat)(hg:w.heap[g]? = some (.cells cur 130 fz))(hcs:cur.size=cap*3)
  (who:Nat->Int) (atv:Int) (hel:∀ q,q<n->∃ rest:List Value,(cur.toList.drop (q*3)).take 3=.int .i64 (who q)::rest/\rest.length+1=3/\∀ u∈rest,u.oneCell' = true) (ad:Addr) (hc:w.cell? ad=some (.int .i64 atv)) :
  Calls Tryz.prog 299 #[.slice (some ⟨g,0,none⟩) n cap,.func (.func 264) #[] #[.pointer (some ad)]] w fun e w'=>w.grownBy w' none/\
   ∃ m:Nat,m<=n/\(∀ q,q<m->who q≠atv)/\((m=n/\e=.returned (.int .i64 (-1)))\/(m<n/\who m=atv/\e=.returned (.int .i64 m))):=by
 have mixed:Tryz.prog.follows .mixedOrders=true:=by kernel_rfl
 have t3:=Tryz.underlying3;have a3:=Tryz.isAgg3;have z3:=Tryz.sizeOf3;have v3:=Tryz.zeroValue3;have t4:=Tryz.underlying4;have a4:=Tryz.isAgg4;have z4:=Tryz.sizeOf4;have v4:=Tryz.zeroValue4;have tS:=Tryz.underlying30;have aS:=Tryz.isAgg30;have zS:=Tryz.sizeOf30;have vS:=Tryz.zeroValue30;have aE:=Tryz.isAgg130;have zE:=Tryz.sizeOf130;have vE:=Tryz.zeroValue130;have hgl:g<w.heap.size:=(Array.getElem?_eq_some_iff.1 hg).1;have hrow:∀ (W:World),w.grownBy W none->∀ j,j<n->∀ i v,((cur.toList.drop (j*3)).take 3)[i]? = some v->W.cell? ⟨g,j*3+i,none⟩=some v:=fun W hW j hj i v hi=>by
  have hlen:((cur.toList.drop (j*3)).take 3).length=3:=by rw [List.length_take,List.length_drop,Array.length_toList];omega
  refine hW.cell ?_ (by simp);have hi2:i<3:=by have:=(List.getElem?_eq_some_iff.1 hi).1;omega
  rw [List.getElem?_take_of_lt hi2,List.getElem?_drop,Array.getElem?_toList] at hi;rw [cell_of_row w g _ cur 130 fz hg];exact hi
 have hel3:∀ j,j<n->((cur.toList.drop (j*3)).take 3).length=3:=fun j hj=>by rw [List.length_take,List.length_drop,Array.length_toList];omega
 have ask:∀ (W:World),w.grownBy W none->∀ j,j<n->Calls Tryz.prog 264 #[.agg ((cur.toList.drop (j*3)).take 3).toArray,.pointer (some ad)] W fun e w'=>e=.returned (.bool (decide (who j=atv)))/\W.grownBy w' none:=fun W hW j hj=>by
  obtain ⟨rest,e1,e2,e3⟩:=hel j hj;rw [e1];exact C1o W (who j) atv rest e2 e3 ad (hW.cell hc (by simp))
 have eg:∀ args w,(callFunc 264 args).run Tryz.prog w=.ok (.enter 264 args) w:=Tryz.call264
 clear hg hcs hel hc
 go_enter Tryz.func299,Tryz.ntmps299
 go_wp2
 go_loopg [5,8] n (fun gg _ s8 wr=>∃ kk:Nat,kk<=n/\n-kk<=gg/\s8=.int .i64 kk/\Aside (w.grownBy wr none)/\Aside (∀ j,j<kk->who j≠atv))
 case atStart=>exact ⟨0,Nat.zero_le _,by omega,rfl,World.grownBy.refl w none,fun j hj=>absurd hj (Nat.not_lt_zero _)⟩
 case round=>
  obtain ⟨kk,hkk,hg,rfl,BW,A⟩:=hrel;by_cases hlt:kk<n
  ·have hltz:(kk:Int)<(n:Int):=by omega
   obtain ⟨c0,c1,c2,hce⟩:=D1g _ (hel3 kk hlt);have l2:=hrow wr BW.out kk hlt;have hcall:=ask wr BW.out kk hlt;rw [hce] at l2 hcall;have l2_0:wr.cell? ⟨g,kk*3,none⟩=some c0:=l2 0 c0 rfl;have l2_1:wr.cell? ⟨g,kk*3+1,none⟩=some c1:=l2 1 c1 rfl;have l2_2:wr.cell? ⟨g,kk*3+2,none⟩=some c2:=l2 2 c2 rfl
   clear hrow ask l2 hel3 hce
   by_cases hq:who kk=atv
   ·rw [decide_eq_true hq] at hcall
    go_wp2_with (go_at_fn 264;refine hcall.mono ?_;rintro e w' ⟨rfl,hb'⟩)
    go_ret
    exact ⟨BW.out.andThen hb' (fun j hj=>by cases hj),kk,by omega,A.out,.inr ⟨hlt,hq,rfl⟩⟩
   ·rw [decide_eq_false hq] at hcall
    go_wp2_with (go_at_fn 264;refine hcall.mono ?_;rintro e w' ⟨rfl,hb'⟩)
    go_roundg (n-(kk+1))
    case measure=>omega
    case rel=>
     refine ⟨kk+1,by omega,by omega,by go_num,BW.out.andThen hb' (fun j hj=>by cases hj),(show Aside _ from fun j hj=>?_)⟩;by_cases e:j=kk
     ·subst e;exact hq
     ·exact A.out j (by omega)
  ·have hltz:¬ (kk:Int)<(n:Int):=by omega
   have:kk=n:=by omega
   subst this
   go_wp2
   go_ret
   exact ⟨BW.out,kk,Nat.le_refl _,A.out,.inl ⟨rfl,rfl⟩⟩
set_option maxHeartbeats 4000000 in
set_option maxRecDepth 1000000 in
theorem C6P(g n cap:Nat)(w:World)(hn:n<=cap)(hm:cap<=9223372036854775807)(cur:Array Value)(fz:Nat×Nat)(hg:w.heap[g]? = some (.cells cur 130 fz))(hfz:Thawed cur.size fz)(hcs:cur.size=cap*3)
  (who:Nat->Int) (atv:Int) (hel:∀ q,q<n->∃ rest:List Value,(cur.toList.drop (q*3)).take 3=.int .i64 (who q)::rest/\rest.length+1=3/\∀ u∈rest,u.oneCell' = true) (ad:Addr) (hc:w.cell? ad=some (.int .i64 atv)) (hne:ad.block≠g) :
  Calls Tryz.prog 267 #[.slice (some ⟨g,0,none⟩) n cap,.func (.func 264) #[] #[.pointer (some ad)]] w fun e w'=>w.grownBy w' (some g)/\e=.returned (.slice (some ⟨g,0,none⟩) (kept who atv n).length cap)/\
   ∃ cur':Array Value,w'.heap[g]? = some (.cells cur' 130 fz)/\cur'.size=cur.size/\cur'.toList.take ((kept who atv n).length*3)=(kept who atv n).flatMap fun q=>(cur.toList.drop (q*3)).take 3:=by
 have mixed:Tryz.prog.follows .mixedOrders=true:=by kernel_rfl
 have t3:=Tryz.underlying3;have a3:=Tryz.isAgg3;have z3:=Tryz.sizeOf3;have v3:=Tryz.zeroValue3;have t4:=Tryz.underlying4;have a4:=Tryz.isAgg4;have z4:=Tryz.sizeOf4;have v4:=Tryz.zeroValue4;have tS:=Tryz.underlying30;have aS:=Tryz.isAgg30;have zS:=Tryz.sizeOf30;have vS:=Tryz.zeroValue30;have aE:=Tryz.isAgg130;have zE:=Tryz.sizeOf130;have vE:=Tryz.zeroValue130;have hgl:g<w.heap.size:=(Array.getElem?_eq_some_iff.1 hg).1;have hidx:=D1h g n cap w hn hm cur fz hg hcs who atv hel ad hc;have eix:∀ args w,(callFunc 299 args).run Tryz.prog w=.ok (.enter 299 args) w:=Tryz.call299;have eg:∀ args w,(callFunc 264 args).run Tryz.prog w=.ok (.enter 264 args) w:=Tryz.call264
 go_enter Tryz.func267,Tryz.ntmps267
 go_wp2_with (go_at_fn 299;refine hidx.mono ?_;rintro e w1 ⟨hgw,m,hmn,hnot,hcase⟩;rcases hcase with ⟨rfl,rfl⟩ | ⟨hlt,hit,rfl⟩)
 ·go_wp2
  go_ret
  have hk:=B9j hnot;rw [hk];exact ⟨C1G hgw _,by rw [List.length_range];rfl,cur,(hgw.block g hgl (by simp)).trans hg,rfl,by rw [List.length_range,B29 _ _ _ (by rw [Array.length_toList,hcs];exact Nat.mul_le_mul_right _ hn)]⟩
 ·have hk:kept who atv (m+1)=List.range m:=by rw [kept,B9j hnot,if_pos hit,List.append_nil]
  have S0:E3c 3 130 w w1 g fz cur who atv (m+1):=⟨C1G hgw _,cur,(hgw.block g hgl (by simp)).trans hg,rfl,by rw [hk,List.length_range,B29 _ _ _ (by rw [Array.length_toList,hcs];exact Nat.mul_le_mul_right _ (by omega))],rfl⟩;have hkl:(kept who atv (m+1)).length=m:=by rw [hk,List.length_range]
  have hne1:¬ ((m:Int)=-1):=by omega
  clear hidx
  go_wp2
  go_loopg [5,6,7] n (fun gg s5 s6 _ wr=>∃ j:Nat,m<j/\j<=n/\n-j<=gg/\s5=.int .i64 ((kept who atv j).length:Nat)/\s6=.int .i64 j/\Aside (E3c 3 130 w wr g fz cur who atv j))
  case atStart=>exact ⟨m+1,by omega,by omega,by omega,by rw [hkl],by go_num,S0⟩
  case round=>
   obtain ⟨j,hmj,hjn,hgg,rfl,rfl,S⟩:=hrel;obtain ⟨hgr,cur',hg',hs',htk,hdr⟩:=S.out;have hkj:=C1H who atv j;by_cases hlt2:j<n
   ·have hltz:(j:Int)<(n:Int):=by omega
    have hlen:((cur.toList.drop (j*3)).take 3).length=3:=by rw [List.length_take,List.length_drop,Array.length_toList];omega
    obtain ⟨rest,hr1,hr2,hr3⟩:=hel j hlt2;obtain ⟨c0,c1,c2,hce⟩:=D1g _ hlen;have hrow:∀ i v,[c0,c1,c2][i]? = some v->wr.cell? ⟨g,j*3+i,none⟩=some v:=fun i v hi=>by
     rw [<- hce] at hi;have hi2:i<3:=by have:=(List.getElem?_eq_some_iff.1 hi).1;omega
     rw [List.getElem?_take_of_lt hi2,<- hdr,List.getElem?_drop,Array.getElem?_toList] at hi;rw [cell_of_row wr g _ cur' 130 fz hg'];exact hi
    have l2_0:wr.cell? ⟨g,j*3,none⟩=some c0:=hrow 0 c0 rfl;have l2_1:wr.cell? ⟨g,j*3+1,none⟩=some c1:=hrow 1 c1 rfl;have l2_2:wr.cell? ⟨g,j*3+2,none⟩=some c2:=hrow 2 c2 rfl;have hjc:j<cap:=by omega
    have mk1:∀ u∈ [c0,c1,c2],u.oneCell' = true:=fun u hu=>by
     rw [<- hce,hr1] at hu;rcases List.mem_cons.1 hu with rfl | hu
     ·rfl
     ·exact hr3 u hu
    have hadg:some ad.block≠some g:=fun e=>hne (Option.some.inj e)
    have n2_0:Sem.run Tryz.prog (store ⟨wr.heap.size,0,none⟩ c0) (wr.alloc (.cells #[Value.int IntKind.i64 0,Value.int IntKind.i64 0,Value.int IntKind.i64 0] 130))=.ok () (wr.alloc (.cells #[c0,Value.int IntKind.i64 0,Value.int IntKind.i64 0] 130)):=A6R wr _ 130 0 c0 (by simp) (mk1 _ (by simp));have n2_1:Sem.run Tryz.prog (store ⟨wr.heap.size,1,none⟩ c1) (wr.alloc (.cells #[c0,Value.int IntKind.i64 0,Value.int IntKind.i64 0] 130))=.ok () (wr.alloc (.cells #[c0,c1,Value.int IntKind.i64 0] 130)):=A6R wr _ 130 1 c1 (by simp) (mk1 _ (by simp));have n2_2:Sem.run Tryz.prog (store ⟨wr.heap.size,2,none⟩ c2) (wr.alloc (.cells #[c0,c1,Value.int IntKind.i64 0] 130))=.ok () (wr.alloc (.cells #[c0,c1,c2] 130)):=A6R wr _ 130 2 c2 (by simp) (mk1 _ (by simp));have m2_0:(wr.alloc (.cells #[c0,c1,c2] 130)).cell? ⟨wr.heap.size,0,none⟩=some c0:=A9v wr _ 130 0 c0 rfl;have m2_1:(wr.alloc (.cells #[c0,c1,c2] 130)).cell? ⟨wr.heap.size,1,none⟩=some c1:=A9v wr _ 130 1 c1 rfl;have m2_2:(wr.alloc (.cells #[c0,c1,c2] 130)).cell? ⟨wr.heap.size,2,none⟩=some c2:=A9v wr _ 130 2 c2 rfl;have hadw:(wr.alloc (.cells #[c0,c1,c2] 130)).cell? ad=some (.int .i64 atv):=(World.grownBy_alloc wr _ none).cell (hgr.cell hc hadg) (by simp);have hcall:=C1o (wr.alloc (.cells #[c0,c1,c2] 130)) (who j) atv rest hr2 hr3 ad hadw;rw [<- hr1,hce] at hcall;have hg2:(wr.alloc (.cells #[c0,c1,c2] 130)).heap[g]? = some (.cells cur' 130 fz):=(heap_alloc_old wr _ (Array.getElem?_eq_some_iff.1 hg').1).trans hg';have hgs:g<(wr.alloc (.cells #[c0,c1,c2] 130)).heap.size:=(Array.getElem?_eq_some_iff.1 hg2).1;have hgw2:w.grownBy (wr.alloc (.cells #[c0,c1,c2] 130)) (some g):=hgr.andThen (World.grownBy_alloc wr _ none) (fun k hk=>by cases hk);have hfz':Thawed cur'.size fz:=by rw [hs'];exact hfz
    have hik:(kept who atv j).length<n:=by omega
    have hikz:(((kept who atv j).length:Nat):Int)<(n:Int):=by omega
    have hikc:(kept who atv j).length<cap:=by omega
    have hsz':(kept who atv j).length*3+3<=cur'.size:=by rw [hs',hcs,<- Nat.succ_mul];exact Nat.mul_le_mul_right _ hikc
    have HC:Aside ((cur.toList.drop (j*3)).take 3 = [c0,c1,c2]):=hce
    clear hel hrow hce hr1 hr2 hr3 hg hg' hadw S
    by_cases hq:who j=atv
    ·rw [decide_eq_true hq] at hcall
     go_wp2_with (go_at_fn 264;refine hcall.mono ?_;rintro e w3 ⟨rfl,hb3⟩)
     go_roundg (n-(j+1))
     case measure=>omega
     case rel=>
      have hk1:kept who atv (j+1)=kept who atv j:=by rw [kept,if_pos hq,List.append_nil]
      refine ⟨j+1,by omega,by omega,by omega,by rw [hk1],by go_num,(show Aside _ from ⟨hgw2.andThen hb3 (fun k hk=>by cases hk),cur',(hb3.block g hgs (by simp)).trans hg2,hs',by rw [hk1];exact htk,?_⟩)⟩;rw [Nat.succ_mul,<- List.drop_drop,hdr,List.drop_drop]
    ·rw [decide_eq_false hq] at hcall
     go_wp2_with (go_at_fn 264;refine hcall.mono ?_;rintro e w3 ⟨rfl,hb3⟩;have hg3:w3.heap[g]? = some (.cells cur' 130 fz):=(hb3.block g hgs (by simp)).trans hg2;have p2_0:w3.cell? ⟨wr.heap.size,0,none⟩=some c0:=hb3.cell m2_0 (by simp);have p2_1:w3.cell? ⟨wr.heap.size,1,none⟩=some c1:=hb3.cell m2_1 (by simp);have p2_2:w3.cell? ⟨wr.heap.size,2,none⟩=some c2:=hb3.cell m2_2 (by simp);have q2_0:Sem.run Tryz.prog (store ⟨g,(kept who atv j).length*3,none⟩ c0) w3=.ok () (w3.setRow g (cur'.setIfInBounds ((kept who atv j).length*3) c0)):=A6S w3 g _ 130 fz hg3 hfz' _ c0 (by omega) (mk1 _ (by simp));have q2_1:Sem.run Tryz.prog (store ⟨g,(kept who atv j).length*3+1,none⟩ c1) (w3.setRow g (cur'.setIfInBounds ((kept who atv j).length*3) c0))=.ok () (w3.setRow g ((cur'.setIfInBounds ((kept who atv j).length*3) c0).setIfInBounds ((kept who atv j).length*3+1) c1)):=(A6S (w3.setRow g (cur'.setIfInBounds ((kept who atv j).length*3) c0)) g _ 130 fz (setRow_heap w3 g _ _ 130 fz hg3) (by simpa using hfz') _ c1 (by simp only [Array.size_setIfInBounds];omega) (mk1 _ (by simp))).trans (by rw [setRow_setRow]);have q2_2:Sem.run Tryz.prog (store ⟨g,(kept who atv j).length*3+2,none⟩ c2) (w3.setRow g ((cur'.setIfInBounds ((kept who atv j).length*3) c0).setIfInBounds ((kept who atv j).length*3+1) c1))=.ok () (w3.setRow g (((cur'.setIfInBounds ((kept who atv j).length*3) c0).setIfInBounds ((kept who atv j).length*3+1) c1).setIfInBounds ((kept who atv j).length*3+2) c2)):=(A6S (w3.setRow g ((cur'.setIfInBounds ((kept who atv j).length*3) c0).setIfInBounds ((kept who atv j).length*3+1) c1)) g _ 130 fz (setRow_heap w3 g _ _ 130 fz hg3) (by simpa using hfz') _ c2 (by simp only [Array.size_setIfInBounds];omega) (mk1 _ (by simp))).trans (by rw [setRow_setRow]))
     go_roundg (n-(j+1))
     case measure=>omega
     case rel=>
      have hk1:kept who atv (j+1)=kept who atv j ++ [j]:=by rw [kept,if_neg hq]
      have hk2:(kept who atv (j+1)).length=(kept who atv j).length+1:=by rw [hk1,List.length_append];rfl
      have hcl:cur'.toList.length=cap*3:=by rw [Array.length_toList,hs',hcs]
      refine ⟨j+1,by omega,by omega,by omega,by rw [hk2];go_num,by go_num,(show Aside _ from ⟨(hgw2.andThen hb3 (fun k hk=>by cases hk)).andThen (C1J w3 g _ hg3) (fun k hk=>.inr hk),_,setRow_heap w3 g _ _ 130 fz hg3,by simp only [Array.size_setIfInBounds];exact hs',?_,?_⟩)⟩
      ·have e:((((cur'.setIfInBounds ((kept who atv j).length*3) c0).setIfInBounds ((kept who atv j).length*3+1) c1).setIfInBounds ((kept who atv j).length*3+2) c2)).toList=C1n cur'.toList ((kept who atv j).length*3) [c0,c1,c2]:=by simp only [Array.toList_setIfInBounds];rfl
       rw [e,hk2,hk1,List.flatMap_append,<- htk,Nat.succ_mul,(C1I cur'.toList cur.toList [c0,c1,c2] ((kept who atv j).length*3) (j*3) 3 rfl (by rw [Array.length_toList];exact hsz') (Nat.mul_le_mul_right _ hkj) hdr).1];simp only [List.flatMap_cons,List.flatMap_nil,List.append_nil,HC.out]
      ·have e:((((cur'.setIfInBounds ((kept who atv j).length*3) c0).setIfInBounds ((kept who atv j).length*3+1) c1).setIfInBounds ((kept who atv j).length*3+2) c2)).toList=C1n cur'.toList ((kept who atv j).length*3) [c0,c1,c2]:=by simp only [Array.toList_setIfInBounds];rfl
       rw [e,Nat.succ_mul];exact (C1I cur'.toList cur.toList [c0,c1,c2] ((kept who atv j).length*3) (j*3) 3 rfl (by rw [Array.length_toList];exact hsz') (Nat.mul_le_mul_right _ hkj) hdr).2
   ·have hltz:¬ (j:Int)<(n:Int):=by omega
    have:j=n:=by omega
    subst this;have hlt3:=D6a hit hmj;have hfz':Thawed cur'.size fz:=by rw [hs'];exact hfz
    obtain ⟨i,hi⟩:∃ i,i=(kept who atv j).length:=⟨_,rfl⟩;have hclr:∀ ty,(Builtin.clear_ #[30] ty #[.slice (some ⟨g,i*3,none⟩) (j-i) (cap-i)]).run Tryz.prog wr=.ok (.tuple #[]) (wr.setRow g (cur'.toList.take (i*3)++(Builtin.zeroCells #[Value.int IntKind.i64 0,Value.int IntKind.i64 0,Value.int IntKind.i64 0] (j-i)).toList++cur'.toList.drop (i*3+(Builtin.zeroCells #[Value.int IntKind.i64 0,Value.int IntKind.i64 0,Value.int IntKind.i64 0] (j-i)).toList.length)).toArray):=fun ty=>by
     have hcl:cur'.size=cap*3:=by rw [hs',hcs]
     have h1:=A30 (P:=Tryz.prog) wr 30 130 ty _ tS Tryz.zeroValue130 (by decide) (by intro i hi;match i,hi with | 0,_=>rfl | 1,_=>rfl | 2,_=>rfl) g (i*3) (j-i) (cap-i) (by omega)
      (fun t ht=>by rw [cell_of_row wr g _ cur' 130 fz hg',Array.getElem?_eq_getElem (by rw [hcl];have:(j-i)*3+i*3<=cap*3:=(by rw [<- Nat.add_mul];exact Nat.mul_le_mul_right _ (by omega));have ht2:t<(j-i)*3:=ht;omega)];rfl)
      (fun t ht=>Thawed.not hg' hfz' (by rw [hcl];have:(j-i)*3+i*3<=cap*3:=(by rw [<- Nat.add_mul];exact Nat.mul_le_mul_right _ (by omega));have ht2:t<(j-i)*3:=ht;omega))
     rw [h1,F6 _ _ wr g cur' 130 fz hg' (by rw [Array.length_toList,size_zeroCells,hcl];show i*3+(j-i)*3<=_;rw [<- Nat.add_mul];exact Nat.mul_le_mul_right _ (by omega))];rfl
    rw [<- hi] at hlt3 htk;have hile:i<cap:=by omega
    subst hi;have HT:Aside (cur'.toList.take ((kept who atv j).length*3)=((kept who atv j).flatMap fun q=>(cur.toList.drop (q*3)).take 3)):=htk;have HG:Aside (w.grownBy wr (some g)):=hgr;have HW:Aside (wr.heap[g]? = some (.cells cur' 130 fz)):=hg';have HS:Aside (cur'.size=cur.size):=hs';have HC:Aside (cur.size=cap*3):=hcs
    clear hel hkj S htk hgr hdr hg' hg hs' hcs hfz hfz' hc hne
    go_wp2
    go_ret
    have hs':=HS.out;have hcs:=HC.out;have hl:(kept who atv j).length*3+(j-(kept who atv j).length)*3<=cap*3:=by rw [<- Nat.add_mul];exact Nat.mul_le_mul_right _ (by omega)
    have hzs:(Builtin.zeroCells #[Value.int IntKind.i64 0,Value.int IntKind.i64 0,Value.int IntKind.i64 0] (j-(kept who atv j).length)).size=(j-(kept who atv j).length)*3:=by rw [size_zeroCells];rfl
    have hcl:cur'.toList.length=cur'.size:=Array.length_toList;have htl:(cur'.toList.take ((kept who atv j).length*3)).length=(kept who atv j).length*3:=by rw [List.length_take,hcl];omega
    refine ⟨HG.out.andThen (C1J wr g _ HW.out) (fun k hk=>.inr hk),rfl,_,setRow_heap wr g cur' _ 130 fz HW.out,?_,?_⟩
    ·simp only [List.size_toArray,List.length_append,htl,List.length_drop,Array.length_toList,hzs];omega
    ·rw [<- HT.out];exact List.take_left' htl
set_option maxHeartbeats 4000000 in
set_option maxRecDepth 1000000 in
theorem C6Q(w:World)(fv:Value) :
  Calls Tryz.prog 267 #[.slice none 0 0,fv] w fun e w'=>w.grownBy w' none/\e=.returned (.slice none 0 0):=by
 have mixed:Tryz.prog.follows .mixedOrders=true:=by kernel_rfl
 have t3:=Tryz.underlying3;have a3:=Tryz.isAgg3;have z3:=Tryz.sizeOf3;have v3:=Tryz.zeroValue3;have t4:=Tryz.underlying4;have a4:=Tryz.isAgg4;have z4:=Tryz.sizeOf4;have v4:=Tryz.zeroValue4;have tS:=Tryz.underlying30;have aS:=Tryz.isAgg30;have zS:=Tryz.sizeOf30;have vS:=Tryz.zeroValue30;have aE:=Tryz.isAgg130;have zE:=Tryz.sizeOf130;have vE:=Tryz.zeroValue130;have hidx:Calls Tryz.prog 299 #[.slice none 0 0,fv] w fun e w'=>w.grownBy w' none/\e=.returned (.int .i64 (-1)):=by
  go_enter Tryz.func299,Tryz.ntmps299
  go_wp2
  refine wp_loop_rounds 1 ?_;rw [rounds_succ]
  go_wp2
  go_ret
  exact ⟨World.grownBy.refl w none,rfl⟩
 have eix:∀ args w,(callFunc 299 args).run Tryz.prog w=.ok (.enter 299 args) w:=Tryz.call299
 go_enter Tryz.func267,Tryz.ntmps267
 go_wp2_with (go_at_fn 299;refine hidx.mono ?_;rintro e w1 ⟨hgw,rfl⟩)
 go_ret
 exact ⟨hgw,rfl⟩
theorem B8F(k2:K)(hk:(K.pair (.int .i64) k2).sz=3):C2k Tryz.prog 267 264 ⟨[.val false (.sl 130 (.pair (.int .i64) k2)) false,.ptr (.int .i64)],[.val false (.sl 130 (.pair (.int .i64) k2))],fun x=>C2n x.1 x.2.1⟩:=by
 intro x ⟨ys,u1,u2⟩ hy w Z pls args hargs;obtain ⟨xs,atv,rfl⟩:∃ (xs:List (K.pair (.int .i64) k2).T) (atv:Int),x=(xs,atv,()):=⟨x.1,x.2.1,rfl⟩;simp only [C2n] at hy;injection hy with hy;injection hy with hy h1;injection h1 with h1 _
 subst h1;obtain ⟨_,r0,rfl,⟨v,rfl,inner,hown,hcol,hels⟩,_,cs1,r1,rfl,hvar,hlv,rfl⟩:=hargs;obtain rfl:cs1 = [.int .i64 atv]:=hlv
 replace hown:owns w 0 130 (K.pair (.int .i64) k2).sz v xs.length inner:=hown
 have hadc:w.cell? ⟨(pls 1).g,(pls 1).pre.length,none⟩=some (.int .i64 atv):=by
  rw [cell_of_row w _ _ _ _ _ hvar.1];simp
 have hpB:∀ F:F2->Option F2,E9 [(1000,F)] Z (pls 1).g=some [2*pB 1+1]:=fun F=>by
  simp only [E9,hvar.2,W0];rfl
 rcases hown.2 with ⟨rfl,hn0⟩ | ⟨g,cap,cur,fz,rfl,_,hg,hfz,hnc,hcap,hcs,ht⟩
 ·obtain rfl:xs = []:=List.eq_nil_of_length_eq_zero hn0;have hys:ys = []:=by rw [<- hy];rfl
  subst hys;refine (C6Q w (.func (.func 264) #[] #[.pointer (some ⟨(pls 1).g,(pls 1).pre.length,none⟩)])).mono ?_;rintro e w' ⟨hgr,rfl⟩;refine ⟨Z,[.slice none 0 0],rfl,fun b hb hlt=>⟨hgr.block b hlt (by simp),hb⟩,fun b hb hlt=>⟨hgr.block b hlt (by simp),hb⟩,⟨hgr.size,hgr.os,hgr.tape,hgr.output⟩,?_⟩;refine ⟨[.slice none 0 0],[],rfl,⟨_,rfl,[],A4s _ _ _ _,fun g' hg'=>by simp [Value.ownBlock] at hg',fun a ha=>by simp at ha⟩,.inr rfl,rfl,?_⟩;exact ⟨_,_,rfl,[.int .i64 atv],_,_,rfl,⟨(hgr.block _ (Array.getElem?_eq_some_iff.1 hvar.1).1 (by simp)).trans hvar.1,hvar.2⟩,rfl,rfl⟩
 ·rw [hk] at hcs ht hfz;have hinl:inner.length=xs.length*3:=by have:=hown.1;rwa [hk] at this
  have hcolg:Z g=some [2*1000]:=hcol g rfl
  let who:Nat->Int:=fun q=>(rd (.pair (.int .i64) k2) xs (q:Int)).1
  have hel0:∀ q,(cur.toList.drop (q*3)).take 3=(cur.toList.drop (q*3)).take 3:=fun q=>rfl
  have hcut:∀ q,q<xs.length->(cur.toList.drop (q*3)).take 3=(inner.drop (q*3)).take 3:=fun q hq=>by
   have hle:q*3+3<=xs.length*3:=by rw [<- Nat.succ_mul];exact Nat.mul_le_mul_right _ hq
   rw [<- ht,List.drop_take,List.take_take,Nat.min_eq_left (by omega)]
  have hels':∀ (q:Nat) (h:q<xs.length),Ow (.pair (.int .i64) k2) w Z ([2*1000] ++ [q]) xs[q] ((cur.toList.drop (q*3)).take 3):=fun q h=>by
   rw [hcut q h];have:=hels q h;rwa [hk] at this
  have hel:∀ q,q<xs.length->∃ rest:List Value,(cur.toList.drop (q*3)).take 3=.int .i64 (who q)::rest/\rest.length+1=3/\∀ u∈rest,u.oneCell' = true:=fun q hq=>by
   have ho:=hels' q hq;have hl:=ho.len;rw [hk] at hl;have h1:=ho.one;obtain ⟨c0,c1,e,e0,e1⟩:=ho;obtain rfl:c0 = [.int .i64 (xs[q]).1]:=e0;have hw:who q=(xs[q]).1:=by show (rd _ xs (q:Int)).1=_;rw [rdn (k:=.pair (.int .i64) k2) (xs:=xs) hq]
   rw [e] at hl h1 ⊢;exact ⟨c1,by rw [hw];rfl,by simpa [Nat.add_comm] using hl,fun u hu=>h1 u (List.mem_append_right _ hu)⟩
  have hpg:(pls 1).g≠g:=fun e=>by
   have:=hvar.2;rw [e,hcolg] at this;injection this with this;injection this with this;omega
  have hrun:=C6P g xs.length cap w hnc (by simpa only [maxLen] using hcap) cur fz hg hfz.1 hcs who atv hel ⟨(pls 1).g,(pls 1).pre.length,none⟩ hadc hpg;refine hrun.mono ?_;rintro e w' ⟨hgr,rfl,cur2,hg2,hs2,htk2⟩
  let Z1:=E9 [(1000,dF who atv)] Z
  have hZg:Z1 g=some [2*5000]:=by
   show E9 [(1000,dF who atv)] Z g=_;simp [E9,hcolg,W0,dF]
  have hnb:∀ b,Z b≠some [2*1000]->b<w.heap.size->w'.heap[b]? = w.heap[b]?:=fun b hb hlt=>hgr.block b hlt (fun e=>by injection e with e;subst e;exact hb hcolg)
  have hkeep:Keeps w w' Z Z1:=fun b hb hlt=>⟨hnb b (fun e=>by rw [hb] at e;cases e) hlt,(M0 w _ Z b hb hlt).2⟩
  refine ⟨Z1,[.slice (some ⟨g,0,none⟩) (kept who atv xs.length).length cap],rfl,hkeep,fun b hb hlt=>⟨hnb b (fun e=>by rw [hb] at e;cases e) hlt,(A2H w _ Z b hb hlt).2⟩,⟨hgr.size,hgr.os,hgr.tape,hgr.output⟩,?_⟩;have hfil:ys=(kept who atv xs.length).map fun q:Nat=>rd (.pair (.int .i64) k2) xs (q:Int):=by
   have:=B9l xs atv xs.length (Nat.le_refl _);rw [List.take_length] at this;rw [<- hy];exact this
  have hyl:ys.length=(kept who atv xs.length).length:=by rw [hfil,List.length_map]
  have hkl:=C1H who atv xs.length;have hfl:∀ l:List Nat,(∀ q∈l,q<xs.length)->(l.flatMap fun q=>(cur.toList.drop (q*3)).take 3).length=l.length*3:=fun l=>by
   induction l with
   | nil=>intro _;simp
   | cons q l ih=>
    intro h;have h1:=(hels' q (h q List.mem_cons_self)).len;rw [hk] at h1;rw [List.flatMap_cons,List.length_append,h1,ih (fun x hx=>h x (List.mem_cons_of_mem _ hx)),List.length_cons,Nat.succ_mul,Nat.add_comm]
  have hmem:∀ q∈kept who atv xs.length,q<xs.length:=fun q hq=>by
   obtain ⟨a,ha⟩:=List.getElem?_of_mem hq;exact (B9k ha).1
  refine ⟨[.slice (some ⟨g,0,none⟩) (kept who atv xs.length).length cap],[],rfl,⟨_,rfl,(kept who atv xs.length).flatMap fun q=>(cur.toList.drop (q*3)).take 3,?_,fun g' hg'=>?_,fun a ha=>?_⟩,.inr rfl,rfl,?_⟩
  ·rw [hyl,hk];exact ⟨hfl _ hmem,.inr ⟨g,cap,cur2,fz,rfl,Nat.zero_le _,hg2,by rw [hs2];exact hfz,by omega,hcap,by rw [hs2];exact hcs,htk2⟩⟩
  ·simp only [Value.ownBlock,Option.some.injEq] at hg';subst hg';exact hZg
  ·have hak:a<(kept who atv xs.length).length:=by rw [<- hyl];exact ha
   obtain ⟨q,hq⟩:∃ q,(kept who atv xs.length)[a]? = some q:=⟨_,List.getElem?_eq_getElem hak⟩;obtain ⟨hql,hqn,hqa⟩:=B9k hq;have e1:ys[a]=xs[q]:=by
    have h1:ys[a]? = some (rd (.pair (.int .i64) k2) xs (q:Int)):=by rw [hfil,List.getElem?_map,hq];rfl
    rw [rdn (k:=.pair (.int .i64) k2) (xs:=xs) hql,List.getElem?_eq_getElem ha] at h1;injection h1
   rw [hk,D6b (fun q=>(cur.toList.drop (q*3)).take 3) 3 _ (fun x hx=>by have:=(hels' x (hmem x hx)).len;rwa [hk] at this) hq,e1];refine (hels' q hql).move (fun b p hb hlt=>?_) hkeep;have hb2:Z b=some (2*1000::q::p):=hb;refine ⟨hnb b (fun e=>by rw [hb2] at e;injection e with e;injection e with _ e;cases e) hlt,?_⟩;show E9 [(1000,dF who atv)] Z b=_;simp only [E9,hb2,W0,if_true,dF,if_neg hqn,hqa];rfl
  ·exact ⟨_,_,rfl,[.int .i64 atv],_,_,rfl,⟨(hgr.block _ (Array.getElem?_eq_some_iff.1 hvar.1).1 (fun e=>hpg (Option.some.inj e))).trans hvar.1,hpB _⟩,rfl,rfl⟩
theorem D1i(cs:List Value)(h:cs.length=5):∃ c0 c1 c2 c3 c4,cs = [c0,c1,c2,c3,c4]:=match cs,h with
 | [c0,c1,c2,c3,c4],_=>⟨c0,c1,c2,c3,c4,rfl⟩
set_option maxHeartbeats 4000000 in
set_option maxRecDepth 1000000 in
theorem C1p(W:World)(who atv:Int)(rest:List Value)(hl:rest.length+1=5)(h1:∀ u∈rest,u.oneCell' = true)(ad:Addr)(hc:W.cell? ad=some (.int .i64 atv)) :
  Calls Tryz.prog 266 #[.agg (Value.int .i64 who::rest).toArray,.pointer (some ad)] W fun e w'=>e=.returned (.bool (decide (who=atv)))/\W.grownBy w' none:=by
 have mixed:Tryz.prog.follows .mixedOrders=true:=by kernel_rfl
 have t3:=Tryz.underlying3;have a3:=Tryz.isAgg3;have z3:=Tryz.sizeOf3;have v3:=Tryz.zeroValue3;have t4:=Tryz.underlying4;have a4:=Tryz.isAgg4;have z4:=Tryz.sizeOf4;have v4:=Tryz.zeroValue4;have tE:=Tryz.underlying113;have aE:=Tryz.isAgg113;have zE:=Tryz.sizeOf113;have vE:=Tryz.zeroValue113;have hc2:(W.alloc (.cells (Value.int IntKind.i64 who::rest).toArray 113)).cell? ad=some (.int .i64 atv):=(World.grownBy_alloc W _ none).cell hc (by simp)
 go_enter Tryz.func266,Tryz.ntmps266
 go_wp2
 go_ret
 exact ⟨rfl,World.grownBy_alloc W _ none⟩
set_option maxHeartbeats 4000000 in
set_option maxRecDepth 1000000 in
theorem D1j(g n cap:Nat)(w:World)(hn:n<=cap)(hm:cap<=9223372036854775807)(cur:Array Value)(fz:Nat×Nat)(hg:w.heap[g]? = some (.cells cur 113 fz))(hcs:cur.size=cap*5)
  (who:Nat->Int) (atv:Int) (hel:∀ q,q<n->∃ rest:List Value,(cur.toList.drop (q*5)).take 5=.int .i64 (who q)::rest/\rest.length+1=5/\∀ u∈rest,u.oneCell' = true) (ad:Addr) (hc:w.cell? ad=some (.int .i64 atv)) :
  Calls Tryz.prog 298 #[.slice (some ⟨g,0,none⟩) n cap,.func (.func 266) #[] #[.pointer (some ad)]] w fun e w'=>w.grownBy w' none/\
   ∃ m:Nat,m<=n/\(∀ q,q<m->who q≠atv)/\((m=n/\e=.returned (.int .i64 (-1)))\/(m<n/\who m=atv/\e=.returned (.int .i64 m))):=by
 have mixed:Tryz.prog.follows .mixedOrders=true:=by kernel_rfl
 have t3:=Tryz.underlying3;have a3:=Tryz.isAgg3;have z3:=Tryz.sizeOf3;have v3:=Tryz.zeroValue3;have t4:=Tryz.underlying4;have a4:=Tryz.isAgg4;have z4:=Tryz.sizeOf4;have v4:=Tryz.zeroValue4;have tS:=Tryz.underlying35;have aS:=Tryz.isAgg35;have zS:=Tryz.sizeOf35;have vS:=Tryz.zeroValue35;have aE:=Tryz.isAgg113;have zE:=Tryz.sizeOf113;have vE:=Tryz.zeroValue113;have hgl:g<w.heap.size:=(Array.getElem?_eq_some_iff.1 hg).1;have hrow:∀ (W:World),w.grownBy W none->∀ j,j<n->∀ i v,((cur.toList.drop (j*5)).take 5)[i]? = some v->W.cell? ⟨g,j*5+i,none⟩=some v:=fun W hW j hj i v hi=>by
  have hlen:((cur.toList.drop (j*5)).take 5).length=5:=by rw [List.length_take,List.length_drop,Array.length_toList];omega
  refine hW.cell ?_ (by simp);have hi2:i<5:=by have:=(List.getElem?_eq_some_iff.1 hi).1;omega
  rw [List.getElem?_take_of_lt hi2,List.getElem?_drop,Array.getElem?_toList] at hi;rw [cell_of_row w g _ cur 113 fz hg];exact hi
 have hel3:∀ j,j<n->((cur.toList.drop (j*5)).take 5).length=5:=fun j hj=>by rw [List.length_take,List.length_drop,Array.length_toList];omega
 have ask:∀ (W:World),w.grownBy W none->∀ j,j<n->Calls Tryz.prog 266 #[.agg ((cur.toList.drop (j*5)).take 5).toArray,.pointer (some ad)] W fun e w'=>e=.returned (.bool (decide (who j=atv)))/\W.grownBy w' none:=fun W hW j hj=>by
  obtain ⟨rest,e1,e2,e3⟩:=hel j hj;rw [e1];exact C1p W (who j) atv rest e2 e3 ad (hW.cell hc (by simp))
 have eg:∀ args w,(callFunc 266 args).run Tryz.prog w=.ok (.enter 266 args) w:=Tryz.call266
 clear hg hcs hel hc
 go_enter Tryz.func298,Tryz.ntmps298
 go_wp2
 go_loopg [5,8] n (fun gg _ s8 wr=>∃ kk:Nat,kk<=n/\n-kk<=gg/\s8=.int .i64 kk/\Aside (w.grownBy wr none)/\Aside (∀ j,j<kk->who j≠atv))
 case atStart=>exact ⟨0,Nat.zero_le _,by omega,rfl,World.grownBy.refl w none,fun j hj=>absurd hj (Nat.not_lt_zero _)⟩
 case round=>
  obtain ⟨kk,hkk,hg,rfl,BW,A⟩:=hrel;by_cases hlt:kk<n
  ·have hltz:(kk:Int)<(n:Int):=by omega
   obtain ⟨c0,c1,c2,c3,c4,hce⟩:=D1i _ (hel3 kk hlt);have l2:=hrow wr BW.out kk hlt;have hcall:=ask wr BW.out kk hlt;rw [hce] at l2 hcall;have l2_0:wr.cell? ⟨g,kk*5,none⟩=some c0:=l2 0 c0 rfl;have l2_1:wr.cell? ⟨g,kk*5+1,none⟩=some c1:=l2 1 c1 rfl;have l2_2:wr.cell? ⟨g,kk*5+2,none⟩=some c2:=l2 2 c2 rfl;have l2_3:wr.cell? ⟨g,kk*5+3,none⟩=some c3:=l2 3 c3 rfl;have l2_4:wr.cell? ⟨g,kk*5+4,none⟩=some c4:=l2 4 c4 rfl
   clear hrow ask l2 hel3 hce
   by_cases hq:who kk=atv
   ·rw [decide_eq_true hq] at hcall
    go_wp2_with (go_at_fn 266;refine hcall.mono ?_;rintro e w' ⟨rfl,hb'⟩)
    go_ret
    exact ⟨BW.out.andThen hb' (fun j hj=>by cases hj),kk,by omega,A.out,.inr ⟨hlt,hq,rfl⟩⟩
   ·rw [decide_eq_false hq] at hcall
    go_wp2_with (go_at_fn 266;refine hcall.mono ?_;rintro e w' ⟨rfl,hb'⟩)
    go_roundg (n-(kk+1))
    case measure=>omega
    case rel=>
     refine ⟨kk+1,by omega,by omega,by go_num,BW.out.andThen hb' (fun j hj=>by cases hj),(show Aside _ from fun j hj=>?_)⟩;by_cases e:j=kk
     ·subst e;exact hq
     ·exact A.out j (by omega)
  ·have hltz:¬ (kk:Int)<(n:Int):=by omega
   have:kk=n:=by omega
   subst this
   go_wp2
   go_ret
   exact ⟨BW.out,kk,Nat.le_refl _,A.out,.inl ⟨rfl,rfl⟩⟩
set_option maxHeartbeats 4000000 in
set_option maxRecDepth 1000000 in
theorem C6R(g n cap:Nat)(w:World)(hn:n<=cap)(hm:cap<=9223372036854775807)(cur:Array Value)(fz:Nat×Nat)(hg:w.heap[g]? = some (.cells cur 113 fz))(hfz:Thawed cur.size fz)(hcs:cur.size=cap*5)
  (who:Nat->Int) (atv:Int) (hel:∀ q,q<n->∃ rest:List Value,(cur.toList.drop (q*5)).take 5=.int .i64 (who q)::rest/\rest.length+1=5/\∀ u∈rest,u.oneCell' = true) (ad:Addr) (hc:w.cell? ad=some (.int .i64 atv)) (hne:ad.block≠g) :
  Calls Tryz.prog 265 #[.slice (some ⟨g,0,none⟩) n cap,.func (.func 266) #[] #[.pointer (some ad)]] w fun e w'=>w.grownBy w' (some g)/\e=.returned (.slice (some ⟨g,0,none⟩) (kept who atv n).length cap)/\
   ∃ cur':Array Value,w'.heap[g]? = some (.cells cur' 113 fz)/\cur'.size=cur.size/\cur'.toList.take ((kept who atv n).length*5)=(kept who atv n).flatMap fun q=>(cur.toList.drop (q*5)).take 5:=by
 have mixed:Tryz.prog.follows .mixedOrders=true:=by kernel_rfl
 have t3:=Tryz.underlying3;have a3:=Tryz.isAgg3;have z3:=Tryz.sizeOf3;have v3:=Tryz.zeroValue3;have t4:=Tryz.underlying4;have a4:=Tryz.isAgg4;have z4:=Tryz.sizeOf4;have v4:=Tryz.zeroValue4;have tS:=Tryz.underlying35;have aS:=Tryz.isAgg35;have zS:=Tryz.sizeOf35;have vS:=Tryz.zeroValue35;have aE:=Tryz.isAgg113;have zE:=Tryz.sizeOf113;have vE:=Tryz.zeroValue113;have hgl:g<w.heap.size:=(Array.getElem?_eq_some_iff.1 hg).1;have hidx:=D1j g n cap w hn hm cur fz hg hcs who atv hel ad hc;have eix:∀ args w,(callFunc 298 args).run Tryz.prog w=.ok (.enter 298 args) w:=Tryz.call298;have eg:∀ args w,(callFunc 266 args).run Tryz.prog w=.ok (.enter 266 args) w:=Tryz.call266
 go_enter Tryz.func265,Tryz.ntmps265
 go_wp2_with (go_at_fn 298;refine hidx.mono ?_;rintro e w1 ⟨hgw,m,hmn,hnot,hcase⟩;rcases hcase with ⟨rfl,rfl⟩ | ⟨hlt,hit,rfl⟩)
 ·go_wp2
  go_ret
  have hk:=B9j hnot;rw [hk];exact ⟨C1G hgw _,by rw [List.length_range];rfl,cur,(hgw.block g hgl (by simp)).trans hg,rfl,by rw [List.length_range,B29 _ _ _ (by rw [Array.length_toList,hcs];exact Nat.mul_le_mul_right _ hn)]⟩
 ·have hk:kept who atv (m+1)=List.range m:=by rw [kept,B9j hnot,if_pos hit,List.append_nil]
  have S0:E3c 5 113 w w1 g fz cur who atv (m+1):=⟨C1G hgw _,cur,(hgw.block g hgl (by simp)).trans hg,rfl,by rw [hk,List.length_range,B29 _ _ _ (by rw [Array.length_toList,hcs];exact Nat.mul_le_mul_right _ (by omega))],rfl⟩;have hkl:(kept who atv (m+1)).length=m:=by rw [hk,List.length_range]
  have hne1:¬ ((m:Int)=-1):=by omega
  clear hidx
  go_wp2
  go_loopg [5,6,7] n (fun gg s5 s6 _ wr=>∃ j:Nat,m<j/\j<=n/\n-j<=gg/\s5=.int .i64 ((kept who atv j).length:Nat)/\s6=.int .i64 j/\Aside (E3c 5 113 w wr g fz cur who atv j))
  case atStart=>exact ⟨m+1,by omega,by omega,by omega,by rw [hkl],by go_num,S0⟩
  case round=>
   obtain ⟨j,hmj,hjn,hgg,rfl,rfl,S⟩:=hrel;obtain ⟨hgr,cur',hg',hs',htk,hdr⟩:=S.out;have hkj:=C1H who atv j;by_cases hlt2:j<n
   ·have hltz:(j:Int)<(n:Int):=by omega
    have hlen:((cur.toList.drop (j*5)).take 5).length=5:=by rw [List.length_take,List.length_drop,Array.length_toList];omega
    obtain ⟨rest,hr1,hr2,hr3⟩:=hel j hlt2;obtain ⟨c0,c1,c2,c3,c4,hce⟩:=D1i _ hlen;have hrow:∀ i v,[c0,c1,c2,c3,c4][i]? = some v->wr.cell? ⟨g,j*5+i,none⟩=some v:=fun i v hi=>by
     rw [<- hce] at hi;have hi2:i<5:=by have:=(List.getElem?_eq_some_iff.1 hi).1;omega
     rw [List.getElem?_take_of_lt hi2,<- hdr,List.getElem?_drop,Array.getElem?_toList] at hi;rw [cell_of_row wr g _ cur' 113 fz hg'];exact hi
    have l2_0:wr.cell? ⟨g,j*5,none⟩=some c0:=hrow 0 c0 rfl;have l2_1:wr.cell? ⟨g,j*5+1,none⟩=some c1:=hrow 1 c1 rfl;have l2_2:wr.cell? ⟨g,j*5+2,none⟩=some c2:=hrow 2 c2 rfl;have l2_3:wr.cell? ⟨g,j*5+3,none⟩=some c3:=hrow 3 c3 rfl;have l2_4:wr.cell? ⟨g,j*5+4,none⟩=some c4:=hrow 4 c4 rfl;have hjc:j<cap:=by omega
    have mk1:∀ u∈ [c0,c1,c2,c3,c4],u.oneCell' = true:=fun u hu=>by
     rw [<- hce,hr1] at hu;rcases List.mem_cons.1 hu with rfl | hu
     ·rfl
     ·exact hr3 u hu
    have hadg:some ad.block≠some g:=fun e=>hne (Option.some.inj e)
    have n2_0:Sem.run Tryz.prog (store ⟨wr.heap.size,0,none⟩ c0) (wr.alloc (.cells #[Value.int IntKind.i64 0,Value.int IntKind.i64 0,Value.string {data:=#[]},Value.int IntKind.i64 0,Value.slice none 0 0] 113))=.ok () (wr.alloc (.cells #[c0,Value.int IntKind.i64 0,Value.string {data:=#[]},Value.int IntKind.i64 0,Value.slice none 0 0] 113)):=A6R wr _ 113 0 c0 (by simp) (mk1 _ (by simp));have n2_1:Sem.run Tryz.prog (store ⟨wr.heap.size,1,none⟩ c1) (wr.alloc (.cells #[c0,Value.int IntKind.i64 0,Value.string {data:=#[]},Value.int IntKind.i64 0,Value.slice none 0 0] 113))=.ok () (wr.alloc (.cells #[c0,c1,Value.string {data:=#[]},Value.int IntKind.i64 0,Value.slice none 0 0] 113)):=A6R wr _ 113 1 c1 (by simp) (mk1 _ (by simp));have n2_2:Sem.run Tryz.prog (store ⟨wr.heap.size,2,none⟩ c2) (wr.alloc (.cells #[c0,c1,Value.string {data:=#[]},Value.int IntKind.i64 0,Value.slice none 0 0] 113))=.ok () (wr.alloc (.cells #[c0,c1,c2,Value.int IntKind.i64 0,Value.slice none 0 0] 113)):=A6R wr _ 113 2 c2 (by simp) (mk1 _ (by simp));have n2_3:Sem.run Tryz.prog (store ⟨wr.heap.size,3,none⟩ c3) (wr.alloc (.cells #[c0,c1,c2,Value.int IntKind.i64 0,Value.slice none 0 0] 113))=.ok () (wr.alloc (.cells #[c0,c1,c2,c3,Value.slice none 0 0] 113)):=A6R wr _ 113 3 c3 (by simp) (mk1 _ (by simp));have n2_4:Sem.run Tryz.prog (store ⟨wr.heap.size,4,none⟩ c4) (wr.alloc (.cells #[c0,c1,c2,c3,Value.slice none 0 0] 113))=.ok () (wr.alloc (.cells #[c0,c1,c2,c3,c4] 113)):=A6R wr _ 113 4 c4 (by simp) (mk1 _ (by simp));have m2_0:(wr.alloc (.cells #[c0,c1,c2,c3,c4] 113)).cell? ⟨wr.heap.size,0,none⟩=some c0:=A9v wr _ 113 0 c0 rfl;have m2_1:(wr.alloc (.cells #[c0,c1,c2,c3,c4] 113)).cell? ⟨wr.heap.size,1,none⟩=some c1:=A9v wr _ 113 1 c1 rfl;have m2_2:(wr.alloc (.cells #[c0,c1,c2,c3,c4] 113)).cell? ⟨wr.heap.size,2,none⟩=some c2:=A9v wr _ 113 2 c2 rfl;have m2_3:(wr.alloc (.cells #[c0,c1,c2,c3,c4] 113)).cell? ⟨wr.heap.size,3,none⟩=some c3:=A9v wr _ 113 3 c3 rfl;have m2_4:(wr.alloc (.cells #[c0,c1,c2,c3,c4] 113)).cell? ⟨wr.heap.size,4,none⟩=some c4:=A9v wr _ 113 4 c4 rfl;have hadw:(wr.alloc (.cells #[c0,c1,c2,c3,c4] 113)).cell? ad=some (.int .i64 atv):=(World.grownBy_alloc wr _ none).cell (hgr.cell hc hadg) (by simp);have hcall:=C1p (wr.alloc (.cells #[c0,c1,c2,c3,c4] 113)) (who j) atv rest hr2 hr3 ad hadw;rw [<- hr1,hce] at hcall;have hg2:(wr.alloc (.cells #[c0,c1,c2,c3,c4] 113)).heap[g]? = some (.cells cur' 113 fz):=(heap_alloc_old wr _ (Array.getElem?_eq_some_iff.1 hg').1).trans hg';have hgs:g<(wr.alloc (.cells #[c0,c1,c2,c3,c4] 113)).heap.size:=(Array.getElem?_eq_some_iff.1 hg2).1;have hgw2:w.grownBy (wr.alloc (.cells #[c0,c1,c2,c3,c4] 113)) (some g):=hgr.andThen (World.grownBy_alloc wr _ none) (fun k hk=>by cases hk);have hfz':Thawed cur'.size fz:=by rw [hs'];exact hfz
    have hik:(kept who atv j).length<n:=by omega
    have hikz:(((kept who atv j).length:Nat):Int)<(n:Int):=by omega
    have hikc:(kept who atv j).length<cap:=by omega
    have hsz':(kept who atv j).length*5+5<=cur'.size:=by rw [hs',hcs,<- Nat.succ_mul];exact Nat.mul_le_mul_right _ hikc
    have HC:Aside ((cur.toList.drop (j*5)).take 5 = [c0,c1,c2,c3,c4]):=hce
    clear hel hrow hce hr1 hr2 hr3 hg hg' hadw S
    by_cases hq:who j=atv
    ·rw [decide_eq_true hq] at hcall
     go_wp2_with (go_at_fn 266;refine hcall.mono ?_;rintro e w3 ⟨rfl,hb3⟩)
     go_roundg (n-(j+1))
     case measure=>omega
     case rel=>
      have hk1:kept who atv (j+1)=kept who atv j:=by rw [kept,if_pos hq,List.append_nil]
      refine ⟨j+1,by omega,by omega,by omega,by rw [hk1],by go_num,(show Aside _ from ⟨hgw2.andThen hb3 (fun k hk=>by cases hk),cur',(hb3.block g hgs (by simp)).trans hg2,hs',by rw [hk1];exact htk,?_⟩)⟩;rw [Nat.succ_mul,<- List.drop_drop,hdr,List.drop_drop]
    ·rw [decide_eq_false hq] at hcall
     go_wp2_with (go_at_fn 266;refine hcall.mono ?_;rintro e w3 ⟨rfl,hb3⟩;have hg3:w3.heap[g]? = some (.cells cur' 113 fz):=(hb3.block g hgs (by simp)).trans hg2;have p2_0:w3.cell? ⟨wr.heap.size,0,none⟩=some c0:=hb3.cell m2_0 (by simp);have p2_1:w3.cell? ⟨wr.heap.size,1,none⟩=some c1:=hb3.cell m2_1 (by simp);have p2_2:w3.cell? ⟨wr.heap.size,2,none⟩=some c2:=hb3.cell m2_2 (by simp);have p2_3:w3.cell? ⟨wr.heap.size,3,none⟩=some c3:=hb3.cell m2_3 (by simp);have p2_4:w3.cell? ⟨wr.heap.size,4,none⟩=some c4:=hb3.cell m2_4 (by simp);have q2_0:Sem.run Tryz.prog (store ⟨g,(kept who atv j).length*5,none⟩ c0) w3=.ok () (w3.setRow g (cur'.setIfInBounds ((kept who atv j).length*5) c0)):=A6S w3 g _ 113 fz hg3 hfz' _ c0 (by omega) (mk1 _ (by simp));have q2_1:Sem.run Tryz.prog (store ⟨g,(kept who atv j).length*5+1,none⟩ c1) (w3.setRow g (cur'.setIfInBounds ((kept who atv j).length*5) c0))=.ok () (w3.setRow g ((cur'.setIfInBounds ((kept who atv j).length*5) c0).setIfInBounds ((kept who atv j).length*5+1) c1)):=(A6S (w3.setRow g (cur'.setIfInBounds ((kept who atv j).length*5) c0)) g _ 113 fz (setRow_heap w3 g _ _ 113 fz hg3) (by simpa using hfz') _ c1 (by simp only [Array.size_setIfInBounds];omega) (mk1 _ (by simp))).trans (by rw [setRow_setRow]);have q2_2:Sem.run Tryz.prog (store ⟨g,(kept who atv j).length*5+2,none⟩ c2) (w3.setRow g ((cur'.setIfInBounds ((kept who atv j).length*5) c0).setIfInBounds ((kept who atv j).length*5+1) c1))=.ok () (w3.setRow g (((cur'.setIfInBounds ((kept who atv j).length*5) c0).setIfInBounds ((kept who atv j).length*5+1) c1).setIfInBounds ((kept who atv j).length*5+2) c2)):=(A6S (w3.setRow g ((cur'.setIfInBounds ((kept who atv j).length*5) c0).setIfInBounds ((kept who atv j).length*5+1) c1)) g _ 113 fz (setRow_heap w3 g _ _ 113 fz hg3) (by simpa using hfz') _ c2 (by simp only [Array.size_setIfInBounds];omega) (mk1 _ (by simp))).trans (by rw [setRow_setRow]);have q2_3:Sem.run Tryz.prog (store ⟨g,(kept who atv j).length*5+3,none⟩ c3) (w3.setRow g (((cur'.setIfInBounds ((kept who atv j).length*5) c0).setIfInBounds ((kept who atv j).length*5+1) c1).setIfInBounds ((kept who atv j).length*5+2) c2))=.ok () (w3.setRow g ((((cur'.setIfInBounds ((kept who atv j).length*5) c0).setIfInBounds ((kept who atv j).length*5+1) c1).setIfInBounds ((kept who atv j).length*5+2) c2).setIfInBounds ((kept who atv j).length*5+3) c3)):=(A6S (w3.setRow g (((cur'.setIfInBounds ((kept who atv j).length*5) c0).setIfInBounds ((kept who atv j).length*5+1) c1).setIfInBounds ((kept who atv j).length*5+2) c2)) g _ 113 fz (setRow_heap w3 g _ _ 113 fz hg3) (by simpa using hfz') _ c3 (by simp only [Array.size_setIfInBounds];omega) (mk1 _ (by simp))).trans (by rw [setRow_setRow]);have q2_4:Sem.run Tryz.prog (store ⟨g,(kept who atv j).length*5+4,none⟩ c4) (w3.setRow g ((((cur'.setIfInBounds ((kept who atv j).length*5) c0).setIfInBounds ((kept who atv j).length*5+1) c1).setIfInBounds ((kept who atv j).length*5+2) c2).setIfInBounds ((kept who atv j).length*5+3) c3))=.ok () (w3.setRow g (((((cur'.setIfInBounds ((kept who atv j).length*5) c0).setIfInBounds ((kept who atv j).length*5+1) c1).setIfInBounds ((kept who atv j).length*5+2) c2).setIfInBounds ((kept who atv j).length*5+3) c3).setIfInBounds ((kept who atv j).length*5+4) c4)):=(A6S (w3.setRow g ((((cur'.setIfInBounds ((kept who atv j).length*5) c0).setIfInBounds ((kept who atv j).length*5+1) c1).setIfInBounds ((kept who atv j).length*5+2) c2).setIfInBounds ((kept who atv j).length*5+3) c3)) g _ 113 fz (setRow_heap w3 g _ _ 113 fz hg3) (by simpa using hfz') _ c4 (by simp only [Array.size_setIfInBounds];omega) (mk1 _ (by simp))).trans (by rw [setRow_setRow]))
     go_roundg (n-(j+1))
     case measure=>omega
     case rel=>
      have hk1:kept who atv (j+1)=kept who atv j ++ [j]:=by rw [kept,if_neg hq]
      have hk2:(kept who atv (j+1)).length=(kept who atv j).length+1:=by rw [hk1,List.length_append];rfl
      have hcl:cur'.toList.length=cap*5:=by rw [Array.length_toList,hs',hcs]
      refine ⟨j+1,by omega,by omega,by omega,by rw [hk2];go_num,by go_num,(show Aside _ from ⟨(hgw2.andThen hb3 (fun k hk=>by cases hk)).andThen (C1J w3 g _ hg3) (fun k hk=>.inr hk),_,setRow_heap w3 g _ _ 113 fz hg3,by simp only [Array.size_setIfInBounds];exact hs',?_,?_⟩)⟩
      ·have e:((((((cur'.setIfInBounds ((kept who atv j).length*5) c0).setIfInBounds ((kept who atv j).length*5+1) c1).setIfInBounds ((kept who atv j).length*5+2) c2).setIfInBounds ((kept who atv j).length*5+3) c3).setIfInBounds ((kept who atv j).length*5+4) c4)).toList=C1n cur'.toList ((kept who atv j).length*5) [c0,c1,c2,c3,c4]:=by simp only [Array.toList_setIfInBounds];rfl
       rw [e,hk2,hk1,List.flatMap_append,<- htk,Nat.succ_mul,(C1I cur'.toList cur.toList [c0,c1,c2,c3,c4] ((kept who atv j).length*5) (j*5) 5 rfl (by rw [Array.length_toList];exact hsz') (Nat.mul_le_mul_right _ hkj) hdr).1];simp only [List.flatMap_cons,List.flatMap_nil,List.append_nil,HC.out]
      ·have e:((((((cur'.setIfInBounds ((kept who atv j).length*5) c0).setIfInBounds ((kept who atv j).length*5+1) c1).setIfInBounds ((kept who atv j).length*5+2) c2).setIfInBounds ((kept who atv j).length*5+3) c3).setIfInBounds ((kept who atv j).length*5+4) c4)).toList=C1n cur'.toList ((kept who atv j).length*5) [c0,c1,c2,c3,c4]:=by simp only [Array.toList_setIfInBounds];rfl
       rw [e,Nat.succ_mul];exact (C1I cur'.toList cur.toList [c0,c1,c2,c3,c4] ((kept who atv j).length*5) (j*5) 5 rfl (by rw [Array.length_toList];exact hsz') (Nat.mul_le_mul_right _ hkj) hdr).2
   ·have hltz:¬ (j:Int)<(n:Int):=by omega
    have:j=n:=by omega
    subst this;have hlt3:=D6a hit hmj;have hfz':Thawed cur'.size fz:=by rw [hs'];exact hfz
    obtain ⟨i,hi⟩:∃ i,i=(kept who atv j).length:=⟨_,rfl⟩;have hclr:∀ ty,(Builtin.clear_ #[35] ty #[.slice (some ⟨g,i*5,none⟩) (j-i) (cap-i)]).run Tryz.prog wr=.ok (.tuple #[]) (wr.setRow g (cur'.toList.take (i*5)++(Builtin.zeroCells #[Value.int IntKind.i64 0,Value.int IntKind.i64 0,Value.string {data:=#[]},Value.int IntKind.i64 0,Value.slice none 0 0] (j-i)).toList++cur'.toList.drop (i*5+(Builtin.zeroCells #[Value.int IntKind.i64 0,Value.int IntKind.i64 0,Value.string {data:=#[]},Value.int IntKind.i64 0,Value.slice none 0 0] (j-i)).toList.length)).toArray):=fun ty=>by
     have hcl:cur'.size=cap*5:=by rw [hs',hcs]
     have h1:=A30 (P:=Tryz.prog) wr 35 113 ty _ tS Tryz.zeroValue113 (by decide) (by intro i hi;match i,hi with | 0,_=>rfl | 1,_=>rfl | 2,_=>rfl | 3,_=>rfl | 4,_=>rfl) g (i*5) (j-i) (cap-i) (by omega)
      (fun t ht=>by rw [cell_of_row wr g _ cur' 113 fz hg',Array.getElem?_eq_getElem (by rw [hcl];have:(j-i)*5+i*5<=cap*5:=(by rw [<- Nat.add_mul];exact Nat.mul_le_mul_right _ (by omega));have ht2:t<(j-i)*5:=ht;omega)];rfl)
      (fun t ht=>Thawed.not hg' hfz' (by rw [hcl];have:(j-i)*5+i*5<=cap*5:=(by rw [<- Nat.add_mul];exact Nat.mul_le_mul_right _ (by omega));have ht2:t<(j-i)*5:=ht;omega))
     rw [h1,F6 _ _ wr g cur' 113 fz hg' (by rw [Array.length_toList,size_zeroCells,hcl];show i*5+(j-i)*5<=_;rw [<- Nat.add_mul];exact Nat.mul_le_mul_right _ (by omega))];rfl
    rw [<- hi] at hlt3 htk;have hile:i<cap:=by omega
    subst hi;have HT:Aside (cur'.toList.take ((kept who atv j).length*5)=((kept who atv j).flatMap fun q=>(cur.toList.drop (q*5)).take 5)):=htk;have HG:Aside (w.grownBy wr (some g)):=hgr;have HW:Aside (wr.heap[g]? = some (.cells cur' 113 fz)):=hg';have HS:Aside (cur'.size=cur.size):=hs';have HC:Aside (cur.size=cap*5):=hcs
    clear hel hkj S htk hgr hdr hg' hg hs' hcs hfz hfz' hc hne
    go_wp2
    go_ret
    have hs':=HS.out;have hcs:=HC.out;have hl:(kept who atv j).length*5+(j-(kept who atv j).length)*5<=cap*5:=by rw [<- Nat.add_mul];exact Nat.mul_le_mul_right _ (by omega)
    have hzs:(Builtin.zeroCells #[Value.int IntKind.i64 0,Value.int IntKind.i64 0,Value.string {data:=#[]},Value.int IntKind.i64 0,Value.slice none 0 0] (j-(kept who atv j).length)).size=(j-(kept who atv j).length)*5:=by rw [size_zeroCells];rfl
    have hcl:cur'.toList.length=cur'.size:=Array.length_toList;have htl:(cur'.toList.take ((kept who atv j).length*5)).length=(kept who atv j).length*5:=by rw [List.length_take,hcl];omega
    refine ⟨HG.out.andThen (C1J wr g _ HW.out) (fun k hk=>.inr hk),rfl,_,setRow_heap wr g cur' _ 113 fz HW.out,?_,?_⟩
    ·simp only [List.size_toArray,List.length_append,htl,List.length_drop,Array.length_toList,hzs];omega
    ·rw [<- HT.out];exact List.take_left' htl
set_option maxHeartbeats 4000000 in
set_option maxRecDepth 1000000 in
theorem C6S(w:World)(fv:Value) :
  Calls Tryz.prog 265 #[.slice none 0 0,fv] w fun e w'=>w.grownBy w' none/\e=.returned (.slice none 0 0):=by
 have mixed:Tryz.prog.follows .mixedOrders=true:=by kernel_rfl
 have t3:=Tryz.underlying3;have a3:=Tryz.isAgg3;have z3:=Tryz.sizeOf3;have v3:=Tryz.zeroValue3;have t4:=Tryz.underlying4;have a4:=Tryz.isAgg4;have z4:=Tryz.sizeOf4;have v4:=Tryz.zeroValue4;have tS:=Tryz.underlying35;have aS:=Tryz.isAgg35;have zS:=Tryz.sizeOf35;have vS:=Tryz.zeroValue35;have aE:=Tryz.isAgg113;have zE:=Tryz.sizeOf113;have vE:=Tryz.zeroValue113;have hidx:Calls Tryz.prog 298 #[.slice none 0 0,fv] w fun e w'=>w.grownBy w' none/\e=.returned (.int .i64 (-1)):=by
  go_enter Tryz.func298,Tryz.ntmps298
  go_wp2
  refine wp_loop_rounds 1 ?_;rw [rounds_succ]
  go_wp2
  go_ret
  exact ⟨World.grownBy.refl w none,rfl⟩
 have eix:∀ args w,(callFunc 298 args).run Tryz.prog w=.ok (.enter 298 args) w:=Tryz.call298
 go_enter Tryz.func265,Tryz.ntmps265
 go_wp2_with (go_at_fn 298;refine hidx.mono ?_;rintro e w1 ⟨hgw,rfl⟩)
 go_ret
 exact ⟨hgw,rfl⟩
theorem B8G(k2:K)(hk:(K.pair (.int .i64) k2).sz=5):C2k Tryz.prog 265 266 ⟨[.val false (.sl 113 (.pair (.int .i64) k2)) false,.ptr (.int .i64)],[.val false (.sl 113 (.pair (.int .i64) k2))],fun x=>C2n x.1 x.2.1⟩:=by
 intro x ⟨ys,u1,u2⟩ hy w Z pls args hargs;obtain ⟨xs,atv,rfl⟩:∃ (xs:List (K.pair (.int .i64) k2).T) (atv:Int),x=(xs,atv,()):=⟨x.1,x.2.1,rfl⟩;simp only [C2n] at hy;injection hy with hy;injection hy with hy h1;injection h1 with h1 _
 subst h1;obtain ⟨_,r0,rfl,⟨v,rfl,inner,hown,hcol,hels⟩,_,cs1,r1,rfl,hvar,hlv,rfl⟩:=hargs;obtain rfl:cs1 = [.int .i64 atv]:=hlv
 replace hown:owns w 0 113 (K.pair (.int .i64) k2).sz v xs.length inner:=hown
 have hadc:w.cell? ⟨(pls 1).g,(pls 1).pre.length,none⟩=some (.int .i64 atv):=by
  rw [cell_of_row w _ _ _ _ _ hvar.1];simp
 have hpB:∀ F:F2->Option F2,E9 [(1000,F)] Z (pls 1).g=some [2*pB 1+1]:=fun F=>by
  simp only [E9,hvar.2,W0];rfl
 rcases hown.2 with ⟨rfl,hn0⟩ | ⟨g,cap,cur,fz,rfl,_,hg,hfz,hnc,hcap,hcs,ht⟩
 ·obtain rfl:xs = []:=List.eq_nil_of_length_eq_zero hn0;have hys:ys = []:=by rw [<- hy];rfl
  subst hys;refine (C6S w (.func (.func 266) #[] #[.pointer (some ⟨(pls 1).g,(pls 1).pre.length,none⟩)])).mono ?_;rintro e w' ⟨hgr,rfl⟩;refine ⟨Z,[.slice none 0 0],rfl,fun b hb hlt=>⟨hgr.block b hlt (by simp),hb⟩,fun b hb hlt=>⟨hgr.block b hlt (by simp),hb⟩,⟨hgr.size,hgr.os,hgr.tape,hgr.output⟩,?_⟩;refine ⟨[.slice none 0 0],[],rfl,⟨_,rfl,[],A4s _ _ _ _,fun g' hg'=>by simp [Value.ownBlock] at hg',fun a ha=>by simp at ha⟩,.inr rfl,rfl,?_⟩;exact ⟨_,_,rfl,[.int .i64 atv],_,_,rfl,⟨(hgr.block _ (Array.getElem?_eq_some_iff.1 hvar.1).1 (by simp)).trans hvar.1,hvar.2⟩,rfl,rfl⟩
 ·rw [hk] at hcs ht hfz;have hinl:inner.length=xs.length*5:=by have:=hown.1;rwa [hk] at this
  have hcolg:Z g=some [2*1000]:=hcol g rfl
  let who:Nat->Int:=fun q=>(rd (.pair (.int .i64) k2) xs (q:Int)).1
  have hel0:∀ q,(cur.toList.drop (q*5)).take 5=(cur.toList.drop (q*5)).take 5:=fun q=>rfl
  have hcut:∀ q,q<xs.length->(cur.toList.drop (q*5)).take 5=(inner.drop (q*5)).take 5:=fun q hq=>by
   have hle:q*5+5<=xs.length*5:=by rw [<- Nat.succ_mul];exact Nat.mul_le_mul_right _ hq
   rw [<- ht,List.drop_take,List.take_take,Nat.min_eq_left (by omega)]
  have hels':∀ (q:Nat) (h:q<xs.length),Ow (.pair (.int .i64) k2) w Z ([2*1000] ++ [q]) xs[q] ((cur.toList.drop (q*5)).take 5):=fun q h=>by
   rw [hcut q h];have:=hels q h;rwa [hk] at this
  have hel:∀ q,q<xs.length->∃ rest:List Value,(cur.toList.drop (q*5)).take 5=.int .i64 (who q)::rest/\rest.length+1=5/\∀ u∈rest,u.oneCell' = true:=fun q hq=>by
   have ho:=hels' q hq;have hl:=ho.len;rw [hk] at hl;have h1:=ho.one;obtain ⟨c0,c1,e,e0,e1⟩:=ho;obtain rfl:c0 = [.int .i64 (xs[q]).1]:=e0;have hw:who q=(xs[q]).1:=by show (rd _ xs (q:Int)).1=_;rw [rdn (k:=.pair (.int .i64) k2) (xs:=xs) hq]
   rw [e] at hl h1 ⊢;exact ⟨c1,by rw [hw];rfl,by simpa [Nat.add_comm] using hl,fun u hu=>h1 u (List.mem_append_right _ hu)⟩
  have hpg:(pls 1).g≠g:=fun e=>by
   have:=hvar.2;rw [e,hcolg] at this;injection this with this;injection this with this;omega
  have hrun:=C6R g xs.length cap w hnc (by simpa only [maxLen] using hcap) cur fz hg hfz.1 hcs who atv hel ⟨(pls 1).g,(pls 1).pre.length,none⟩ hadc hpg;refine hrun.mono ?_;rintro e w' ⟨hgr,rfl,cur2,hg2,hs2,htk2⟩
  let Z1:=E9 [(1000,dF who atv)] Z
  have hZg:Z1 g=some [2*5000]:=by
   show E9 [(1000,dF who atv)] Z g=_;simp [E9,hcolg,W0,dF]
  have hnb:∀ b,Z b≠some [2*1000]->b<w.heap.size->w'.heap[b]? = w.heap[b]?:=fun b hb hlt=>hgr.block b hlt (fun e=>by injection e with e;subst e;exact hb hcolg)
  have hkeep:Keeps w w' Z Z1:=fun b hb hlt=>⟨hnb b (fun e=>by rw [hb] at e;cases e) hlt,(M0 w _ Z b hb hlt).2⟩
  refine ⟨Z1,[.slice (some ⟨g,0,none⟩) (kept who atv xs.length).length cap],rfl,hkeep,fun b hb hlt=>⟨hnb b (fun e=>by rw [hb] at e;cases e) hlt,(A2H w _ Z b hb hlt).2⟩,⟨hgr.size,hgr.os,hgr.tape,hgr.output⟩,?_⟩;have hfil:ys=(kept who atv xs.length).map fun q:Nat=>rd (.pair (.int .i64) k2) xs (q:Int):=by
   have:=B9l xs atv xs.length (Nat.le_refl _);rw [List.take_length] at this;rw [<- hy];exact this
  have hyl:ys.length=(kept who atv xs.length).length:=by rw [hfil,List.length_map]
  have hkl:=C1H who atv xs.length;have hfl:∀ l:List Nat,(∀ q∈l,q<xs.length)->(l.flatMap fun q=>(cur.toList.drop (q*5)).take 5).length=l.length*5:=fun l=>by
   induction l with
   | nil=>intro _;simp
   | cons q l ih=>
    intro h;have h1:=(hels' q (h q List.mem_cons_self)).len;rw [hk] at h1;rw [List.flatMap_cons,List.length_append,h1,ih (fun x hx=>h x (List.mem_cons_of_mem _ hx)),List.length_cons,Nat.succ_mul,Nat.add_comm]
  have hmem:∀ q∈kept who atv xs.length,q<xs.length:=fun q hq=>by
   obtain ⟨a,ha⟩:=List.getElem?_of_mem hq;exact (B9k ha).1
  refine ⟨[.slice (some ⟨g,0,none⟩) (kept who atv xs.length).length cap],[],rfl,⟨_,rfl,(kept who atv xs.length).flatMap fun q=>(cur.toList.drop (q*5)).take 5,?_,fun g' hg'=>?_,fun a ha=>?_⟩,.inr rfl,rfl,?_⟩
  ·rw [hyl,hk];exact ⟨hfl _ hmem,.inr ⟨g,cap,cur2,fz,rfl,Nat.zero_le _,hg2,by rw [hs2];exact hfz,by omega,hcap,by rw [hs2];exact hcs,htk2⟩⟩
  ·simp only [Value.ownBlock,Option.some.injEq] at hg';subst hg';exact hZg
  ·have hak:a<(kept who atv xs.length).length:=by rw [<- hyl];exact ha
   obtain ⟨q,hq⟩:∃ q,(kept who atv xs.length)[a]? = some q:=⟨_,List.getElem?_eq_getElem hak⟩;obtain ⟨hql,hqn,hqa⟩:=B9k hq;have e1:ys[a]=xs[q]:=by
    have h1:ys[a]? = some (rd (.pair (.int .i64) k2) xs (q:Int)):=by rw [hfil,List.getElem?_map,hq];rfl
    rw [rdn (k:=.pair (.int .i64) k2) (xs:=xs) hql,List.getElem?_eq_getElem ha] at h1;injection h1
   rw [hk,D6b (fun q=>(cur.toList.drop (q*5)).take 5) 5 _ (fun x hx=>by have:=(hels' x (hmem x hx)).len;rwa [hk] at this) hq,e1];refine (hels' q hql).move (fun b p hb hlt=>?_) hkeep;have hb2:Z b=some (2*1000::q::p):=hb;refine ⟨hnb b (fun e=>by rw [hb2] at e;injection e with e;injection e with _ e;cases e) hlt,?_⟩;show E9 [(1000,dF who atv)] Z b=_;simp only [E9,hb2,W0,if_true,dF,if_neg hqn,hqa];rfl
  ·exact ⟨_,_,rfl,[.int .i64 atv],_,_,rfl,⟨(hgr.block _ (Array.getElem?_eq_some_iff.1 hvar.1).1 (fun e=>hpg (Option.some.inj e))).trans hvar.1,hpB _⟩,rfl,rfl⟩
end Go.Proofs.YtpdcljonclhhpaaGreat.Ev
