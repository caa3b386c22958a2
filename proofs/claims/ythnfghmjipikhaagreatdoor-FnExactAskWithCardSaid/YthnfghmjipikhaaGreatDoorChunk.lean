/- slices.Chunk and its iterator: the runs. -/
import Derived.Test.YthnfghmjipikhaaGreatDoorEvC
import Derived.Test.YthnfghmjipikhaaGreatDoorProg
import Derived.RangeFuncBox
import Derived.RangeFuncLeaves
import Derived.RangeFuncNested
import Derived.Shelf.Abstract
import Derived.Shelf.RegionOpen
import Derived.WalkKit
import Derived.OwnWalkIn
import Derived.TacticsInMore
import Derived.LoopNIn
import Derived.LoopIn
set_option linter.unusedVariables false
set_option linter.unusedSimpArgs false
namespace Go.Proofs.YthnfghmjipikhaaGreatDoor.Ev
open Tryz
open Go.RowKit Go.Shelf
attribute [local go_sem] Oper.semAt_some
set_option maxRecDepth 100000 in
set_option maxHeartbeats 2000000 in
theorem C1r(w:World)(a:Option Addr)(len cap:Nat)(n:Int)(h0:0<n):Calls prog 143 #[.slice a len cap,.int .i64 n] w fun e w'=>
  e=.returned (.func (.func 185) #[] #[.pointer (some ⟨w.heap.size,0,none⟩),.pointer (some ⟨w.heap.size+1,0,none⟩)])/\∃ t1 t2,w' = (w.alloc (.cells #[.slice a len cap] t1)).alloc (.cells #[.int .i64 n] t2):=by
 refine (B0R (n:=3)).1 (callsIn_of_wp func143 rfl trivial ?_ rfl);simp only [Tryz.ntmps143,F7,G9,I1,Nat.reduceAdd,Nat.reduceSub,Array.replicate_succ,Array.replicate_zero,List.push_toArray,List.append_toArray,F6,C7];have hd:decide (n<1)=false:=Q5 (by omega)
 gi_wp2
 go_ret
 exact ⟨rfl,_,_,rfl⟩
theorem C4t(a b:Nat)(h1:a<=1152921504606846976)(h2:b<=1152921504606846976):wrap64 ((a:Int)+(b:Int))=(a:Int)+(b:Int):=by
 have g1:(a:Int)<=1152921504606846976:=by omega
 have g2:(b:Int)<=1152921504606846976:=by omega
 have g3:0<=(a:Int):=A75 a;have g4:0<=(b:Int):=A75 b;generalize (a:Int)=x at *
 generalize (b:Int)=y at *
 unfold wrap64;omega
theorem C63(n p len q:Nat)(hlt:p<len)(hq:q=min n (len-p)):min (p+n) len-p=q/\p+q<=len/\(0<n->0<q):=by omega
theorem C64(n p len:Nat):(if len-p<n then ((len-p:Nat):Int) else (n:Int))=((min n (len-p):Nat):Int):=by
 by_cases hc:len-p<n
 ·rw [G0 hc,Nat.min_eq_right (A3t hc)]
 ·rw [D6 hc,P2 (Nat.le_of_not_lt hc)]
theorem C3f(L n p:Nat)(h0:0<n)(hlt:p<L):L+n-((p:Int)+(n:Int)).toNat<L+n-(p:Int).toNat:=by omega
theorem C3g(n p k len:Nat)(h0:0<n)(hlt:p<len)(hp:k*n=p):(k+1)*n=p+n/\k+1<=(len+n-1) / n:=
 ⟨by rw [G2,hp],(A43 h0).2 (by rw [G2,hp];omega)⟩
theorem B7m(w:World)(x y:Nat)(cd:BoundsCode)(h:x<=y):(Instr.sliceBound (.int .i64 (x:Int)) y cd).run prog w=.ok x w:=by
 simp [Instr.sliceBound,C4,asIntOf,Int.ofNat_le.2 h,A75]
theorem sl3(w:World)(ad:Addr)(len c p r q:Nat)(h1:p<=r)(h2:r<=c)(h3:¬ r=p)(hq:r-p=q) :
  (Instr.slice 27 (.slice (some ad) len c) (some (.int .i64 p)) (some (.int .i64 r)) (some (.int .i64 r))).run prog w=.ok (.slice (some (ad.add p)) q q) w:=by
 simp [Instr.slice,Instr.sliceBounds,C4,B7m _ _ _ _ h1,B7m _ _ _ _ h2,B7m _ _ _ _ (C6 r),h3,hq,go_sem];intro h;exact absurd h1 (Nat.not_le.2 h)
theorem D0w{n:Nat}{P:Program}{o:Oper}{a:Act}{w w':World}{next:Act->World->Prop}{Q:Exit->Act->World->Prop}{v:Value}(h:(execOp a.eval o).run P w=.ok (.value v) w')(hk:next (a.put o.dst v) w'):o.wpIn Fence.wide n P a w next Q:=
 ⟨fun _ _=>trivial,by
  show o.uponIn Fence.wide n P a next Q ((execOp a.eval o).run P w)
  rw [h];exact hk⟩
theorem D10{n:Nat}{o:Oper}{a:Act}{w:World}{next:Act->World->Prop}{Q:Exit->Act->World->Prop}{x lo hi mx:Nat}(ho:o.op=.slice 27 (.tmp x) (some (.tmp lo)) (some (.tmp hi)) (some (.tmp mx)))
  (ad:Addr) (len c p r q:Nat) (h1:p<=r) (h2:r<=c) (h3:¬ r=p) (hq:r-p=q)
  (e1:a.eval (.tmp x)=.slice (some ad) len c) (e2:a.eval (.tmp lo)=.int .i64 p) (e3:a.eval (.tmp hi)=.int .i64 r) (e4:a.eval (.tmp mx)=.int .i64 r) (hk:next (a.put o.dst (.slice (some (ad.add p)) q q)) w) :
  o.wpIn Fence.wide n prog a w next Q:=by
 refine D0w (v:=.slice (some (ad.add p)) q q) ?_ hk;have hu:prog.underlying 27=some (.slice 5):=underlying27;simp [execOp,ho,Instr.sliceAt,C4,R9 hu,e1,e2,e3,e4,sl3 w ad len c p r q h1 h2 h3 hq]
theorem C8I{n:Nat}{o:Oper}{a:Act}{w:World}{next:Act->World->Prop}{Q:Exit->Act->World->Prop}{x y l:Nat}{ats:Array TypeId}(ho:o.op=.call {callee:=.value (.tmp x),args:=#[.tmp y],argTypes:=ats})
  (e1:a.eval (.tmp x)=.func (.yield l) #[] #[]) {v:Value} (e2:a.eval (.tmp y)=v) {fn:FuncId} {tmps:Array Value} {assign body:Code} (hy:(Instr.yield l #[v]).run prog w=.ok (.round l fn tmps assign body) w)
  {J:World->Prop} (hR:RoundIn Fence.wide n prog l fn tmps assign body w fun e W=>e=.returned (.bool true)/\J W) (hk:∀ W,J W->next (a.put o.dst (.bool true)) W) :
  o.wpIn Fence.wide (n+1) prog a w next Q:=by
 refine ⟨fun _ _=>trivial,?_⟩;show o.uponIn Fence.wide (n+1) prog a next Q ((execOp a.eval o).run prog w)
 have:(execOp a.eval o).run prog w=.ok (.round l fn tmps assign body) w:=by
  simp [execOp,ho,resolve,invoke,e1,e2,Deferred.ofValue,C4,hy]
 rw [this];refine ⟨fun h=>by simp [Fence.wide] at h,hR.mono ?_⟩;rintro e W ⟨rfl,h⟩;exact hk W h
set_option maxRecDepth 100000 in
set_option maxHeartbeats 4000000 in
theorem C9r(N l b1 b2 e:Nat)(xs:List Int)(n:Nat)(h0:0<n)(h1:n<=1048576)(hx:xs.length<=1152921504606846976)(J:Nat->World->Prop)(hd:∀ i W,J i W->J i W.drew)
  (hC:∀ i W,J i W->∃ v1 Z,W.cell? ⟨b1,0,none⟩=some v1/\W.cell? ⟨b2,0,none⟩=some (.int .i64 n)/\Ro (.rs e (.int .u8)) W Z xs [v1])
  (hY:∀ i W v1,i*n<xs.length->J i W->W.cell? ⟨b1,0,none⟩=some v1->
   YieldAt Fence.wide N prog l #[C0m (i*n) (min (i*n+n) xs.length) v1] W (fun e W'=>e=.returned (.bool true)/\J (i+1) W'))
  (W:World) (hJ:J 0 W):CallsIn Fence.wide (N+1) prog 185 (#[.func (.yield l) #[] #[]]++#[.pointer (some ⟨b1,0,none⟩),.pointer (some ⟨b2,0,none⟩)]) W fun e W'=>(∃ v,e=.returned v)/\J ((xs.length+n-1) / n) W':=by
 show CallsIn Fence.wide (N+1) prog 185 #[.func (.yield l) #[] #[],.pointer (some ⟨b1,0,none⟩),.pointer (some ⟨b2,0,none⟩)] W _;have hmix:prog.follows .mixedOrders=true:=by kernel_rfl
 refine callsIn_of_wp func185 rfl trivial ?_ rfl;simp only [Tryz.ntmps185,F7,G9,I1,Nat.reduceAdd,Nat.reduceSub,Array.replicate_succ,Array.replicate_zero,List.push_toArray,List.append_toArray,F6,C7];have hpos:1<=N+1:=by omega
 gi_wp2
 gi_loopw [4] (fun i wr=>∃ k p:Nat,i=.int .i64 (p:Int)/\k*n=p/\k<=(xs.length+n-1) / n/\J k wr) (fun i _=>xs.length+n-(intOf i).toNat)
 case atStart=>exact ⟨0,0,rfl,by simp,G6 _,hJ⟩
 case round=>
  obtain ⟨k,p,rfl,hp,hk,hJs⟩:=hrel;obtain ⟨v1,Z,c1,c2,hro⟩:=hC k wr hJs;obtain ⟨A,c,e1,hl,hm,hc⟩:=hro;injection e1 with e1 _
  subst e1;by_cases hlt:p<xs.length
  ·obtain ⟨ad,rfl,_⟩:=hc (Nat.lt_of_le_of_lt (G6 _) hlt)
   clear hc hm
   obtain ⟨q,hq⟩:∃ q,q=min n (xs.length-p):=⟨_,rfl⟩;obtain ⟨q2,g1,gq⟩:=C63 n p xs.length q hlt hq;have q1:=C64 n p xs.length;rw [<- hq] at q1;have gq:=gq h0;have hql:q<=1152921504606846976:=A00 (hq▸Nat.min_le_left _ _) (A00 h1 (by decide));have hpl:p<=1152921504606846976:=A00 (A3t hlt) hx;have hw0:=C4t p q hpl hql;have hw2:=C4t p n hpl (A00 h1 (by decide));obtain ⟨e1,e3⟩:=C3g n p k xs.length h0 hlt hp
   clear hx hql hpl h1 hq
   obtain ⟨r,hr⟩:∃ r,p+q=r:=⟨_,rfl⟩;have hw:wrap64 ((p:Int)+(q:Int))=(r:Int):=by rw [hw0,<- hr];rfl
   have g4:r<=c:=by rw [<- hr];exact A00 g1 hl
   have g5:p<=r:=by rw [<- hr];exact Nat.le_add_right _ _
   have g6:r-p=q:=by rw [<- hr];exact M7 _ _
   have g7:¬ r=p:=fun e=>by rw [e,Nat.sub_self] at g6;exact absurd g6 (Nat.ne_of_lt gq)
   have g8:(r:Int)<=(c:Int):=Int.ofNat_le.2 g4;have g9:(p:Int)<=(r:Int):=Int.ofNat_le.2 g5
   clear hw0 hr
   have hJd:=hd k wr hJs;have c1d:wr.drew.cell? ⟨b1,0,none⟩=some (.slice (some ad) xs.length c):=c1;have c2d:wr.drew.cell? ⟨b2,0,none⟩=some (.int .i64 n):=c2;obtain ⟨fn,tmps,assign,body,hy,hR⟩:=hY k wr.drew _ (hp▸hlt) hJd c1d;rw [hp] at hy;have ecut:C0m p (min (p+n) xs.length) (Value.slice (some ad) xs.length c)=.slice (some (ad.add p)) q q:=by
    simp only [C0m,Option.map,q2]
   rw [ecut] at hy
   clear ecut q2
   have hlti:decide ((p:Int)<(xs.length:Int))=true:=A0I (Int.ofNat_lt.2 hlt)
   gi_wp2
   gi_region
   iterate 32 gi_step
   rw [hw];refine D10 rfl ad xs.length c p r q g5 g4 g7 g6 rfl rfl rfl rfl ?_
   gi_step
   gi_step
   refine C8I rfl rfl rfl hy hR fun W3 hJ3=>?_
   obtain ⟨v1',Z',c1',c2',_⟩:=hC (k+1) W3 hJ3;simp only [Act.put,List.setIfInBounds_toArray,List.set_cons_succ,List.set_cons_zero]
   gi_wp2
   rw [hw2]
   go_roundw
   case rel=>exact ⟨k+1,p+n,by rw [Int.natCast_add],e1,e3,hJ3⟩
   case measure=>
    exact C3f xs.length n p h0 hlt
  ·have hlti:decide ((p:Int)<(xs.length:Int))=false:=Q5 (by omega)
   gi_wp2
   go_end0
   refine ⟨⟨_,rfl⟩,?_⟩;have:(xs.length+n-1) / n<k+1:=(U8 (by omega)).2 (by rw [G2,hp];omega);have:k=(xs.length+n-1) / n:=by omega
   rw [<- this];exact hJs
theorem C9s:B65 prog 143 185:=by
 refine ⟨⟨fun args w=>call185 args w,fun N l b1 b2 e xs n h0 h1 hx J hd hC hY W hJ=>C9r N l b1 b2 e xs n h0 h1 hx J hd hC hY W hJ⟩,fun w a len cap n h0=>(C1r w a len cap n h0).mono ?_⟩;rintro e w' ⟨rfl,t1,t2,rfl⟩;refine ⟨w.heap.size,w.heap.size+1,rfl,⟨by simp;omega,rfl,rfl,rfl⟩,fun b hb=>?_,C6 _,by omega,?_,?_⟩
 ·rw [alloc_old _ _ _ (by simp;omega),alloc_old _ _ _ hb]
 ·have h1:((w.alloc (.cells #[.slice a len cap] t1)).alloc (.cells #[.int .i64 n] t2)).heap[w.heap.size]? = some (.cells #[.slice a len cap] t1):=(alloc_old _ _ _ (by simp)).trans (A1N _ _);simp only [World.cell?,h1];rfl
 ·have h1:((w.alloc (.cells #[.slice a len cap] t1)).alloc (.cells #[.int .i64 n] t2)).heap[w.heap.size+1]? = some (.cells #[.int .i64 n] t2):=by
   have:=A1N (w.alloc (.cells #[.slice a len cap] t1)) (.cells #[.int .i64 n] t2)
   rwa [World.size_alloc] at this
  simp only [World.cell?,h1];rfl
end Go.Proofs.YthnfghmjipikhaaGreatDoor.Ev
