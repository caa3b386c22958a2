/- spec.l16Gone: a stream is taken out of a list: the run, and the contract. -/
import Derived.Test.YthnfghmjipikhaaGreatDoorProg
import Derived.Test.YthnfghmjipikhaaGreatDoorEvC
import Derived.Test.YthnfghmjipikhaaGreatDoorDel
import Derived.Shelf.RegionOpenPlain
import Derived.WalkKit
import Derived.Deep.LoopGhost
import Derived.Deep.RegionLaw
import Derived.Lib.Walk
import Derived.Sort.WalkB12
import Derived.Lib.SliceRun
set_option linter.unusedVariables false
set_option linter.unusedSimpArgs false
namespace Go.Proofs.YthnfghmjipikhaaGreatDoor.Ev
open Tryz
open IntKind (i64 u8 u64 u32)
open Go.RowKit Go.Lib Go.Sort
theorem C8w{P:Program}{ops:Array Oper}{o:Oper}{a:Act}{w:World}{K:Act->World->Prop}{Q:Exit->Act->World->Prop}{E:Prop}
  (hg:o.guard=none) (d x:Operand) (t:TypeId) (hop:o.op=Op.call {callee:=Callee.builtin Builtin.append,args:=#[d,x],argTypes:=#[t,t]})
  (v u:Value) (hd:a.eval d=v) (hx:a.eval x=u) {v':Value} {w':World} (hr:(Builtin.append_ #[t,t] o.type #[v,u]).run P w=.ok v' w') (hK:K (a.put o.dst v') w') :
  if Region.wanted o (yielded ops a.tmps)=true then Oper.wp P o a w K Q else E:=by
 have hw:Region.wanted o (yielded ops a.tmps)=true:=by simp [Region.wanted,hg]
 rw [A7 hw];unfold Oper.wp;simp [execOp,hop,resolve,invoke,builtin,hd,hx,hr,Result.andThen];exact hK
set_option maxHeartbeats 4000000 in
set_option maxRecDepth 1000000 in
theorem F0H(pg po g n cap k:Nat)(w:World)(hk:k<n)(hn:n<=cap)(hm:cap<=9223372036854775807)(A:Addr)(v1 u2:Value)(a2:Option Addr)(l2 c2:Nat)(W1 W2:World)
  (h0:w.cell? ⟨pg,po+9,none⟩=some (.slice (some ⟨g,0,none⟩) n cap))
  (hA:(w.alloc (Obj.cells #[] 113)).cell? ⟨pg,po+9,none⟩=some (.slice (some ⟨g,0,none⟩) n cap))
  (hA2:(if cap=k+1 then (some ⟨g,0,none⟩:Option Addr) else some ⟨g,(k+1)*6,none⟩)=some A)
  (hr1:(Builtin.append_ #[53,53] 53 #[.slice (some ⟨w.heap.size,0,none⟩) 0 0,.slice (some ⟨g,0,none⟩) k cap]).run prog (w.drew.alloc (Obj.cells #[] 113))=.ok v1 W1)
  (h1:W1.cell? ⟨pg,po+9,none⟩=some (.slice (some ⟨g,0,none⟩) n cap))
  (hr2:(Builtin.append_ #[53,53] 53 #[v1,.slice (some A) (n-(k+1)) (cap-(k+1))]).run prog W1=.ok (.slice a2 l2 c2) W2)
  (h2:W2.cell? ⟨pg,po+9,none⟩=some u2) (hf2:W2.frozen? ⟨pg,po+9,none⟩=false) :
  Calls prog 227 #[.pointer (some ⟨pg,po,none⟩),.int .i64 k] w fun e w'=>e=.returned (.tuple #[])/\w' = W2.setCell ⟨pg,po+9,none⟩ (.slice a2 l2 c2):=by
 have mixed:prog.follows .mixedOrders=true:=by kernel_rfl
 have t53:=underlying53;have a53:=Tryz.isAgg53;have z53:=Tryz.sizeOf53;have v53:=Tryz.zeroValue53;have t3:=underlying3;have a3:=Tryz.isAgg3;have z3:=Tryz.sizeOf3;have v3:=Tryz.zeroValue3;have t156:=underlying156;have t55:=underlying55;have a113:=Tryz.isAgg113;have z113:=Tryz.sizeOf113;have u53:=I0 t53;have w1:i64.wrap ((k:Int)+1)=(k:Int)+1:=by rw [B3d];omega
 have hkc:k<=cap:=by omega
 have hk1:k+1<=n:=by omega
 have hk2:k+1<=cap:=by omega
 have hkn:k<=n:=by omega
 have hi1:(0:Int)<=(k:Int)+1:=by omega
 have hi2:(k:Int)+1<=(n:Int):=by omega
 have ht:((k:Int)+1).toNat=k+1:=by omega
 go_enter func227,Tryz.ntmps227
 go_wp2
 go_region_law (first | refine C8w rfl (.tmp 5) (.tmp 12) 53 rfl _ _ (by simp [Act.eval,Act.put]) (by simp [Act.eval,Act.put]) hr1 ?_ | refine C8w rfl (.tmp 13) (.tmp 21) 53 rfl _ _ (by simp [Act.eval,Act.put]) (by simp [Act.eval,Act.put]) hr2 ?_)
 all_goals (refine bodyPost_end (results_none rfl _ _ _) rfl ?_;exact ⟨rfl,rfl⟩)
theorem LvC.moveR{w w':World}{Z Z':Col}(hk:Keeps w w' Z Z'):∀ {base:Nat} {k:K} {x:k.T} {cs:List Value},LvC w Z base k x cs->(∀ j,base<=j->j<base+k.sz->Moves w w' Z Z' [2*j] [2*j])->LvC w' Z' base k x cs
 | _,.int _,_,_,h,_=>h
 | _,.bool,_,_,h,_=>h
 | _,.fnc _,_,_,h,_=>h
 | _,.str,_,_,h,_=>h
 | base,.sl e k,x,cs,h,hm=>(Ow.move (k:=.sl e k) (p:= [2*base]) (p':= [2*base]) h (hm base (B6 _) (Nat.lt_add_of_pos_right (K.sz_pos (.sl e k)))) hk:Ow (.sl e k) w' Z' [2*base] x cs)
 | _,.rs _ k,_,_,h,_=>RoL.keep h k.sz_pos hk fun _ _ hr=>Ro.keep hr hk
 | _,.pa _ k,_,_,h,_=>RoP.keep h hk fun _ _ hr=>Ro.keep hr hk
 | base,.pair a b,x,cs,h,hm=>by
  obtain ⟨c0,c1,rfl,h0,h1⟩:=h;have hs:(K.pair a b).sz=a.sz+b.sz:=rfl;exact ⟨c0,c1,rfl,LvC.moveR hk h0 fun j h1 h2=>hm j h1 (by omega),LvC.moveR hk h1 fun j h1 h2=>hm j (by omega) (by omega)⟩
def C6E(w:World)(v:Value)(k:Nat)(Z:Col):Col:=fun b=>
 if b<w.heap.size then (match Z b with
  | some (r::q)=>if r=2*1009 then (match q with
   | []=>none
   | i::q=>if i<k then some (r::i::q) else if i=k then none else some (r::(i-1)::q)) else some (r::q)
  | c=>c)
 else if v.ownBlock=some b then some [2*1009] else none
theorem E1h{w:World}{v:Value}{k:Nat}{Z:Col}{b r:Nat}{q:M8}(hb:b<w.heap.size)(h:Z b=some (r::q))(hr:r≠2*1009):C6E w v k Z b=some (r::q):=by
 unfold C6E;rw [A7 hb,h];simp only [A4 hr]
theorem F3m{α:Type}{A B C D E V G J:List α}{n:Nat}(hA:A.length=1)(hB:B.length=1)(hC:C.length=3)(hD:D.length=2)(hE:E.length=2)(hn:V.length=1)(pre post:List α) :
  pre++((A++(B++(C++(D++(E++(V++G))))))++J)++post=(pre++(A++(B++(C++(D++E)))))++V++(G++J++post)/\(pre++(A++(B++(C++(D++E))))).length=pre.length+9:=by
 refine ⟨by simp only [B3],?_⟩;simp only [A6];omega
set_option maxHeartbeats 4000000 in
set_option maxRecDepth 1000000 in
theorem E3a(kA kB kC kD kE kF kG kJ:K)(hA:kA.sz=1)(hB:kB.sz=1)(hC:kC.sz=3)(hD:kD.sz=2)(hE:kE.sz=2)(hF:kF.sz=6) :
  A28 prog 227 ⟨[.ptr (.pair (.pair kA (.pair kB (.pair kC (.pair kD (.pair kE (.pair (.sl 113 kF) kG)))))) kJ),.val false (.int .i64) false],[],fun x=>D87 x.1 x.2.1⟩:=by
 intro x ⟨y,u⟩ hy w Z pls args hargs;obtain ⟨xA,xB,xC,xD,xE,xs,xG,xJ,i,rfl⟩:∃ (xA:kA.T) (xB:kB.T) (xC:kC.T) (xD:kD.T) (xE:kE.T) (xs:List kF.T) (xG:kG.T) (xJ:kJ.T) (i:Int),x=(((xA,xB,xC,xD,xE,xs,xG),xJ),i,()):=
  ⟨x.1.1.1,x.1.1.2.1,x.1.1.2.2.1,x.1.1.2.2.2.1,x.1.1.2.2.2.2.1,x.1.1.2.2.2.2.2.1,x.1.1.2.2.2.2.2.2,x.1.2,x.2.1,rfl⟩
 have hy:D87 ((xA,xB,xC,xD,xE,xs,xG),xJ) i=some (y,u):=hy;simp only [D87] at hy;obtain ⟨hi0,hy⟩:=J6 hy;obtain ⟨hin,hy⟩:=J6 hy;obtain ⟨hbig,hy⟩:=J6 hy;have hbig:xs.length<=1000000000000:=B7 hbig;have hi0:0<=i:=B7 hi0;have hin:i<(xs.length:Int):=B7 hin;injection hy with hy
 injection hy with hy hu
 subst hy;obtain ⟨k,rfl⟩:∃ a:Nat,i=(a:Int):=⟨i.toNat,by omega⟩;have hk:k<xs.length:=by omega
 obtain ⟨cs,r,rfl,hvar,hlv,cs2,r2,rfl,hi2,_,rfl,hgi⟩:=hargs;simp only [LvC] at hi2;subst hi2;obtain ⟨c1,cJ,rfl,⟨cA,_,rfl,lA,cB,_,rfl,lB,cC,_,rfl,lC,cD,_,rfl,lD,cE,_,rfl,lE,cV,cG,rfl,⟨v,rfl,inner,hown,hcol,hels⟩,lG⟩,lJ⟩:=hlv;have nA:=lA.len;have nB:=lB.len;have nC:=lC.len;have nD:=lD.len;have nE:=lE.len;rw [hA] at nA;rw [hB] at nB;rw [hC] at nC;rw [hD] at nD;rw [hE] at nE;have hb9:pR 0+kA.sz+kB.sz+kC.sz+kD.sz+kE.sz=1009:=by rw [hA,hB,hC,hD,hE]
 rw [hb9] at hcol hels;obtain ⟨q1,q2⟩:=F3m (V:= [v]) (G:=cG) (J:=cJ) (n:=1) nA nB nC nD nE rfl (pls 0).pre (pls 0).post;obtain ⟨hvh,hvc⟩:=hvar;have hown6:owns w 0 113 6 v xs.length inner:=by rw [<- hF];exact hown
 have hinl:inner.length=xs.length*6:=hown6.1;rcases hown6.2 with ⟨_,hn0⟩ | ⟨g,cap,cur,fz,rfl,_,hg,hfz,hnc,hcap,hcs,htk⟩
 ·omega
 have hcolg:Z g=some [2*1009]:=hcol g rfl;have hne:g≠(pls 0).g:=fun e=>by
  rw [<- e,hcolg] at hvc;injection hvc with hvc
  injection hvc with hvc _
  have:pB 0=1000:=rfl;omega
 have hone:∀ u∈inner,u.oneCell' = true:=by
  intro u hu;obtain ⟨q,hq,rfl⟩:=A7U.1 hu;have hq':q / 6<xs.length:=(A6g (by omega)).2 (by rw [<- hinl];exact hq);have:=(hels _ hq').one;refine this _ (B2J.2 ⟨q % 6,?_⟩);rw [hF,I8 (A4l _ (by omega)),H0,A0F,A6B];exact C5 hq
 have hgl:g<w.heap.size:=(B9.1 hg).1;have hpl:(pls 0).g<w.heap.size:=(B9.1 hvh).1;rw [q1] at hvh;generalize hPP:(pls 0).pre++(cA++(cB++(cC++(cD++cE))))=PP at *
 generalize hQQ:cG++cJ++(pls 0).post=QQ at *
 obtain ⟨W0,hW0⟩:∃ W0,W0=w.drew.alloc (Obj.cells #[] 113):=⟨_,rfl⟩;have hs0:W0.heap.size=w.heap.size+1:=by rw [hW0];simp [World.alloc]
 have ho0:∀ b,b<w.heap.size->W0.heap[b]? = w.heap[b]?:=fun b hb=>by rw [hW0];exact Go.heap_alloc_old w.drew _ hb
 have hn0:W0.heap[w.heap.size]? = some (.cells #[] 113 (0,0)):=by rw [hW0];exact Go.heap_alloc_new w.drew _
 obtain ⟨ti,z,hti,htz,hts,htb,htc⟩:∃ ti z,prog.info? 113=some ti/\ti.zero=some z/\ti.size=6/\ti.bytes=72/\z.cells.size=6:=⟨t113,_,by kernel_rfl,rfl,by kernel_rfl,by kernel_rfl,by kernel_rfl⟩;have t53:prog.underlying 53=some (.slice 113):=underlying53;have hcell:∀ (W:World),W.heap[g]? = w.heap[g]?->∀ j u,inner[j]? = some u->W.cell? ⟨g,j,none⟩=some u:=fun W hW j u hu=>by
  rw [A2F W g j cur 113 fz (hW.trans hg),<- M1];rw [<- htk,K8] at hu;split at hu
  ·exact hu
  ·cases hu
 have e0:owns W0 0 113 6 (.slice (some ⟨w.heap.size,0,none⟩) 0 0) 0 []:=⟨rfl,.inr ⟨w.heap.size,0,#[],(0,0),rfl,I9 _,hn0,⟨.inl rfl,.inl rfl⟩,B6 _,by simp [maxLen],rfl,rfl⟩⟩;have l1:(inner.take (k*6)).length=k*6:=by rw [B5,hinl];omega
 obtain ⟨v1,W1,hr1,ho1,hg1,hb1⟩:=C7w (P:=prog) (ty:=53) t53 hti htz hts htb htc (by omega) e0 (A:=some ⟨g,0,none⟩) (m:=k) (c:=cap) (news:=inner.take (k*6)) l1
  (fun ad had j u hu=>by
   injection had with had
   subst had;rw [S6,E9];rw [K8] at hu;split at hu
   ·exact hcell W0 (ho0 g hgl) j u hu
   ·cases hu) (fun h=>by cases h) (fun u hu=>hone u (A7S hu)) (by simp only [maxLen];omega) (by omega)
 rw [E9,F6] at ho1;have k1:∀ b,b<w.heap.size->W1.heap[b]? = w.heap[b]?:=fun b hb=>(hg1.block b (by omega) (fun e=>by simp only [Value.ownBlock,G0] at e;omega)).trans (ho0 b hb)
 obtain ⟨A,hA2,hAc⟩:∃ A:Addr,(if cap=k+1 then (some ⟨g,0,none⟩:Option Addr) else some ⟨g,(k+1)*6,none⟩)=some A/\(cap≠k+1->A=⟨g,(k+1)*6,none⟩):=by
  by_cases h:cap=k+1
  ·exact ⟨_,A7 h,fun q=>absurd h q⟩
  ·exact ⟨_,A4 h,fun _=>rfl⟩
 have l2:(inner.drop ((k+1)*6)).length=(xs.length-(k+1))*6:=by rw [D4,hinl,B54]
 have hv1b:∀ b,v1.ownBlock=some b->w.heap.size<=b:=fun b hb=>by
  rcases hb1 with e | e
  ·rw [e] at hb;simp only [Value.ownBlock,G0] at hb;omega
  ·rw [e] at hb;injection hb with hb;omega
 obtain ⟨v2,W2,hr2,ho2,hg2,hb2⟩:=C7w (P:=prog) (ty:=53) t53 hti htz hts htb htc (by omega) ho1 (A:=some A) (m:=xs.length-(k+1)) (c:=cap-(k+1)) (news:=inner.drop ((k+1)*6)) l2
  (fun ad had j u hu=>by
   injection had with had
   subst had;rw [H0] at hu;have hj:(k+1)*6+j<inner.length:=(D6.1 hu).1;rw [hAc (by omega),S6];exact hcell W1 (k1 g hgl) _ u hu) (fun h=>by cases h) (fun u hu=>hone u (A2J hu)) (by simp only [maxLen];omega) (by omega)
 have k2:∀ b,b<w.heap.size->W2.heap[b]? = w.heap[b]?:=fun b hb=>(hg2.block b (B0E (by omega) hg1.size) (fun e=>by have:=hv1b b e.symm;omega)).trans (k1 b hb)
 have hv2b:∀ b,v2.ownBlock=some b->w.heap.size<=b:=fun b hb=>by
  rcases hb2 with e | e
  ·exact hv1b b (by rw [<- e];exact hb)
  ·rw [e] at hb;injection hb with hb
   have:=hg1.size;omega
 obtain ⟨a2,m2,c2,rfl⟩:∃ a2 m2 c2,v2=.slice a2 m2 c2:=by
  rcases ho2.2 with ⟨e,_⟩ | ⟨g',cap',cur',fz',e,_⟩
  ·exact ⟨_,_,_,e⟩
  ·exact ⟨_,_,_,e⟩
 have hrec:∀ (W:World),W.heap[(pls 0).g]? = w.heap[(pls 0).g]?->W.cell? ⟨(pls 0).g,(pls 0).pre.length+9,none⟩=some (.slice (some ⟨g,0,none⟩) xs.length cap):=fun W hW=>by
  rw [A2F W _ _ _ _ _ (hW.trans hvh),<- q2];simp
 have hfrz:W2.frozen? ⟨(pls 0).g,(pls 0).pre.length+9,none⟩=false:=Thawed.not ((k2 _ hpl).trans hvh) (.inl rfl) (by rw [<- q2];simp);have hrun:=F0H (pls 0).g (pls 0).pre.length g xs.length cap k w hk hnc (by simpa only [maxLen] using hcap) A v1 _ a2 m2 c2 W1 W2 (hrec w rfl) (hrec _ (by exact Go.heap_alloc_old w _ hpl)) hA2 (by rw [<- hW0];exact hr1) (hrec W1 (k1 _ hpl)) hr2 (hrec W2 (k2 _ hpl)) hfrz;refine hrun.mono ?_;rintro e w' ⟨rfl,rfl⟩;have hW2p:=(k2 _ hpl).trans hvh;rw [B8W W2 (pls 0).g ((pls 0).pre.length+9) _ _ _ _ hW2p];generalize hcu:(PP ++ [Value.slice (some ⟨g,0,none⟩) xs.length cap]++QQ).toArray.setIfInBounds ((pls 0).pre.length+9) (.slice a2 m2 c2)=cu;have hcu2:cu=(PP ++ [Value.slice a2 m2 c2]++QQ).toArray:=by
  rw [<- hcu,<- q2];apply D5r;simp
 obtain ⟨w3,hw3⟩:∃ w3,w3=W2.setRow (pls 0).g cu:=⟨_,rfl⟩;rw [<- hw3];have hoth2:∀ b,b≠(pls 0).g->w3.heap[b]? = W2.heap[b]?:=fun b hb=>by rw [hw3];exact A3H W2 _ b _ hb
 have hoth:∀ b,b<w.heap.size->b≠(pls 0).g->w3.heap[b]? = w.heap[b]?:=fun b hb hne=>(hoth2 b hne).trans (k2 b hb)
 have hself:w3.heap[(pls 0).g]? = some (.cells cu (pls 0).t (0,0)):=by rw [hw3];exact A0P W2 _ _ _ _ _ hW2p
 have hkeep:Keeps w w3 Z (C6E w (.slice a2 m2 c2) k Z):=fun b hb hlt=>⟨hoth b hlt (fun e=>by rw [e,hvc] at hb;cases hb),by unfold C6E;rw [A7 hlt,hb]⟩
 have hmv:∀ j,j≠1009->Moves w w3 Z (C6E w (.slice a2 m2 c2) k Z) [2*j] [2*j]:=fun j hj b q hb hlt=>by
  refine ⟨hoth b hlt (fun e=>?_),E1h hlt hb (by omega)⟩;rw [e,hvc] at hb;injection hb with hb
  injection hb with hb _
  omega
 have hin:∀ a a',(a<k/\a' = a)\/(k<a/\a' = a-1)->Moves w w3 Z (C6E w (.slice a2 m2 c2) k Z) ([2*1009] ++ [a]) ([2*1009] ++ [a']):=fun a a' ha b q hb hlt=>by
  have hb':Z b=some (2*1009::a::q):=hb;refine ⟨hoth b hlt (fun e=>?_),?_⟩
  ·rw [e,hvc] at hb';injection hb' with hb'
   injection hb' with hb' _
   have:pB 0=1000:=rfl;omega
  ·unfold C6E;rw [A7 hlt,hb'];simp only [L4];rcases ha with ⟨h1,rfl⟩ | ⟨h1,rfl⟩
   ·rw [A7 h1];rfl
   ·rw [A4 (by omega),A4 (by omega)];rfl
 have hp0:pR 0=1000:=rfl;obtain ⟨q3,_⟩:=F3m (V:= [Value.slice a2 m2 c2]) (G:=cG) (J:=cJ) (n:=1) nA nB nC nD nE rfl (pls 0).pre (pls 0).post;rw [hPP,hQQ] at q3;refine ⟨C6E w (.slice a2 m2 c2) k Z,[],rfl,hkeep,fun b hb hlt=>⟨hoth b hlt (fun e=>by rw [e,hvc] at hb;cases hb),by unfold C6E;rw [A7 hlt,hb]⟩,?_,rfl,_,_,_,rfl,⟨?_,E1h hpl hvc (by have:pB 0=1000:=rfl;omega)⟩,⟨_,cJ,rfl,⟨cA,_,rfl,LvC.moveR hkeep lA fun j h1 h2=>hmv j (by omega),cB,_,rfl,LvC.moveR hkeep lB fun j h1 h2=>hmv j (by omega),cC,_,rfl,LvC.moveR hkeep lC fun j h1 h2=>hmv j (by omega),
  cD,_,rfl,LvC.moveR hkeep lD fun j h1 h2=>hmv j (by omega),cE,_,rfl,LvC.moveR hkeep lE fun j h1 h2=>hmv j (by omega),[.slice a2 m2 c2],cG,rfl,⟨_,rfl,?_⟩,LvC.moveR hkeep lG fun j h1 h2=>hmv j (by simp only [K.sz] at h1;omega)⟩,LvC.moveR hkeep lJ fun j h1 h2=>hmv j (by simp only [K.sz] at h1;omega)⟩,_,_,rfl,rfl⟩
 ·rw [hw3];have:=hg1.size;have:=hg2.size;exact ⟨by simp;omega,hg2.os.trans (hg1.os.trans (by rw [hW0];rfl)),hg2.tape.trans (hg1.tape.trans (by rw [hW0];rfl)),hg2.output.trans (hg1.output.trans (by rw [hW0];rfl))⟩
 ·rw [q3,<- hcu2];exact hself
 ·rw [hb9];have hlen:(xs.take k++xs.drop (k+1)).length=k+(xs.length-(k+1)):=by simp only [A6,B5,D4];omega
  refine ⟨inner.take (k*6)++inner.drop ((k+1)*6),?_,fun b hb=>?_,fun a ha=>?_⟩
  ·simp only [E5];rw [hlen,hF];refine ⟨ho2.1,?_⟩;rcases ho2.2 with h | ⟨g',cap',cur',fz',e,h2,h3,h4⟩
   ·exact .inl h
   ·refine .inr ⟨g',cap',cur',fz',e,h2,(hoth2 g' (fun q=>?_)).trans h3,h4⟩;have:=hv2b g' (by rw [e];rfl);omega
  ·have hge:=hv2b b hb;unfold C6E;rw [A4 (by omega),A7 hb]
  ·simp only [E5] at ha ⊢;rw [hlen] at ha;rw [hF];have hels':∀ (q:Nat) (h:q<xs.length),Ow kF w Z ([2*1009] ++ [q]) xs[q] ((inner.drop (q*6)).take 6):=fun q h=>by
    have:=hels q h
    rwa [hF] at this
   by_cases hai:a<k
   ·have e1:(xs.take k++xs.drop (k+1))[a]'(by rw [hlen];exact ha)=xs[a]'(by omega):=by
     rw [M6 (by rw [B5];omega),B8c]
    have e2:((inner.take (k*6)++inner.drop ((k+1)*6)).drop (a*6)).take 6=(inner.drop (a*6)).take 6:=by
     rw [(B60 (sz:=6) l1).1 hai,A2H,T4]
     congr 1
     omega
    simp only [e1,e2];exact (hels' a (by omega)).move (hin a a (.inl ⟨hai,rfl⟩)) hkeep
   ·have e1:(xs.take k++xs.drop (k+1))[a]'(by rw [hlen];exact ha)=xs[a+1]'(by omega):=by
     rw [N2 (by rw [B5];omega),B2B]
     congr 1
     rw [B5];omega
    have e2:((inner.take (k*6)++inner.drop ((k+1)*6)).drop (a*6)).take 6=(inner.drop ((a+1)*6)).take 6:=by
     rw [(B60 (sz:=6) l1).2 (by omega),T3,<- A03]
     congr 3
     omega
    simp only [e1,e2];exact (hels' (a+1) (by omega)).move (hin (a+1) a (.inr ⟨by omega,rfl⟩)) hkeep
end Go.Proofs.YthnfghmjipikhaaGreatDoor.Ev
