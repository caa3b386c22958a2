/- slices.Insert at a struct of 2 cells: the run, and the contract. -/
import Derived.Test.YthnfghmjipikhaaGreatDoorDel
import Derived.Lib.AppendZerosOnto
import Derived.Lib.Overlaps
import Derived.Laws.Externs
import Derived.Laws.IdiomCopy
import Derived.Laws.NewBlocks
set_option linter.unusedVariables false
set_option linter.unusedSimpArgs false
set_option linter.defProp false
namespace Go.Proofs.YthnfghmjipikhaaGreatDoor.Ev
open Tryz
open IntKind (i64 u8 u64 u32)
def A46:=@Lib.wpList_append_run
open Go.RowKit Go.Lib Go.Sort
theorem A2o{P:Program}(w:World)(dT sT ty elem:TypeId)(b o dLen dCap:Nat)(a:Addr)(sLen sCap:Nat)(cs:List Value)(sz k:Nat)
  (hu:P.underlying dT=some (.slice elem)) (hs:(P.info? elem).map (·.size)=some sz) (hk:k=Nat.min sLen dLen) (hn:cs.length=k*sz)
  (hsrc:∀ j v,cs[j]? = some v->w.cell? (a.add j)=some v) (hc:∀ j,j<cs.length->(w.cell? ⟨b,o+j,none⟩).isSome=true) (hf:∀ j,j<cs.length->w.frozen? ⟨b,o+j,none⟩=false) (h1:∀ v∈cs,v.oneCell' = true) :
  (Builtin.copy_ #[dT,sT] ty #[.slice (some ⟨b,o,none⟩) dLen dCap,.slice (some a) sLen sCap]).run P w=.ok (goInt k) (w.setCells b o cs):=by
 have hl:=B3Q (P:=P) w a cs hsrc;have hst:=B1u (P:=P) b o cs 0 w (by simpa using hc) (by simpa using hf) h1;cases hq:P.info? elem with
 | none=>simp [hq] at hs
 | some i=>
  have hi:i.size=sz:=by simpa [hq] using hs
  rw [hn] at hl;simp [Builtin.copy_,F9 hu,Builtin.lenOf,Builtin.firstCells,sizeOf,typeInfo,hq,hi,<- hk,hl,hst]
theorem A4P{P:Program}(w:World){ops:Array Oper}{rest:List Oper}{o:Oper}{a:Act}{Q:Exit->Act->World->Prop}(hgd:o.guard=none)(d s:Operand)(t t':TypeId)
  (ho:o.op=.call {callee:=.builtin .copy,args:=#[d,s],argTypes:=#[t,t']}) (v u:Value) (hd:a.eval d=v) (hs:a.eval s=u) {v':Value} {w':World}
  (hr:(Builtin.copy_ #[t,t'] o.type #[v,u]).run P w=.ok v' w') (h:wpList P ops Q rest (a.put o.dst v') w'):wpList P ops Q (o::rest) a w:=
 wpList_plain hgd fun _ hK=>by
  unfold Oper.wp execOp;simp only [ho,resolve,invoke,builtin,C4,A3r,H2,List.map_toArray,G3,A6R,hd,hs,hr];exact hK _ _ h
theorem B1R{P:Program}{ops:Array Oper}{o:Oper}{a:Act}{w:World}{K:Act->World->Prop}{Q:Exit->Act->World->Prop}{E:Prop}
  (hg:o.guard=none) (d x:Operand) (dT sT:TypeId) (hop:o.op=Op.call {callee:=Callee.builtin Builtin.copy,args:=#[d,x],argTypes:=#[dT,sT]})
  (v u:Value) (hd:a.eval d=v) (hx:a.eval x=u) {v':Value} {w':World} (hr:(Builtin.copy_ #[dT,sT] o.type #[v,u]).run P w=.ok v' w') (hK:K (a.put o.dst v') w') :
  if Region.wanted o (yielded ops a.tmps)=true then Oper.wp P o a w K Q else E:=by
 have hw:Region.wanted o (yielded ops a.tmps)=true:=by simp [Region.wanted,hg]
 rw [G0 hw];unfold Oper.wp;simp [execOp,hop,resolve,invoke,builtin,hd,hx,hr,Result.andThen];exact hK
theorem A9F(b:Nat)(vs:List Value)(o:Nat)(w:World)(h:∀ j,j<vs.length->(w.cell? ⟨b,o+j,none⟩).isSome=true)(k:Nat)(hk:(w.cell? ⟨b,k,none⟩).isSome=true):((w.setCells b o vs).cell? ⟨b,k,none⟩).isSome=true:=by
 by_cases hin:o<=k/\k<o+vs.length
 ·have:=A9M b vs o w h (k-o) (by omega);rw [show o+(k-o)=k by omega] at this;rw [this];rfl
 ·rw [A08 b vs o w ⟨b,k,none⟩ (fun _ _=>by show k<o\/o+vs.length<=k;omega)];exact hk
def C8H(w:World)(g0:Option Nat)(xs:List Value)(n:Nat)(e:Ending)(w':World):Prop:=
 ∃ g cap cur,e=.returned (.slice (some ⟨g,0,none⟩) n cap)/\w'.heap[g]? = some (.cells cur 150 (0,0))/\n<=cap/\cap<=maxLen/\cur.size=cap*2/\cur.toList.take (n*2)=xs/\
  (∀ b,b≠g->g0≠some b->b<w.heap.size->w'.heap[b]? = w.heap[b]?)/\(g0=some g\/g=w.heap.size)/\Later w w'
set_option maxHeartbeats 4000000 in
set_option maxRecDepth 1000000 in
theorem B7l(base:Option Addr)(hb:∀ a,base=some a->a.off=0/\a.spot=none)(n c vb m vc:Nat)(v':Value)(w w':World)(hm:0<m)(hnc:n<=c)(h63:n+m<=9223372036854775807)(hnil:base=none->n=0/\c=0)
  (hrun:∀ ty,(Builtin.append_ #[30,30] ty #[.slice base n c,.slice (some ⟨vb,0,none⟩) m vc]).run prog w=.ok v' w') :
  Calls prog 194 #[.slice base n c,.int .i64 n,.slice (some ⟨vb,0,none⟩) m vc] w fun e w2=>e=.returned v'/\w2=w':=by
 have mixed:prog.follows .mixedOrders=true:=by kernel_rfl
 have t34:=underlying30;have a34:=Tryz.isAgg30;have z34:=Tryz.sizeOf30;have v34:=Tryz.zeroValue30;have t3:=underlying3;have a3:=Tryz.isAgg3;have z3:=Tryz.sizeOf3;have v3:=Tryz.zeroValue3;have t4:=underlying4;have a4:=Tryz.isAgg4;have z4:=Tryz.sizeOf4;have v4:=Tryz.zeroValue4;have a56:=Tryz.isAgg150;have z56:=Tryz.sizeOf150;have u34:=F9 t34;have hz1:¬ ((m:Int)=0):=by omega
 go_enter func194,Tryz.ntmps194
 cases base with
 | none=>
  obtain ⟨rfl,rfl⟩:=hnil rfl
  go_wp2_with (at_builtin;refine A46 _ rfl _ _ _ _ rfl _ _ rfl rfl _ _ (hrun _) ?_)
  go_ret
  exact ⟨rfl,rfl⟩
 | some a=>
  obtain ⟨ab,ao,asp⟩:=a;obtain ⟨rfl,rfl⟩:=hb _ rfl
  go_wp2_with (at_builtin;refine A46 _ rfl _ _ _ _ rfl _ _ rfl rfl _ _ (hrun _) ?_)
  all_goals (go_ret;exact ⟨rfl,rfl⟩)
set_option maxHeartbeats 4000000 in
set_option maxRecDepth 1000000 in
theorem C0R(b n c i vb m vc:Nat)(cs vs:List Value)(w:World)(hi:i<n)(hm:0<m)(hroom:n+m<=c)(hc63:c<=9223372036854775807)(hvb:vb≠b)
  (hcl:cs.length=n*2) (hvl:vs.length=m*2)
  (hcs:∀ j v,cs[j]? = some v->w.cell? ⟨b,j,none⟩=some v) (hsp:∀ j,j<(n+m)*2->(w.cell? ⟨b,j,none⟩).isSome=true) (hfz:∀ j,j<(n+m)*2->w.frozen? ⟨b,j,none⟩=false)
  (hvs:∀ j v,vs[j]? = some v->w.cell? ⟨vb,j,none⟩=some v) (h1c:∀ v∈cs,v.oneCell' = true) (h1v:∀ v∈vs,v.oneCell' = true)
  (tA tB:TypeId) (kA kB:Nat) (hsa:w.shape? vb=some (tA,kA)) (hsb:w.shape? b=some (tB,kB)) (hkB:kB≠0) (hfa:w.frozen? ⟨vb,0,none⟩=false) (hfe:w.frozen? ⟨vb,kA,none⟩=false) :
  Calls prog 194 #[.slice (some ⟨b,0,none⟩) n c,.int .i64 i,.slice (some ⟨vb,0,none⟩) m vc] w fun e w'=>
   e=.returned (.slice (some ⟨b,0,none⟩) (n+m) c)/\w' = (w.drew.setCells b ((i+m)*2) (cs.drop (i*2))).setCells b (i*2) vs:=by
 have mixed:prog.follows .mixedOrders=true:=by kernel_rfl
 have t34:=underlying30;have a34:=Tryz.isAgg30;have z34:=Tryz.sizeOf30;have v34:=Tryz.zeroValue30;have t3:=underlying3;have a3:=Tryz.isAgg3;have z3:=Tryz.sizeOf3;have v3:=Tryz.zeroValue3;have t4:=underlying4;have a4:=Tryz.isAgg4;have z4:=Tryz.sizeOf4;have v4:=Tryz.zeroValue4;have a56:=Tryz.isAgg150;have z56:=Tryz.sizeOf150;have u34:=F9 t34;have hz1:¬ ((m:Int)=0):=by omega
 have hz2:¬ ((i:Int)=(n:Int)):=by omega
 have hsz:(prog.info? 150).map (·.size)=some 2:=by kernel_rfl
 have hov:∀ lb cb,(callFunc 219 #[.slice (some ⟨vb,0,none⟩) m vc,.slice (some ⟨b,(i+m)*2,none⟩) lb cb]).run prog w=.ok (.value (.bool false)) w:=fun lb cb=>by
  rw [run_callFunc_extern func219 (by kernel_rfl) (by kernel_rfl) (by kernel_rfl) (e:=Extern.SlicesOverlaps.overlaps #[30,30] #[2]) (by kernel_rfl),
   Lib.run_overlaps_apart w 30 2 150 t34 2 z56 ⟨vb,0,none⟩ ⟨b,(i+m)*2,none⟩ m vc lb cb hvb tA tB kA kB hsa hsb hkB hfa hfe]
  rfl
 have hdl:(cs.drop (i*2)).length=(n-i)*2:=by rw [C5,hcl,A5h]
 have hw1:i64.wrap ((i:Int)+(m:Int))=(i:Int)+(m:Int):=by rw [A9N];omega
 have hb1:(0:Int)<=(i:Int)+(m:Int):=by omega
 have hin:i<=n:=by omega
 have htn:((i:Int)+(m:Int)).toNat=i+m:=by omega
 have hb2:¬ (c=i+m):=by omega
 have hb3:(i:Int)<=(n:Int)+(m:Int):=by omega
 have hb4:¬ (c=i):=by omega
 have hcp1:∀ ty dc sc,(Builtin.copy_ #[30,30] ty #[.slice (some ⟨b,(i+m)*2,none⟩) (n+m-(i+m)) dc,.slice (some ⟨b,i*2,none⟩) (n+m-i) sc]).run prog w.drew=.ok (goInt ((n-i:Nat):Int)) (w.drew.setCells b ((i+m)*2) (cs.drop (i*2))):=fun ty dc sc=>
  A2o w.drew _ _ ty 150 b ((i+m)*2) (n+m-(i+m)) dc ⟨b,i*2,none⟩ (n+m-i) sc (cs.drop (i*2)) 2 (n-i) t34 hsz (by simp only [B1v];split<;>omega) hdl
   (fun j v hj=>by rw [R4];exact hcs (i*2+j) v (by rwa [F3] at hj))
   (fun j hj=>hsp _ (by rw [hdl] at hj;omega)) (fun j hj=>hfz _ (by rw [hdl] at hj;omega)) (fun v hv=>h1c v (R8 hv))
 obtain ⟨W1,hW1⟩:∃ W1,W1=w.drew.setCells b ((i+m)*2) (cs.drop (i*2)):=⟨_,rfl⟩;have hsp1:∀ k,k<(n+m)*2->(W1.cell? ⟨b,k,none⟩).isSome=true:=fun k hk=>by
  rw [hW1];exact A9F b (cs.drop (i*2)) ((i+m)*2) w.drew (fun j hj=>hsp _ (by rw [hdl] at hj;omega)) k (hsp k hk)
 have hcp2:∀ (W:World),(∀ x,W.cell? x=W1.cell? x)->(∀ x,W.frozen? x=W1.frozen? x)->∀ ty dc,(Builtin.copy_ #[30,30] ty #[.slice (some ⟨b,i*2,none⟩) (n+m-i) dc,.slice (some ⟨vb,0,none⟩) m vc]).run prog W=.ok (goInt m) (W.setCells b (i*2) vs):=fun W hWc hWf ty dc=>
  A2o W _ _ ty 150 b (i*2) (n+m-i) dc ⟨vb,0,none⟩ m vc vs 2 m t34 hsz (by simp only [B1v];split<;>omega) hvl
   (fun j v hj=>by
    rw [R4,hWc,hW1,A08 b _ _ _ _ (fun h _=>absurd h hvb),D9];exact hvs j v hj)
   (fun j hj=>by rw [hWc];exact hsp1 _ (by omega)) (fun j hj=>by rw [hWf,hW1,A3w];exact hfz _ (by omega)) h1v
 rw [<- hW1] at hcp1
 clear hsp hfz hsp1 hcs hvs hdl hcl hvl
 go_enter func194,Tryz.ntmps194
 go_wp2_with (simp only [hov])
 go_region_law_o (refine B1R rfl _ _ 30 30 rfl _ _ (by simp [Act.eval,Act.put]) (by simp [Act.eval,Act.put]) (hcp1 _ _ _) ?_)
 go_wp2_with (at_builtin;refine A4P _ rfl _ _ 30 30 rfl _ _ rfl rfl (hcp2 _ (fun _=>rfl) (fun _=>rfl) _ _) ?_)
 go_ret
 first | exact ⟨rfl,rfl⟩ | exact ⟨rfl,by rw [hW1]⟩
set_option maxHeartbeats 4000000 in
set_option maxRecDepth 1000000 in
theorem C1p(b n c i vb m vc:Nat)(cs vs:List Value)(w:World)(hi:i<n)(hm:0<m)(hnc:n<=c)(hroom:c<n+m)(hbig:(n+m)*32<=140737488355328)
  (hcl:cs.length=n*2) (hvl:vs.length=m*2)
  (hcs:∀ j v,cs[j]? = some v->w.cell? ⟨b,j,none⟩=some v)
  (hvs:∀ j v,vs[j]? = some v->w.cell? ⟨vb,j,none⟩=some v) (h1c:∀ v∈cs,v.oneCell' = true) (h1v:∀ v∈vs,v.oneCell' = true) :
  Calls prog 194 #[.slice (some ⟨b,0,none⟩) n c,.int .i64 i,.slice (some ⟨vb,0,none⟩) m vc] w fun e w'=>
   ∃ G ROW,n+m<=G/\G<=maxLen/\ROW.size=G*2/\ROW.toList.take (i*2)=cs.take (i*2)/\e=.returned (.slice (some ⟨w.heap.size,0,none⟩) (n+m) G)/\
   w' = (((w.alloc (.cells ROW 150)).drew.setCells w.heap.size (i*2) vs).drew).setCells w.heap.size ((i+m)*2) (cs.drop (i*2)):=by
 have mixed:prog.follows .mixedOrders=true:=by kernel_rfl
 have t34:=underlying30;have a34:=Tryz.isAgg30;have z34:=Tryz.sizeOf30;have v34:=Tryz.zeroValue30;have t3:=underlying3;have a3:=Tryz.isAgg3;have z3:=Tryz.sizeOf3;have v3:=Tryz.zeroValue3;have t4:=underlying4;have a4:=Tryz.isAgg4;have z4:=Tryz.sizeOf4;have v4:=Tryz.zeroValue4;have a56:=Tryz.isAgg150;have z56:=Tryz.sizeOf150;have u34:=F9 t34;obtain ⟨i0,hi0,hz0,hzs,hzb⟩:∃ i0,prog.info? 150=some i0/\i0.zero=some (.agg #[Value.string {data:=#[]},Value.string {data:=#[]}])/\i0.size=2/\i0.bytes=32:=⟨t150,by kernel_rfl,by kernel_rfl,by kernel_rfl,by kernel_rfl⟩;have hz1:¬ ((m:Int)=0):=by omega
 have hz2:¬ ((i:Int)=(n:Int)):=by omega
 have hz3:(c:Int)<(n:Int)+(m:Int):=by omega
 have hsz:(prog.info? 150).map (·.size)=some 2:=by rw [hi0];simp [hzs]
 have hbw:b<w.heap.size:=A4g (hcs 0 _ (C0 (by omega)));have hvw:vb<w.heap.size:=A4g (hvs 0 _ (C0 (by omega)));have hkk:(n:Int)+(m:Int)-(i:Int)=((n+m-i:Nat):Int):=by omega
 have hik:i+(n+m-i)=n+m:=by omega
 have htl:(cs.take (i*2)).length=i*2:=by rw [B2];omega
 have hold:(Builtin.firstCells i0.size i (.slice (some ⟨b,0,none⟩) i c)).run prog w.drew=.ok (cs.take (i*2)).toArray w.drew:=by
  rw [hzs];exact B2U w.drew 2 i ⟨b,0,none⟩ i c (cs.take (i*2)) htl (fun j v hj=>by
   rw [R4,D9];rw [L3] at hj;split at hj
   ·exact hcs j v hj
   ·cases hj)
 obtain ⟨G,hG⟩:∃ G,G=grownCap w (n+m) c 150:=⟨_,rfl⟩;obtain ⟨ROW,hROW⟩:∃ ROW:Array Value,ROW=(cs.take (i*2)).toArray++Builtin.zeroCells #[Value.string {data:=#[]},Value.string {data:=#[]}] (n+m-i)++Builtin.zeroCells #[Value.string {data:=#[]},Value.string {data:=#[]}] (G-(n+m)):=⟨_,rfl⟩;have hrz:∀ ty,(Builtin.append_ #[30,3] ty #[.slice (some ⟨b,0,none⟩) i c,.int .i64 ((n:Int)+(m:Int)-(i:Int))]).run prog w =
   .ok (.slice (some ⟨w.heap.size,0,none⟩) (n+m) G) (w.drew.alloc (.cells ROW 150)):=fun ty=>by
  have h:=Lib.run_append_grow_zeros w 30 3 ty 150 i0 _ .i64 .i64 t34 t3 hi0 hz0 (some ⟨b,0,none⟩) i c (cs.take (i*2)) hold (n+m-i) (by omega) (by omega) (by omega) (by omega) (by rw [hzb];omega) (by rw [hzb,hik];exact A3o hroom hbig);rw [hik,<- hG] at h;rw [hkk,hROW];exact h
 have hGn:n+m<=G:=by rw [hG];exact A1L w _ _ _
 have hGM:G<=maxLen:=by rw [hG];exact R3 w (n+m) c 150 (by unfold maxLen;omega)
 have hG63:G<=9223372036854775807:=by have:=hGM;unfold maxLen at this;omega
 have hRs:ROW.size=G*2:=by
  rw [hROW];simp only [S2,F7,htl,U4];show i*2+(n+m-i)*2+(G-(n+m))*2=G*2;omega
 have hRt:ROW.toList.take (i*2)=cs.take (i*2):=by
  rw [hROW];simp only [A0C,A7];rw [F2 (by rw [htl];exact C6 _),E8 (by rw [htl];exact C6 _)]
 obtain ⟨W1,hW1⟩:∃ W1,W1=w.drew.alloc (.cells ROW 150):=⟨_,rfl⟩;rw [<- hW1] at hrz;have hN:∀ j,j<(n+m)*2->(W1.cell? ⟨w.heap.size,j,none⟩).isSome=true:=fun j hj=>by
  rw [hW1,World.cell?_alloc_at (w:=w.drew) ROW _ w.heap.size j rfl,H3 (by rw [hRs];omega)];rfl
 have hNf:∀ j,W1.frozen? ⟨w.heap.size,j,none⟩=false:=fun j=>by rw [hW1];exact World.frozen?_alloc_at (w:=w.drew) ROW _ w.heap.size j rfl
 have hOb:∀ j v,w.cell? ⟨b,j,none⟩=some v->W1.cell? ⟨b,j,none⟩=some v:=fun j v h=>by rw [hW1,B0S (w:=w.drew) _ b j hbw];exact h
 have hOv:∀ j v,w.cell? ⟨vb,j,none⟩=some v->W1.cell? ⟨vb,j,none⟩=some v:=fun j v h=>by rw [hW1,B0S (w:=w.drew) _ vb j hvw];exact h
 have hcpA:∀ (W:World),(∀ x,W.cell? x=W1.cell? x)->(∀ x,W.frozen? x=W1.frozen? x)->∀ ty dc,(Builtin.copy_ #[30,30] ty #[.slice (some ⟨w.heap.size,i*2,none⟩) (n+m-i) dc,.slice (some ⟨vb,0,none⟩) m vc]).run prog W=.ok (goInt m) (W.setCells w.heap.size (i*2) vs):=fun W hWc hWf ty dc=>
  A2o W _ _ ty 150 w.heap.size (i*2) (n+m-i) dc ⟨vb,0,none⟩ m vc vs 2 m t34 hsz (by simp only [B1v];split<;>omega) hvl
   (fun j v hj=>by rw [R4,hWc,D9];exact hOv _ v (hvs j v hj))
   (fun j hj=>by rw [hWc];exact hN _ (by omega)) (fun j hj=>by rw [hWf];exact hNf _) h1v
 have hGi:¬ (G=i):=by omega
 have hGim:¬ (G=i+m):=by omega
 have hci:¬ (c=i):=by omega
 have hbN:b≠w.heap.size:=by omega
 have hdl:(cs.drop (i*2)).length=(n-i)*2:=by rw [C5,hcl,A5h]
 have hcpB:∀ (W:World),(∀ x,W.cell? x=(W1.setCells w.heap.size (i*2) vs).cell? x)->(∀ x,W.frozen? x=(W1.setCells w.heap.size (i*2) vs).frozen? x)->∀ ty dc sc,(Builtin.copy_ #[30,30] ty #[.slice (some ⟨w.heap.size,(i+m)*2,none⟩) (n+m-(i+m)) dc,.slice (some ⟨b,i*2,none⟩) (n-i) sc]).run prog W=.ok (goInt ((n-i:Nat):Int)) (W.setCells w.heap.size ((i+m)*2) (cs.drop (i*2))):=fun W hWc hWf ty dc sc=>
  A2o W _ _ ty 150 w.heap.size ((i+m)*2) (n+m-(i+m)) dc ⟨b,i*2,none⟩ (n-i) sc (cs.drop (i*2)) 2 (n-i) t34 hsz (by simp only [B1v];split<;>omega) hdl
   (fun j v hj=>by
    rw [R4,hWc,A08 _ _ _ _ _ (fun h _=>absurd h hbN)];exact hOb _ v (hcs (i*2+j) v (by rwa [F3] at hj)))
   (fun j hj=>by rw [hWc];exact A9F w.heap.size vs (i*2) W1 (fun t ht=>hN _ (by omega)) _ (hN _ (by rw [hdl] at hj;omega)))
   (fun j hj=>by rw [hWf,A3w];exact hNf _) (fun v hv=>h1c v (R8 hv))
 subst hW1;have hE1:∀ x,((w.alloc (.cells ROW 150)).drew).cell? x=(w.drew.alloc (.cells ROW 150)).cell? x:=fun x=>rfl
 have hE2:∀ x,((w.alloc (.cells ROW 150)).drew).frozen? x=(w.drew.alloc (.cells ROW 150)).frozen? x:=fun x=>rfl
 have hF1:∀ x,(((w.alloc (.cells ROW 150)).drew.setCells w.heap.size (i*2) vs).drew).cell? x=((w.drew.alloc (.cells ROW 150)).setCells w.heap.size (i*2) vs).cell? x:=fun x=>rfl
 have hF2:∀ x,(((w.alloc (.cells ROW 150)).drew.setCells w.heap.size (i*2) vs).drew).frozen? x=((w.drew.alloc (.cells ROW 150)).setCells w.heap.size (i*2) vs).frozen? x:=fun x=>rfl
 have hw1:i64.wrap ((i:Int)+(m:Int))=(i:Int)+(m:Int):=by rw [A9N];omega
 have hb1:(0:Int)<=(i:Int)+(m:Int):=by omega
 have hin:i<=n:=by omega
 have htn:((i:Int)+(m:Int)).toNat=i+m:=by omega
 have hb3:(i:Int)<=(n:Int):=by omega
 have X:Aside (n+m<=G/\G<=maxLen/\ROW.size=G*2/\ROW.toList.take (i*2)=cs.take (i*2)):=⟨hGn,hGM,hRs,hRt⟩
 clear hkk hik hold hROW hG hRt hRs htl hGM hcs hvs hcl hvl
 go_enter func194,Tryz.ntmps194
 go_wp2_with (first
  | (at_builtin;refine A46 _ rfl _ _ _ _ rfl _ _ rfl rfl _ _ (hrz _) ?_)
  | (at_builtin;refine A4P _ rfl _ _ 30 30 rfl _ _ rfl rfl (hcpA _ hE1 hE2 _ _) ?_)
  | (at_builtin;refine A4P _ rfl _ _ 30 30 rfl _ _ rfl rfl (hcpB _ (fun _=>rfl) (fun _=>rfl) _ _ _) ?_))
 go_region_law_o (refine B1R rfl _ _ 30 30 rfl (.slice (some ⟨w.heap.size,(i+m)*2,none⟩) (n+m-(i+m)) (G-(i+m))) (.slice (some ⟨b,i*2,none⟩) (n-i) (c-i)) (by simp [Act.eval,Act.put]) (by simp [Act.eval,Act.put]) (hcpB _ hF1 hF2 3 (G-(i+m)) (c-i)) ?_)
 go_wp2
 go_ret
 exact ⟨G,ROW,X.out.1,X.out.2.1,X.out.2.2.1,X.out.2.2.2,rfl,rfl⟩
theorem setRow_size(w:World)(g:Nat)(xs:Array Value):(w.setRow g xs).heap.size=w.heap.size:=by simp
set_option maxHeartbeats 1000000 in
theorem C3c(v v2:Value)(n m i:Nat)(is1 is2:List Value)(w:World)(ho1:owns w 0 150 2 v n is1)(ho2:owns w 0 150 2 v2 m is2)(h1:∀ u∈is1,u.oneCell' = true)(h2:∀ u∈is2,u.oneCell' = true)
  (hi:i<=n) (hm:0<m) (hbig:(n+m)*32<=140737488355328) (hne:∀ g,v.ownBlock=some g->v2.ownBlock≠some g) :
  Calls prog 194 #[v,.int .i64 i,v2] w fun e w'=>C8H w v.ownBlock (is1.take (i*2)++is2++is1.drop (i*2)) (n+m) e w':=by
 have hl1:is1.length=n*2:=ho1.1;have hl2:is2.length=m*2:=ho2.1;rcases ho2.2 with ⟨_,hm0⟩ | ⟨vb,vc,cur2,fz2,rfl,_,hg2,hfz2,hmc,hvcM,hcs2,ht2⟩
 ·omega
 have hvs:∀ j u,is2[j]? = some u->w.cell? ((⟨vb,0,none⟩:Addr).add j)=some u:=S3 ho2 (g:=vb) rfl;have h63:n+m<=9223372036854775807:=by omega
 by_cases hin:i=n
 ·subst hin;obtain ⟨i0,hi0,hz0,hzs,hzb⟩:∃ i0,prog.info? 150=some i0/\i0.zero=some (.agg #[Value.string {data:=#[]},Value.string {data:=#[]}])/\i0.size=2/\i0.bytes=32:=⟨t150,by kernel_rfl,by kernel_rfl,by kernel_rfl,by kernel_rfl⟩;obtain ⟨v',w',hrun,hown',hgrow,hob⟩:=B9j (P:=prog) (t:=30) (ty:=0) underlying30 hi0 hz0 hzs hzb rfl (by decide) ho1 (A:=some ⟨vb,0,none⟩) (m:=m) (c:=vc) hl2 (fun ad e=>by injection e with e;subst e;exact hvs) (fun e=>by cases e) h2 (by unfold maxLen;omega) hbig;have hrunA:∀ ty,(Builtin.append_ #[30,30] ty #[v,.slice (some ⟨vb,0,none⟩) m vc]).run prog w=.ok v' w':=fun ty=>hrun
  have hfin:∀ e w2,(e=.returned v'/\w2=w')->C8H w v.ownBlock (is1.take (i*2)++is2++is1.drop (i*2)) (i+m) e w2:=by
   rintro e w2 ⟨rfl,rfl⟩;rw [E8 (by rw [hl1];exact C6 _),I5 (by rw [hl1];exact C6 _),F4];rcases hown'.2 with ⟨_,h0⟩ | ⟨g,cap,cur,fz,rfl,_,hg,hfz,hnc,hcM,hcs,ht⟩
   ·omega
   have hfz0:fz=(0,0):=by rcases hfz.2 with h | h;exact h;cases h
   subst hfz0;refine ⟨g,cap,cur,rfl,hg,hnc,hcM,hcs,ht,fun b hb hb2 hlt=>hgrow.block b hlt (fun e=>hb2 e.symm),?_,⟨hgrow.size,hgrow.os,hgrow.tape,hgrow.output⟩⟩;rcases hob with h | h
   ·exact .inl (h.symm.trans rfl)
   ·simp only [Value.ownBlock,H5] at h;exact .inr h
  rcases ho1.2 with ⟨rfl,hn0⟩ | ⟨g,cap,cur,fz,rfl,_,hg,hfz,hnc,hcM,hcs,ht⟩
  ·subst hn0;exact (B7l none (fun a h=>by cases h) 0 0 vb m vc v' w w' hm (C6 _) h63 (fun _=>⟨rfl,rfl⟩) hrunA).mono fun e w2 h=>hfin e w2 h
  ·exact (B7l (some ⟨g,0,none⟩) (fun a h=>by injection h with h;subst h;exact ⟨rfl,rfl⟩) i cap vb m vc v' w w' hm hnc h63 (fun h=>by cases h) hrunA).mono fun e w2 h=>hfin e w2 h
 ·have hlt:i<n:=by omega
  rcases ho1.2 with ⟨_,hn0⟩ | ⟨g,cap,cur,fz,rfl,_,hg,hfz,hnc,hcM,hcs,ht⟩
  ·omega
  have hfz0:fz=(0,0):=by rcases hfz.2 with h | h;exact h;cases h
  have hfz20:fz2=(0,0):=by rcases hfz2.2 with h | h;exact h;cases h
  subst hfz0;subst hfz20;have hcs1:∀ j u,is1[j]? = some u->w.cell? ⟨g,j,none⟩=some u:=fun j u hu=>by
   have:=S3 ho1 (g:=g) rfl j u hu
   rwa [R4,D9] at this
  have hvs':∀ j u,is2[j]? = some u->w.cell? ⟨vb,j,none⟩=some u:=fun j u hu=>by
   have:=hvs j u hu
   rwa [R4,D9] at this
  have hvg:vb≠g:=fun e=>hne g rfl (by rw [<- e];rfl)
  have hdl:(is1.drop (i*2)).length=(n-i)*2:=by rw [C5,hl1,A5h]
  have htl:(is1.take (i*2)).length=i*2:=by rw [B2];omega
  have htk:cur.toList.take (i*2)=is1.take (i*2):=by rw [<- ht,M9,P2 (by omega)]
  have hcl:cur.toList.length=cap*2:=by rw [D4];exact hcs
  have htot:(is1.take (i*2)++is2++is1.drop (i*2)).length=(n+m)*2:=by
   simp only [A3,htl,hdl,hl2];omega
  by_cases hroom:n+m<=cap
  ·have hcell:∀ k,k<cap*2->(w.cell? ⟨g,k,none⟩).isSome=true:=fun k hk=>by
    rw [A1J w g k cur 150 _ hg,H3 (by omega)];rfl
   have hrun:=C0R g n cap i vb m vc is1 is2 w hlt hm hroom (by unfold maxLen at hcM;omega) hvg hl1 hl2 hcs1 (fun j hj=>hcell j (by omega)) (fun j hj=>hfz.1.not hg (by omega)) hvs' h1 h2 150 150 cur2.size cur.size
    (by simp [World.shape?,hg2]) (by simp [World.shape?,hg]) (by omega) (by simp [World.frozen?,hg2]) (by simp [World.frozen?,hg2])
   refine hrun.mono ?_;rintro e w' ⟨rfl,rfl⟩;have hgd:w.drew.heap[g]? = some (.cells cur 150 (0,0)):=hg;rw [P5 _ ((i+m)*2) w.drew g cur 150 _ hgd (by rw [hdl,hcs];omega)];generalize hc1:(cur.toList.take ((i+m)*2)++is1.drop (i*2)++cur.toList.drop ((i+m)*2+(is1.drop (i*2)).length)).toArray=cur1;have hc1l:cur1.size=cur.size:=by
    rw [<- hc1];simp only [F7,A3,B2,C5,hcl,hl1,hcs];omega
   have hg1:=O1 w.drew g cur cur1 150 _ hgd;rw [P5 is2 (i*2) _ g cur1 150 _ hg1 (by rw [hl2,hc1l,hcs];omega),A8j];generalize hc2:(cur1.toList.take (i*2)++is2++cur1.toList.drop (i*2+is2.length)).toArray=cur3;have hc2l:cur3.size=cur.size:=by
    rw [<- hc2,<- hc1l];simp only [F7,A3,B2,C5,D4,hl2,hc1l,hcs];omega
   have e1:cur1.toList.take (i*2)=is1.take (i*2):=by
    rw [<- hc1];simp only [A7];rw [F2 (by rw [B2];omega),M9,P2 (by omega),htk]
   have e2:cur1.toList.drop (i*2+is2.length)=is1.drop (i*2)++cur.toList.drop ((i+m)*2+(is1.drop (i*2)).length):=by
    rw [<- hc1];simp only [A7];exact List.drop_left' (by rw [B2,hl2];omega)
   refine ⟨g,cap,cur3,rfl,O1 w.drew g cur cur3 150 _ hgd,hroom,hcM,by rw [hc2l];exact hcs,?_,fun b hb _ hlt=>T3 w.drew g b _ hb,.inl rfl,⟨by simp,rfl,rfl,rfl⟩⟩;rw [<- hc2,e1,e2];simp only [<- A7];exact B0f htot
  ·have hrun:=C1p g n cap i vb m vc is1 is2 w hlt hm hnc (by omega) hbig hl1 hl2 hcs1 hvs' h1 h2;refine hrun.mono ?_;rintro e w' ⟨G,ROW,hG,hGM,hRs,hRt,rfl,rfl⟩;have hgN:(w.alloc (.cells ROW 150)).drew.heap[w.heap.size]? = some (.cells ROW 150 (0,0)):=A0H w _;have hRl:ROW.toList.length=G*2:=by rw [D4];exact hRs
   rw [P5 is2 (i*2) _ w.heap.size ROW 150 _ hgN (by rw [hl2,hRs];omega)];generalize hc1:(ROW.toList.take (i*2)++is2++ROW.toList.drop (i*2+is2.length)).toArray=cur1;have hc1l:cur1.size=ROW.size:=by
    rw [<- hc1];simp only [F7,A3,B2,C5,hRl,hl2,hRs];omega
   have hg1:((w.alloc (.cells ROW 150)).drew.setRow w.heap.size cur1).drew.heap[w.heap.size]? = some (.cells cur1 150 (0,0)):=O1 _ w.heap.size ROW cur1 150 _ hgN;rw [P5 _ ((i+m)*2) _ w.heap.size cur1 150 _ hg1 (by rw [hdl,hc1l,hRs];omega)];generalize hc2:(cur1.toList.take ((i+m)*2)++is1.drop (i*2)++cur1.toList.drop ((i+m)*2+(is1.drop (i*2)).length)).toArray=cur3;have hc2l:cur3.size=ROW.size:=by
    rw [<- hc2,<- hc1l];simp only [F7,A3,B2,C5,D4,hl1,hc1l,hRs];omega
   have e1:cur1.toList.take ((i+m)*2)=is1.take (i*2)++is2:=by
    rw [<- hc1,hRt];exact B0f (by simp only [A3,htl,hl2];omega)
   refine ⟨w.heap.size,G,cur3,rfl,O1 _ w.heap.size cur1 cur3 150 _ hg1,hG,hGM,by rw [hc2l];exact hRs,?_,fun b hb _ hlt=>?_,.inr rfl,⟨?_,rfl,rfl,rfl⟩⟩
   ·rw [<- hc2,e1];exact B0f htot
   ·have e3:=T3 ((w.alloc (.cells ROW 150)).drew.setRow w.heap.size cur1).drew w.heap.size b cur3 hb;have e4:=T3 (w.alloc (.cells ROW 150)).drew w.heap.size b cur1 hb;exact e3.trans (e4.trans (heap_alloc_old w _ hlt))
   ·simp
def C4s(d i m:Nat):H9->Option H9
 | []=>none
 | a::q=>match Nat.blt a i with
  | true=>some (2*d::a::q)
  | false=>some (2*d::(a+m)::q)
def D0G(d i:Nat):H9->Option H9
 | []=>none
 | a::q=>some (2*d::(i+a)::q)
set_option maxHeartbeats 1000000 in
theorem B3C(k:K)(hk:k.sz=2):A0O prog 194 ⟨[.val false (.sl 150 k) false,.val false (.int .i64) false,.val false (.sl 150 k) false],[.val false (.sl 150 k)],fun x=>B9S x.1 x.2.1 x.2.2.1⟩:=by
 intro x ⟨zs,u2⟩ hy w Z pls args hargs;obtain ⟨xs,i,ys,rfl⟩:∃ (xs:List k.T) (i:Int) (ys:List k.T),x=(xs,i,ys,()):=⟨x.1,x.2.1,x.2.2.1,rfl⟩;simp only [B9S] at hy;obtain ⟨hd1,hy⟩:=G7 hy;obtain ⟨hd2,hy⟩:=G7 hy;obtain ⟨hd3,hy⟩:=G7 hy;obtain ⟨hd4,hy⟩:=G7 hy;have hi0:0<=i:=A8 hd1;have hil:i<=(xs.length:Int):=A8 hd2;have hm:0<ys.length:=A8 hd3;have hbig:xs.length+ys.length<=1000000000000:=A8 hd4;injection hy with hy;injection hy with hy _
 subst hy
 clear hd1 hd2 hd3 hd4
 obtain ⟨i,rfl⟩:∃ a:Nat,i=(a:Int):=⟨i.toNat,by omega⟩;have hi:i<=xs.length:=by omega
 obtain ⟨_,r0,rfl,⟨v,rfl,inner,hown,hcol,hels⟩,_,_,r1,rfl,rfl,_,_,r2,rfl,⟨v2,rfl,inner2,hown2,hcol2,hels2⟩,_,rfl,_⟩:=hargs
 replace hown:owns w 0 150 k.sz v xs.length inner:=hown
 replace hown2:owns w 0 150 k.sz v2 ys.length inner2:=hown2
 have hel:∀ (q:Nat) (h:q<xs.length),Ow k w Z ([2*1000] ++ [q]) xs[q] ((inner.drop (q*k.sz)).take k.sz):=hels;have hel2:∀ (q:Nat) (h:q<ys.length),Ow k w Z ([2*1200] ++ [q]) ys[q] ((inner2.drop (q*k.sz)).take k.sz):=hels2;rw [hk] at hown hown2 hel hel2;have hl1:inner.length=xs.length*2:=hown.1;have hl2:inner2.length=ys.length*2:=hown2.1;have hone:∀ (zs:List k.T) (is:List Value) (p:H9),is.length=zs.length*2->(∀ (q:Nat) (h:q<zs.length),Ow k w Z (p ++ [q]) zs[q] ((is.drop (q*2)).take 2))->∀ u∈is,u.oneCell' = true:=by
  intro zs is p hl h u hu;obtain ⟨q,hq,rfl⟩:=A5i.1 hu;have hq':q / 2<zs.length:=(U8 (by omega)).2 (by rw [<- hl];exact hq);refine (h _ hq').one _ (A45.2 ⟨q % 2,?_⟩);rw [F8 (B0Q _ (by omega)),F3,A6S,A60];exact C0 hq
 have hc1:∀ g,v.ownBlock=some g->Z g=some [2*1000]:=hcol;have hc2:∀ g,v2.ownBlock=some g->Z g=some [2*1200]:=hcol2;have hrun:=C3c v v2 xs.length ys.length i inner inner2 w hown hown2 (hone xs inner _ hl1 hel) (hone ys inner2 _ hl2 hel2) hi hm (by omega) (fun g h1 h2=>by
  have:=hc1 g h1;rw [hc2 g h2] at this;cases this)
 refine hrun.mono ?_;rintro e w' ⟨g,cap,cur,rfl,hg,hnc,hcM,hcs,ht,hoth,hgn,hlater⟩;have hgb:∀ b,b<w.heap.size->Z b≠some [2*1000]->w'.heap[b]? = w.heap[b]?/\b≠g:=by
  intro b hlt hb;have h1:b≠g:=by
   rintro rfl;rcases hgn with h | h
   ·exact hb (hc1 b h)
   ·omega
  exact ⟨hoth b h1 (fun h=>hb (hc1 b h)) hlt,h1⟩
 let Z0:=L0 [(1000,C4s 5000 i ys.length),(1200,D0G 5000 i)] Z
 let Z1:Col:=upd Z0 g (some [2*5000])
 have hkeep:Keeps w w' Z Z1:=fun b hb hlt=>by
  obtain ⟨h1,h2⟩:=hgb b hlt (by rw [hb];intro h;cases h);refine ⟨h1,?_⟩;show upd Z0 g _ b=none;rw [upd_ne _ h2];exact (P6 w _ Z b hb hlt).2
 have hfore:Fore w w' Z Z1:=fun b hb hlt=>by
  obtain ⟨h1,h2⟩:=hgb b hlt (by rw [hb];intro h;injection h with h;cases h);refine ⟨h1,?_⟩;show upd Z0 g _ b=some [];rw [upd_ne _ h2];exact (A6b w _ Z b hb hlt).2
 have hmv1:∀ a a',(∀ q,C4s 5000 i ys.length (a::q)=some (2*5000::a'::q))->Moves w w' Z Z1 ([2*1000] ++ [a]) ([2*5000] ++ [a']):=by
  intro a a' hq b q hb hlt;have hb2:Z b=some (2*1000::a::q):=hb;obtain ⟨h1,h2⟩:=hgb b hlt (by rw [hb2];intro h;injection h with h;injection h with _ h;cases h);refine ⟨h1,?_⟩;show upd Z0 g _ b=_;rw [upd_ne _ h2];show L0 _ Z b=_;simp only [L0,hb2,A0D,Q7,hq];rfl
 have hmv2:∀ a,Moves w w' Z Z1 ([2*1200] ++ [a]) ([2*5000] ++ [i+a]):=by
  intro a b q hb hlt;have hb2:Z b=some (2*1200::a::q):=hb;obtain ⟨h1,h2⟩:=hgb b hlt (by rw [hb2];intro h;injection h with h;injection h with h _;cases h);refine ⟨h1,?_⟩;show upd Z0 g _ b=_;rw [upd_ne _ h2];show L0 _ Z b=_;simp [L0,hb2,A0D,D0G]
 refine ⟨Z1,[.slice (some ⟨g,0,none⟩) (xs.length+ys.length) cap],rfl,hkeep,hfore,hlater,?_⟩;refine ⟨[.slice (some ⟨g,0,none⟩) (xs.length+ys.length) cap],[],rfl,⟨_,rfl,inner.take (i*2)++inner2++inner.drop (i*2),?_,fun g' hg'=>?_,fun a ha=>?_⟩,.inr rfl,rfl,?_⟩
 ·have hlen:(xs.take i++ys++xs.drop i).length=xs.length+ys.length:=by simp only [A3,B2,C5];omega
  simp only [E7];rw [hlen,hk];exact ⟨by simp only [A3,B2,C5,hl1,hl2];omega,.inr ⟨g,cap,cur,(0,0),rfl,G6 _,hg,⟨.inl rfl,.inl rfl⟩,hnc,hcM,hcs,ht⟩⟩
 ·simp only [Value.ownBlock,H5] at hg';subst hg';exact upd_same Z0 g _
 ·simp only [E7] at ha ⊢;have hlen:(xs.take i++ys++xs.drop i).length=xs.length+ys.length:=by simp only [A3,B2,C5];omega
  rw [hlen] at ha;have hsA:(inner.take (i*2)).length=i*2:=by rw [B2,hl1];omega
  have hsB:(inner.take (i*2)++inner2).length=(i+ys.length)*2:=by rw [A3,hsA,hl2,J7]
  rw [hk];by_cases hai:a<i
  ·have e1:(xs.take i++ys++xs.drop i)[a]'(by rw [hlen];exact ha)=xs[a]'(by omega):=by
    rw [I8 (by simp;omega),I8 (by rw [B2];omega),A3u]
   have e2:((inner.take (i*2)++inner2++inner.drop (i*2)).drop (a*2)).take 2=(inner.drop (a*2)).take 2:=by
    rw [(B0A (sz:=2) hsB).1 (by omega),(B0A (sz:=2) hsA).1 hai,A0K,M9]
    congr 1
    omega
   simp only [e1,e2];exact (hel a (by omega)).move (hmv1 a a (fun q=>by simp [C4s,A0S.2 hai])) hkeep
  ·by_cases hai2:a<i+ys.length
   ·have hq:i+(a-i)=a:=by omega
    have e1:(xs.take i++ys++xs.drop i)[a]'(by rw [hlen];exact ha)=ys[a-i]'(by omega):=by
     rw [I8 (by simp;omega),J6 (by rw [B2];omega)]
     congr 1
     rw [B2];omega
    have e2:((inner.take (i*2)++inner2++inner.drop (i*2)).drop (a*2)).take 2=(inner2.drop ((a-i)*2)).take 2:=by
     rw [(B0A (sz:=2) hsB).1 (by omega),(B0A (sz:=2) hsA).2 (by omega)]
    simp only [e1,e2];have:=hmv2 (a-i);rw [hq] at this;exact (hel2 (a-i) (by omega)).move this hkeep
   ·have hq:(a-ys.length)+ys.length=a:=by omega
    have e1:(xs.take i++ys++xs.drop i)[a]'(by rw [hlen];exact ha)=xs[a-ys.length]'(by omega):=by
     rw [J6 (by simp;omega),A3v]
     congr 1
     simp;omega
    have e2:((inner.take (i*2)++inner2++inner.drop (i*2)).drop (a*2)).take 2=(inner.drop ((a-ys.length)*2)).take 2:=by
     rw [(B0A (sz:=2) hsB).2 (by omega),L6,<- J7]
     congr 3
     omega
    simp only [e1,e2];have hnb:Nat.blt (a-ys.length) i=false:=by
     cases e:Nat.blt (a-ys.length) i with
     | true=>have:=L4.mp e;omega
     | false=>rfl
    exact (hel (a-ys.length) (by omega)).move (hmv1 (a-ys.length) a (fun q=>by simp only [C4s,hnb,hq])) hkeep
 ·exact ⟨_,_,rfl,_,_,rfl,_,_,rfl,rfl⟩
end Go.Proofs.YthnfghmjipikhaaGreatDoor.Ev
