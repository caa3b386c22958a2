/- slices.Delete at a struct of 6 cells: the run, and the contract. -/
import Derived.Test.YthnfghmjipikhaaGreatDoorProg
import Derived.Test.YthnfghmjipikhaaGreatDoorEvC
import Derived.Shelf.RegionOpenPlain
import Derived.WalkKit
import Derived.Deep.LoopGhost
import Derived.Deep.RegionLaw
import Derived.Lib.Walk
import Derived.Sort.WalkB12
import Derived.Lib.SliceRun
set_option linter.unusedVariables false
set_option linter.unusedSimpArgs false
namespace Go.Proofs.YthnfghmjipikhaaGreatDoor.Ev
open Tryz
open IntKind (i64 u8 u64 u32)
open Go.RowKit Go.Lib Go.Sort
theorem P5:∀ (vs:List Value) (o:Nat) (w:World) (g:Nat) (cur:Array Value) (t:TypeId) (fz:Nat×Nat),w.heap[g]? = some (.cells cur t fz)->o+vs.length<=cur.size->
  w.setCells g o vs=w.setRow g (cur.toList.take o++vs++cur.toList.drop (o+vs.length)).toArray
 | [],o,w,g,cur,t,fz,hg,hl=>by
  simp only [World.setCells,F4,I1,J0,M2,R6];exact (setRow_self w g cur t fz hg).symm
 | v::r,o,w,g,cur,t,fz,hg,hl=>by
  have hi:o<cur.size:=by simp at hl;omega
  simp only [World.setCells];rw [B4O w g o cur t fz v hg,P5 r (o+1) _ g (cur.setIfInBounds o v) t fz (O1 w g cur _ t _ hg) (by simp at hl ⊢;omega),A8j]
  congr 2
  have e:=list_seg_step cur.toList o v r (by simp at hl ⊢;omega);simpa [A1K,L9] using e
theorem B5p{P:Program}(w:World)(t e ty:TypeId)(z:Value)(ht:P.underlying t=some (.slice e))(hv:∀ w,(zeroValue e).run P w=.ok z w)(h0:0<z.cells.size)(h1:∀ i,i<z.cells.size->(z.cells[i]!).oneCell' = true)(b o n c:Nat)(hn:0<n)
  (hc:∀ j,j<n*z.cells.size->(w.cell? ⟨b,o+j,none⟩).isSome=true) (hf:∀ j,j<n*z.cells.size->w.frozen? ⟨b,o+j,none⟩=false) :
  (Builtin.clear_ #[t] ty #[.slice (some ⟨b,o,none⟩) n c]).run P w=.ok (.tuple #[]) (w.setCells b o (Builtin.zeroCells z.cells n).toList):=by
 have hlen:(Builtin.zeroCells z.cells n).toList.length=n*z.cells.size:=by rw [D4,U4]
 have hst:=B1u (P:=P) b o (Builtin.zeroCells z.cells n).toList 0 w (by rw [hlen];simpa using hc) (by rw [hlen];simpa using hf) (by
  intro v hv';simp only [Builtin.zeroCells,Array.toList_map,D0] at hv';obtain ⟨i,_,rfl⟩:=hv';exact h1 _ (B0Q _ h0))
 simp only [J0] at hst;obtain ⟨m,rfl⟩:∃ m,n=m+1:=⟨n-1,by omega⟩;simp [Builtin.clear_,F9 ht,hv,hst]
set_option maxHeartbeats 4000000 in
set_option maxRecDepth 1000000 in
theorem B7k(g n cap i j:Nat)(w:World)(hn:n<=cap)(hm:cap<=9223372036854775807)(hlt:i<j)(hj:j<=n)(cur:Array Value)(fz:Nat×Nat)(hg:w.heap[g]? = some (.cells cur 113 fz))(hfz:Thawed cur.size fz)(hcs:cur.size=cap*6)
  (h1:∀ u∈cur.toList.take (n*6),u.oneCell' = true) :
  Calls prog 86 #[.slice (some ⟨g,0,none⟩) n cap,.int .i64 i,.int .i64 j] w fun e w'=>e=.returned (.slice (some ⟨g,0,none⟩) (i+(n-j)) cap)/\
   ∃ zs:List Value,zs.length=(j-i)*6/\w' = (w.drew.setCells g (i*6) ((cur.toList.drop (j*6)).take ((n-j)*6))).setCells g ((i+(n-j))*6) zs:=by
 have mixed:prog.follows .mixedOrders=true:=by kernel_rfl
 have t34:=underlying53;have a34:=Tryz.isAgg53;have z34:=Tryz.sizeOf53;have v34:=Tryz.zeroValue53;have t3:=underlying3;have a3:=Tryz.isAgg3;have z3:=Tryz.sizeOf3;have v3:=Tryz.zeroValue3;have t4:=underlying4;have a4:=Tryz.isAgg4;have z4:=Tryz.sizeOf4;have v4:=Tryz.zeroValue4;have a56:=Tryz.isAgg113;have z56:=Tryz.sizeOf113;have u34:=F9 t34;have hic:i<=cap:=by omega
 have hjc:j<=cap:=by omega
 have hne:¬ ((i:Int)=(j:Int)):=by omega
 obtain ⟨i0,hi0,hz1⟩:∃ i0,prog.info? 113=some i0/\i0.size=6:=⟨t113,by kernel_rfl,by kernel_rfl⟩;have hcell:∀ k,k<cap*6->w.cell? ⟨g,k,none⟩=some (cur[k]!):=fun k hk=>by
  rw [A1J w g k cur 113 fz hg,B4P cur k (by omega)];exact H3 (by omega)
 have hfro:∀ k,k<cap*6->w.frozen? ⟨g,k,none⟩=false:=fun k hk=>Thawed.not hg hfz (by omega)
 obtain ⟨news,hnews⟩:∃ news,news=(cur.toList.drop (j*6)).take ((n-j)*6):=⟨_,rfl⟩;have hcl:cur.toList.length=cap*6:=by rw [D4];exact hcs
 have hlen:news.length=(n-j)*6:=by rw [hnews,B2,C5];omega
 have hget:∀ t u,news[t]? = some u->cur.toList[j*6+t]? = some u:=by
  intro t u hu;rw [hnews,L3] at hu;split at hu
  ·rwa [F3] at hu
  ·cases hu
 obtain ⟨A,hA,hsrc⟩:∃ A:Addr,(if cap=j then some (⟨g,0,none⟩:Addr) else some ⟨g,j*6,none⟩)=some A/\Hid (∀ t u,news[t]? = some u->w.drew.cell? (A.add t)=some u):=by
  by_cases h:cap=j
  ·refine ⟨⟨g,0,none⟩,by simp [h],fun t u hu=>?_⟩;rw [A0M.1 (show news.length=0 by rw [hlen];omega)] at hu;simp at hu
  ·refine ⟨⟨g,j*6,none⟩,by simp [h],fun t u hu=>?_⟩;have h2:=hget t u hu;have hk:j*6+t<cur.toList.length:=(C3.1 h2).1;rw [R4];refine (hcell (j*6+t) (by omega)).trans ?_;rw [<- h2,J1,B4P cur _ (by omega),H3 (by omega)]
 have s1:Hid (news.length=(n-j)*6):=hlen;have s2:Hid (∀ u∈news,u.oneCell' = true):=by
  intro u hu;rw [hnews] at hu;refine h1 u ?_;have h3:=A7C.1 hu;obtain ⟨k,hk,rfl⟩:=h3;rw [A3v];exact A7C.2 ⟨j*6+k,by simp at hk ⊢;omega,rfl⟩
 have s3:Hid (∀ t,t<news.length->(w.drew.cell? ⟨g,0+i*6+t,none⟩).isSome=true/\w.drew.frozen? ⟨g,0+i*6+t,none⟩=false):=by
  intro t ht;rw [hlen] at ht;rw [D9];exact ⟨by show (w.cell? _).isSome=true;rw [hcell _ (by omega)];rfl,hfro _ (by omega)⟩
 obtain ⟨W1,hW1⟩:∃ W1,W1=w.drew.setCells g (0+i*6) news:=⟨_,rfl⟩;have hc1:∀ k,k<cap*6->(W1.cell? ⟨g,k,none⟩).isSome=true:=fun k hk=>by
  rw [hW1];have hk0:(w.drew.cell? ⟨g,k,none⟩).isSome=true:=by show (w.cell? _).isSome=true;rw [hcell _ hk];rfl
  by_cases hin:0+i*6<=k/\k<0+i*6+news.length
  ·have:=A9M g news (0+i*6) w.drew (fun t ht=>(s3.out t ht).1) (k-(0+i*6)) (by omega);rw [show 0+i*6+(k-(0+i*6))=k by omega] at this;rw [this];rfl
  ·rw [A08 g news (0+i*6) w.drew ⟨g,k,none⟩ (fun _ _=>by show k<_\/_<=k;omega)];exact hk0
 have hf1:∀ k,k<cap*6->W1.frozen? ⟨g,k,none⟩=false:=fun k hk=>by
  rw [hW1,A3w];exact hfro k hk
 have hclr:∀ ty,(Builtin.clear_ #[53] ty #[.slice (some ⟨g,(i+(n-j))*6,none⟩) (n-(i+(n-j))) (cap-(i+(n-j)))]).run prog W1=.ok (.tuple #[]) (W1.setCells g ((i+(n-j))*6) (Builtin.zeroCells #[Value.int i64 0,Value.int i64 0,Value.int i64 0,Value.string {data:=#[]},Value.int i64 0,Value.slice none 0 0] (n-(i+(n-j)))).toList):=
  fun ty=>B5p W1 53 113 ty _ t34 Tryz.zeroValue113 (by decide) (by intro i hi;match i,hi with | 0,_=>rfl | 1,_=>rfl | 2,_=>rfl | 3,_=>rfl | 4,_=>rfl | 5,_=>rfl) g ((i+(n-j))*6) _ _ (by omega) (fun t ht=>hc1 _ (by simp [Value.cells] at ht;omega)) (fun t ht=>hf1 _ (by simp [Value.cells] at ht;omega))
 have hW:Hid (W1=w.drew.setCells g (0+i*6) news):=hW1;have hfin:∃ zs:List Value,zs.length=(j-i)*6/\W1.setCells g ((i+(n-j))*6) (Builtin.zeroCells #[Value.int i64 0,Value.int i64 0,Value.int i64 0,Value.string {data:=#[]},Value.int i64 0,Value.slice none 0 0] (n-(i+(n-j)))).toList=(w.drew.setCells g (i*6) ((cur.toList.drop (j*6)).take ((n-j)*6))).setCells g ((i+(n-j))*6) zs:=
  ⟨(Builtin.zeroCells #[Value.int i64 0,Value.int i64 0,Value.int i64 0,Value.string {data:=#[]},Value.int i64 0,Value.slice none 0 0] (n-(i+(n-j)))).toList,(by rw [D4,U4];show (n-(i+(n-j)))*6=_;congr 1;omega),by rw [hW1,D9,hnews]⟩
 have X:Aside (∃ zs:List Value,zs.length=(j-i)*6/\W1.setCells g ((i+(n-j))*6) (Builtin.zeroCells #[Value.int i64 0,Value.int i64 0,Value.int i64 0,Value.string {data:=#[]},Value.int i64 0,Value.slice none 0 0] (n-(i+(n-j)))).toList=(w.drew.setCells g (i*6) ((cur.toList.drop (j*6)).take ((n-j)*6))).setCells g ((i+(n-j))*6) zs):=hfin
 clear hW1 hc1 hf1 hcell hfro hnews hget hlen hcl hfin
 go_enter func86,Tryz.ntmps86
 go_wp2_with fail
 go_region_law_o (refine step_append_room rfl (.tmp 22) (.tmp 25) 53 rfl 113 i0 6 t34 hi0 hz1 g 0 i cap (by simp [Act.eval,Act.put]) A (n-j) (cap-j) news (by simp [Act.eval,Act.put]) s1.out hsrc.out s2.out (by omega) s3.out ?_;rw [<- hW.out])
 go_wp2
 go_ret
 exact ⟨rfl,X.out⟩
theorem B0A{α:Type}{A B:List α}{i sz n:Nat}(hA:A.length=n*sz):(i<n->((A++B).drop (i*sz)).take sz=(A.drop (i*sz)).take sz)/\(n<=i->((A++B).drop (i*sz)).take sz=(B.drop ((i-n)*sz)).take sz):=by
 refine ⟨fun h=>?_,fun h=>?_⟩
 ·have hle:i*sz+sz<=n*sz:=by rw [<- G2];exact E1 _ h
  rw [J3 (by omega),F2 (by rw [C5];omega)]
 ·have:i*sz=A.length+(i-n)*sz:=by rw [hA,<- J7];congr 1;omega
  rw [this,<- L6,A0L]
theorem C61(k:K)(hk:k.sz=6):A0O prog 86 ⟨[.val false (.sl 113 k) false,.val false (.int .i64) false,.val false (.int .i64) false],[.val false (.sl 113 k)],fun x=>D07 x.1 x.2.1 x.2.2.1⟩:=by
 intro x ⟨ys,u2⟩ hy w Z pls args hargs;obtain ⟨xs,i,j,rfl⟩:∃ (xs:List k.T) (i j:Int),x=(xs,i,j,()):=⟨x.1,x.2.1,x.2.2.1,rfl⟩;simp only [D07] at hy;obtain ⟨hi0,hy⟩:=G7 hy;obtain ⟨hij,hy⟩:=G7 hy;obtain ⟨hjl,hy⟩:=G7 hy;have hi0:0<=i:=A8 hi0;have hij:i<j:=A8 hij;have hjl:j<=(xs.length:Int):=A8 hjl;injection hy with hy;injection hy with hy _
 subst hy;obtain ⟨i,rfl⟩:∃ a:Nat,i=(a:Int):=⟨i.toNat,by omega⟩;obtain ⟨j,rfl⟩:∃ a:Nat,j=(a:Int):=⟨j.toNat,by omega⟩;obtain ⟨_,r0,rfl,⟨v,rfl,inner,hown,hcol,hels⟩,_,_,r1,rfl,rfl,_,_,r2,rfl,rfl,_,rfl,_⟩:=hargs;have hlt:i<j:=by omega
 have hj:j<=xs.length:=by omega
 replace hown:owns w 0 113 k.sz v xs.length inner:=hown
 rcases hown.2 with ⟨_,hn0⟩ | ⟨g,cap,cur,fz,rfl,_,hg,hfz,hnc,hcap,hcs,ht⟩
 ·omega
 rw [hk] at hcs ht hfz;have hinl:inner.length=xs.length*6:=by have:=hown.1;rwa [hk] at this
 have hcolg:Z g=some [2*1000]:=hcol g rfl;have hone:∀ u∈inner,u.oneCell' = true:=by
  intro u hu;obtain ⟨q,hq,rfl⟩:=A5i.1 hu;have hq':q / 6<xs.length:=(U8 (by omega)).2 (by rw [<- hinl];exact hq);have:=(hels _ hq').one;refine this _ (A45.2 ⟨q % 6,?_⟩);rw [hk,F8 (B0Q _ (by omega)),F3,A6S,A60];exact C0 hq
 have hcl:cur.toList.length=cap*6:=by rw [D4];exact hcs
 have hrun:=B7k g xs.length cap i j w hnc (by simpa only [maxLen] using hcap) hlt hj cur fz hg hfz.1 hcs (by rw [ht];exact hone);refine hrun.mono ?_;rintro e w' ⟨rfl,zs,hzl,rfl⟩;have hnews:(cur.toList.drop (j*6)).take ((xs.length-j)*6)=inner.drop (j*6):=by
  rw [<- ht,A0K]
  congr 1
  rw [A5h]
 rw [hnews];have hnl:(inner.drop (j*6)).length=(xs.length-j)*6:=by rw [C5,hinl,A5h]
 have hgd:w.drew.heap[g]? = some (.cells cur 113 fz):=hg;rw [P5 (inner.drop (j*6)) (i*6) w.drew g cur 113 fz hgd (by rw [hnl];omega)];generalize hc1:(cur.toList.take (i*6)++inner.drop (j*6)++cur.toList.drop (i*6+(inner.drop (j*6)).length)).toArray=cur1;have hc1l:cur1.size=cur.size:=by
  rw [<- hc1];simp only [F7,A3,B2,C5,hcl,hinl,hcs];omega
 have hg1:=O1 w.drew g cur cur1 113 fz hgd;rw [P5 zs ((i+(xs.length-j))*6) _ g cur1 113 fz hg1 (by rw [hzl,hc1l,hcs];omega),A8j];generalize hc2:(cur1.toList.take ((i+(xs.length-j))*6)++zs++cur1.toList.drop ((i+(xs.length-j))*6+zs.length)).toArray=cur2;have hc2l:cur2.size=cur.size:=by
  rw [<- hc2,<- hc1l];simp only [F7,A3,B2,C5,D4,hzl,hc1l,hcs];omega
 have htk:cur.toList.take (i*6)=inner.take (i*6):=by rw [<- ht,M9,P2 (by omega)]
 have hcl1:(inner.take (i*6)++inner.drop (j*6)).length=(i+(xs.length-j))*6:=by
  simp only [A3,B2,C5,hinl];omega
 have htk2:cur2.toList.take ((i+(xs.length-j))*6)=inner.take (i*6)++inner.drop (j*6):=by
  have e1:cur1.toList.take ((i+(xs.length-j))*6)=inner.take (i*6)++inner.drop (j*6):=by
   rw [<- hc1,htk,<- hcl1];exact R7
  rw [<- hc2];simp only [A7];rw [F2 (by rw [e1,hcl1];exact C6 _),e1,E8 (by rw [hcl1];exact C6 _)]
 have hg2:=O1 w.drew g cur cur2 113 fz hgd;have hoth:∀ b,b≠g->(w.drew.setRow g cur2).heap[b]? = w.heap[b]?:=fun b hb=>T3 w.drew g b _ hb
 let Z1:=L0 [(1000,mvF 5000 i j xs.length)] Z
 have hZg:Z1 g=some [2*5000]:=by
  show L0 [(1000,mvF 5000 i j xs.length)] Z g=_;simp [L0,hcolg,A0D,mvF]
 have hkeep:Keeps w (w.drew.setRow g cur2) Z Z1:=fun b hb hlt=>⟨hoth b (fun e=>by rw [e,hcolg] at hb;cases hb),(P6 w _ Z b hb hlt).2⟩
 have hmv:∀ a a',(∀ q,mvF 5000 i j xs.length (a::q)=some (2*5000::a'::q))->Moves w (w.drew.setRow g cur2) Z Z1 ([2*1000] ++ [a]) ([2*5000] ++ [a']):=by
  intro a a' hq b q hb hlt;have hb2:Z b=some (2*1000::a::q):=hb;refine ⟨hoth b (fun e=>by rw [e,hcolg] at hb2;injection hb2 with hb2;injection hb2 with _ hb2;cases hb2),?_⟩;show L0 [(1000,mvF 5000 i j xs.length)] Z b=_;simp only [L0,hb2,A0D,Q7,hq];rfl
 refine ⟨Z1,[.slice (some ⟨g,0,none⟩) (i+(xs.length-j)) cap],rfl,hkeep,fun b hb hlt=>⟨hoth b (fun e=>by rw [e,hcolg] at hb;cases hb),(A6b w _ Z b hb hlt).2⟩,⟨by simp,rfl,rfl,rfl⟩,?_⟩;refine ⟨[.slice (some ⟨g,0,none⟩) (i+(xs.length-j)) cap],[],rfl,⟨_,rfl,inner.take (i*6)++inner.drop (j*6),?_,fun g' hg'=>?_,fun a ha=>?_⟩,.inr rfl,rfl,?_⟩
 ·have hlen:(xs.take i++xs.drop j).length=i+(xs.length-j):=by simp only [A3,B2,C5];omega
  simp only [E7];rw [hlen,hk];exact ⟨hcl1,.inr ⟨g,cap,cur2,fz,rfl,G6 _,hg2,by rw [hc2l];exact hfz,by omega,hcap,by rw [hc2l];exact hcs,htk2⟩⟩
 ·simp only [Value.ownBlock,H5] at hg';subst hg';exact hZg
 ·simp only [E7] at ha ⊢;have hlen:(xs.take i++xs.drop j).length=i+(xs.length-j):=by simp only [A3,B2,C5];omega
  rw [hlen] at ha;have hsA:(inner.take (i*6)).length=i*6:=by rw [B2,hinl];omega
  rw [hk];have hels':∀ (q:Nat) (h:q<xs.length),Ow k w Z ([2*1000] ++ [q]) xs[q] ((inner.drop (q*6)).take 6):=fun q h=>by
   have:=hels q h;rwa [hk] at this
  by_cases hai:a<i
  ·have e1:(xs.take i++xs.drop j)[a]'(by rw [hlen];exact ha)=xs[a]'(by omega):=by
    rw [I8 (by rw [B2];omega),A3u]
   have e2:((inner.take (i*6)++inner.drop (j*6)).drop (a*6)).take 6=(inner.drop (a*6)).take 6:=by
    rw [(B0A (sz:=6) hsA).1 hai,A0K,M9]
    congr 1
    omega
   simp only [e1,e2];exact (hels' a (by omega)).move (hmv a a (fun q=>by simp [mvF,A0S.2 hai])) hkeep
  ·have hq:i+(j+(a-i)-j)=a:=by omega
   have e1:(xs.take i++xs.drop j)[a]'(by rw [hlen];exact ha)=xs[j+(a-i)]'(by omega):=by
    rw [J6 (by rw [B2];omega),A3v]
    congr 1
    rw [B2];omega
   have e2:((inner.take (i*6)++inner.drop (j*6)).drop (a*6)).take 6=(inner.drop ((j+(a-i))*6)).take 6:=by
    rw [(B0A (sz:=6) hsA).2 (by omega),L6,<- J7]
   simp only [e1,e2];have hnb:Nat.blt (j+(a-i)) i=false:=by
    cases e:Nat.blt (j+(a-i)) i with
    | true=>have:=L4.mp e;omega
    | false=>rfl
   have hble:Nat.ble j (j+(a-i))=true:=Nat.ble_eq.mpr (by omega);exact (hels' (j+(a-i)) (by omega)).move (hmv (j+(a-i)) a (fun q=>by simp only [mvF,hnb,hble,hq])) hkeep
 ·exact ⟨_,_,rfl,_,_,rfl,_,_,rfl,rfl⟩
end Go.Proofs.YthnfghmjipikhaaGreatDoor.Ev
