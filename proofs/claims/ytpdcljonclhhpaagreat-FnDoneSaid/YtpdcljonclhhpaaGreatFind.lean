/- (*Store).find looks at an upload: the run. -/
import Derived.Test.YtpdcljonclhhpaaGreatG1
import Derived.Shelf.RegionOpenPlain
import Derived.WalkKit
import Derived.Deep.LoopGhost
import Derived.Deep.RegionLaw
import Derived.Lib.Walk
import Derived.Sort.WalkB12
import Derived.Lib.SliceRun
import Derived.Laws.NewBlocks
set_option linter.unusedVariables false
set_option linter.unusedSimpArgs false
namespace Go.Proofs.YtpdcljonclhhpaaGreat.Ev
open Go.RowKit Go.Lib Go.Sort
theorem E9A(xs:List TUp)(id:ByteArray)(i:Int)(has:Bool)(e:A3n xs id=some (i,has,()))(h:has=true):0<=i/\i.toNat<xs.length:=by
 simp only [A3n,C4E] at e;obtain ⟨m,_,e⟩:=A2J e;subst h;by_cases h1:m.1<(xs.length:Int)
 ·rw [decide_eq_true h1] at e;simp only [cond_true] at e;by_cases h2:0<=m.1
  ·rw [decide_eq_true h2] at e;simp only [cond_true,Option.some.injEq,Prod.mk.injEq] at e;omega
  ·rw [decide_eq_false h2] at e;cases e
 ·rw [decide_eq_false h1] at e;simp at e
theorem D2P(xs:List TUp)(id:ByteArray)(w:World)(v:Value)(h:RoL (Ro kUp w (fun _=>none)) kUp.sz w (fun _=>none) xs [v])(i:Int)(has:Bool)(e:A3n xs id=some (i,has,())) :
  Calls Tryz.prog 289 #[v,.string id] w fun e w'=>e=.returned (.tuple #[.int .i64 i,.bool has])/\(w.heap.size<=w'.heap.size/\w'.os=w.os/\w'.tape=w.tape/\w'.output=w.output)/\∀ b,b<w.heap.size->w'.heap[b]? = w.heap[b]?:=by
 have hs:=D93 (xs,id,()) (i,has,()) e w (fun _=>none) (fun _=>⟨0,0,[],[]⟩) [v,.string id] ⟨[v],[.string id],rfl,h,.inr rfl,[.string id],[],rfl,rfl,.inr rfl,rfl⟩;refine hs.mono ?_;rintro e w' ⟨Z',vals,rfl,hk,_,hl,hout⟩;obtain ⟨c1,r1,rfl,h1,_,c2,r2,rfl,h2,_,rfl,_⟩:=hout;have h1:c1 = [.int .i64 i]:=h1;have h2:c2 = [.bool has]:=h2;subst h1;subst h2;exact ⟨rfl,⟨hl.size,hl.os,hl.tape,hl.output⟩,fun b hb=>(hk b rfl hb).1⟩
theorem C4n(tmps:Array Value)(w:World)(N:Nat)(d0 d1 d2 d3:Value)(has:Bool)(h4:tmps.getD 4 undef=.pointer (some ⟨N,0,none⟩))(h5:tmps.getD 5 undef=.bool has)
  (c0:w.cell? ⟨N,0,none⟩=some d0) (c1:w.cell? ⟨N,1,none⟩=some d1) (c2:w.cell? ⟨N,2,none⟩=some d2) (c3:w.cell? ⟨N,3,none⟩=some d3) :
  (results Tryz.f276 tmps).run Tryz.prog w=.ok (.tuple #[.agg #[d0,d1,d2,d3],.bool has]) w:=by
 have hr:Tryz.f276.results=#[.cell 4 109,.tmp 5]:=by kernel_rfl
 have aE:=Tryz.isAgg109;have zE:=Tryz.sizeOf109;have hl:=run_loadCells_list (P:=Tryz.prog) w ⟨N,0,none⟩ [d0,d1,d2,d3] (fun j u hu=>by
  rw [Addr.add_lit,Nat.zero_add]
  match j,hu with
  | 0,hu=>injection hu with hu;subst hu;exact c0
  | 1,hu=>injection hu with hu;subst hu;exact c1
  | 2,hu=>injection hu with hu;subst hu;exact c2
  | 3,hu=>injection hu with hu;subst hu;exact c3)
 simp only [List.length_cons,List.length_nil,Nat.reduceAdd,Nat.zero_add] at hl;have h4:tmps[4]?.getD undef=.pointer (some ⟨N,0,none⟩):=by rw [<- Array.getD_eq_getD_getElem?];exact h4
 have h5:tmps[5]?.getD undef=.bool has:=by rw [<- Array.getD_eq_getD_getElem?];exact h5
 simp [results,hr,h4,h5,asAddr,loadVar,aE,zE,hl]
theorem D6r{w:World}{N k:Nat}{v u:Value}(h1:v.oneCell' = true)(hc:w.cell? ⟨N,k,none⟩=some u)(hf:w.frozen? ⟨N,k,none⟩=false):(store ⟨N,k,none⟩ v).run Tryz.prog w=.ok () (w.setCell ⟨N,k,none⟩ v):=by
 rw [run_store Tryz.prog w _ v _ h1,hc];simp [hf]
theorem E5H{w:World}{N:Nat}{z0 z1 z2 z3 d0 d1 d2 d3:Value}(o0:d0.oneCell' = true)(o1:d1.oneCell' = true)(o2:d2.oneCell' = true)(o3:d3.oneCell' = true)(hN:w.heap[N]? = some (.cells #[z0,z1,z2,z3] 109 (0,0))) :
  (store ⟨N,0,none⟩ d0).run Tryz.prog w=.ok () (w.setCell ⟨N,0,none⟩ d0)/\(store ⟨N,1,none⟩ d1).run Tryz.prog (w.setCell ⟨N,0,none⟩ d0)=.ok () ((w.setCell ⟨N,0,none⟩ d0).setCell ⟨N,1,none⟩ d1)/\
  (store ⟨N,2,none⟩ d2).run Tryz.prog ((w.setCell ⟨N,0,none⟩ d0).setCell ⟨N,1,none⟩ d1)=.ok () (((w.setCell ⟨N,0,none⟩ d0).setCell ⟨N,1,none⟩ d1).setCell ⟨N,2,none⟩ d2)/\
  (store ⟨N,3,none⟩ d3).run Tryz.prog (((w.setCell ⟨N,0,none⟩ d0).setCell ⟨N,1,none⟩ d1).setCell ⟨N,2,none⟩ d2)=.ok () ((((w.setCell ⟨N,0,none⟩ d0).setCell ⟨N,1,none⟩ d1).setCell ⟨N,2,none⟩ d2).setCell ⟨N,3,none⟩ d3):=by
 have e1:=setCell_eq_setRow w N 0 _ 109 _ d0 hN;have h1:=setRow_heap w N _ (#[z0,z1,z2,z3].setIfInBounds 0 d0) 109 _ hN;have e2:=setCell_eq_setRow _ N 1 _ 109 _ d1 h1;have h2:=setRow_heap _ N _ ((#[z0,z1,z2,z3].setIfInBounds 0 d0).setIfInBounds 1 d1) 109 _ h1;have e3:=setCell_eq_setRow _ N 2 _ 109 _ d2 h2;have h3:=setRow_heap _ N _ (((#[z0,z1,z2,z3].setIfInBounds 0 d0).setIfInBounds 1 d1).setIfInBounds 2 d2) 109 _ h2;refine ⟨D6r (u:=z0) o0 ?_ ?_,D6r (u:=z1) o1 ?_ ?_,D6r (u:=z2) o2 ?_ ?_,D6r (u:=z3) o3 ?_ ?_⟩
 ·simp [World.cell?,hN]
 ·simp [World.frozen?,hN]
 ·rw [e1,cell_of_row _ N 1 _ 109 _ h1];rfl
 ·rw [e1];exact Thawed.not h1 (.inl rfl) (by simp)
 ·rw [e1,e2,cell_of_row _ N 2 _ 109 _ h2];rfl
 ·rw [e1,e2];exact Thawed.not h2 (.inl rfl) (by simp)
 ·rw [e1,e2,e3,cell_of_row _ N 3 _ 109 _ h3];rfl
 ·rw [e1,e2,e3];exact Thawed.not h3 (.inl rfl) (by simp)
theorem D2Q{w:World}{N:Nat}{z0 z1 z2 z3:Value}(hN:w.heap[N]? = some (.cells #[z0,z1,z2,z3] 109 (0,0)))(d0 d1 d2 d3:Value) :
  let W:=(((w.setCell ⟨N,0,none⟩ d0).setCell ⟨N,1,none⟩ d1).setCell ⟨N,2,none⟩ d2).setCell ⟨N,3,none⟩ d3
  W.heap.size=w.heap.size/\W.os=w.os/\W.tape=w.tape/\W.output=w.output/\(∀ b,b≠N->W.heap[b]? = w.heap[b]?)/\W.cell? ⟨N,0,none⟩=some d0/\W.cell? ⟨N,1,none⟩=some d1/\W.cell? ⟨N,2,none⟩=some d2/\W.cell? ⟨N,3,none⟩=some d3:=by
 have e:(((w.setCell ⟨N,0,none⟩ d0).setCell ⟨N,1,none⟩ d1).setCell ⟨N,2,none⟩ d2).setCell ⟨N,3,none⟩ d3=w.setCells N 0 [d0,d1,d2,d3]:=rfl;have h:=F6 [d0,d1,d2,d3] 0 w N _ 109 _ hN (by simp);intro W;have eW:W=w.setRow N #[d0,d1,d2,d3]:=by
  show (((w.setCell ⟨N,0,none⟩ d0).setCell ⟨N,1,none⟩ d1).setCell ⟨N,2,none⟩ d2).setCell ⟨N,3,none⟩ d3=_;rw [e,h];rfl
 have hg:=setRow_heap w N _ #[d0,d1,d2,d3] 109 _ hN;rw [eW];refine ⟨by simp,rfl,rfl,rfl,fun b hb=>setRow_other w N b _ hb,?_,?_,?_,?_⟩<;>rw [cell_of_row _ N _ _ 109 _ hg]<;>rfl
set_option maxHeartbeats 4000000 in
set_option maxRecDepth 1000000 in
theorem E7e(xs:List TUp)(id:ByteArray)(i:Int)(has:Bool)(e:A3n xs id=some (i,has,()))(w:World)(g o:Nat)(v:Value)(hg:w.cell? ⟨g,o+4,none⟩=some v)(h:RoL (Ro kUp w (fun _=>none)) kUp.sz w (fun _=>none) xs [v])(hi:has=true->0<=i/\i.toNat<xs.length) :
  Calls Tryz.prog 276 #[.pointer (some ⟨g,o,none⟩),.string id] w fun e w'=>∃ cs:List Value,e=.returned (.tuple #[.agg cs.toArray,.bool has])/\
   (w.heap.size<=w'.heap.size/\w'.os=w.os/\w'.tape=w.tape/\w'.output=w.output)/\(∀ b,b<w.heap.size->w'.heap[b]? = w.heap[b]?)/\(has=false->cs=zc kUp)/\
   (has=true->cs.length=4/\∀ A n c,v=.slice (some A) n c->∀ j u,cs[j]? = some u->w.cell? (A.add (i.toNat*4+j))=some u):=by
 have mixed:Tryz.prog.follows .mixedOrders=true:=by kernel_rfl
 have tS:=Tryz.underlying27;have aS:=Tryz.isAgg27;have zS:=Tryz.sizeOf27;have vS:=Tryz.zeroValue27;have t3:=Tryz.underlying3;have a3:=Tryz.isAgg3;have z3:=Tryz.sizeOf3;have v3:=Tryz.zeroValue3;have t4:=Tryz.underlying4;have a4:=Tryz.isAgg4;have z4:=Tryz.sizeOf4;have v4:=Tryz.zeroValue4;have aE:=Tryz.isAgg109;have zE:=Tryz.sizeOf109;have vE:=Tryz.zeroValue109;have tE:=Tryz.underlying109;have aT:=Tryz.isAgg29;have zT:=Tryz.sizeOf29;have tT:=Tryz.underlying29;have uS:=run_underlying tS;have hcall:=Tryz.call289;have hgw:g<w.heap.size:=block_lt_of_cell hg;have hR:∀ W:World,(∀ b,b<w.heap.size->W.heap[b]? = w.heap[b]?)->RoL (Ro kUp W (fun _=>none)) kUp.sz W (fun _=>none) xs [v]:=fun W hW=>Ro.keep (k:=.rs 0 kUp) h (fun b _ hb=>⟨hW b hb,rfl⟩)
 have hbox:∀ w':World,(∀ b,b<(w.alloc (Obj.cells #[Value.string {data:=#[]},Value.int IntKind.i64 0,Value.slice none 0 0,Value.bool false] 109)).heap.size->w'.heap[b]? = (w.alloc (Obj.cells #[Value.string {data:=#[]},Value.int IntKind.i64 0,Value.slice none 0 0,Value.bool false] 109)).heap[b]?)->
   (w'.cell? ⟨w.heap.size,0,none⟩=some (.string {data:=#[]})/\w'.cell? ⟨w.heap.size,1,none⟩=some (.int .i64 0)/\w'.cell? ⟨w.heap.size,2,none⟩=some (.slice none 0 0)/\w'.cell? ⟨w.heap.size,3,none⟩=some (.bool false))/\
   (∀ k,w'.frozen? ⟨w.heap.size,k,none⟩=false)/\w'.heap[w.heap.size]? = some (.cells #[Value.string {data:=#[]},Value.int IntKind.i64 0,Value.slice none 0 0,Value.bool false] 109 (0,0)):=by
  intro w' hk;have hN:w'.heap[w.heap.size]? = some (.cells #[Value.string {data:=#[]},Value.int IntKind.i64 0,Value.slice none 0 0,Value.bool false] 109 (0,0)):=(hk _ (by simp)).trans (heap_alloc_new w _);refine ⟨⟨?_,?_,?_,?_⟩,fun k=>by simp [World.frozen?,hN],hN⟩<;>simp [World.cell?,hN]
 have hold:∀ w':World,(∀ b,b<(w.alloc (Obj.cells #[Value.string {data:=#[]},Value.int IntKind.i64 0,Value.slice none 0 0,Value.bool false] 109)).heap.size->w'.heap[b]? = (w.alloc (Obj.cells #[Value.string {data:=#[]},Value.int IntKind.i64 0,Value.slice none 0 0,Value.bool false] 109)).heap[b]?)->∀ b,b<w.heap.size->w'.heap[b]? = w.heap[b]?:=
  fun w' hk b hb=>(hk b (by simp;omega)).trans (heap_alloc_old w _ hb)
 cases has with
 | false=>
  go_enter Tryz.func276,Tryz.ntmps276
  go_wp2_with (go_at_call 289;refine (D2P xs id _ v (hR _ (fun b hb=>heap_alloc_old _ _ hb)) i false e).mono ?_;rintro e' w' ⟨rfl,⟨g1,g2,g3,g4⟩,hk⟩;obtain ⟨⟨c0,c1,c2,c3⟩,hf,hN⟩:=hbox w' hk;have hO:=hold w' hk)
  obtain ⟨f1,f2,f3,f4,f5,f6,f7,f8,f9⟩:=D2Q hN (.string {data:=#[]}) (.int .i64 0) (.slice none 0 0) (.bool false);refine bodyPost_ret (C4n _ _ w.heap.size _ _ _ _ false rfl rfl f6 f7 f8 f9) rfl ?_;have hz:w.heap.size+1<=w'.heap.size:=by
   have:=g1;simp at this;exact this
  refine ⟨[.string {data:=#[]},.int .i64 0,.slice none 0 0,.bool false],rfl,⟨by omega,f2.trans g2,f3.trans g3,f4.trans g4⟩,fun b hb=>(f5 b (by omega)).trans (hO b hb),fun _=>rfl,fun h=>by cases h⟩
 | true=>
  obtain ⟨h0,hlt⟩:=hi rfl;obtain ⟨A,c,hv,hnc,hcM,hel⟩:=h;injection hv with hv _
  obtain ⟨ad,rfl,_,hel⟩:=hel (by omega);obtain ⟨ds,hdl,hro,hds⟩:=hel i.toNat hlt;obtain ⟨d0,d1,d2,d3,rfl⟩:∃ d0 d1 d2 d3,ds = [d0,d1,d2,d3]:=by
   match ds,hdl with
   | [a,b,c,d],_=>exact ⟨a,b,c,d,rfl⟩
  have hone:=hro.one;have o0:=hone d0 (by simp);have o1:=hone d1 (by simp);have o2:=hone d2 (by simp);have o3:=hone d3 (by simp);have e0:=hds 0 d0 rfl;have e1:=hds 1 d1 rfl;have e2:=hds 2 d2 rfl;have e3:=hds 3 d3 rfl;have hsp:ad.spot=none:=by
   obtain ⟨ds',hdl',_,hds'⟩:=hel 0 (by omega);have:=cell_spot (hds' 0 _ (List.getElem?_eq_getElem (by rw [hdl'];exact Nat.succ_pos _)));simpa [Addr.add] using this
  obtain ⟨ab,ao,asp⟩:=ad;simp only at hsp;subst hsp;subst hv;have k4:kUp.sz=4:=rfl;rw [k4,Addr.add_lit] at e0 e1 e2 e3;obtain ⟨p,rfl⟩:∃ p:Nat,i=(p:Int):=⟨i.toNat,by omega⟩;simp only [Int.toNat_natCast] at hlt e0 e1 e2 e3;have hab:ab<w.heap.size:=block_lt_of_cell e0;have hlt2:(p:Int)<(xs.length:Int):=by omega
  go_enter Tryz.func276,Tryz.ntmps276
  go_wp2_with (go_at_call 289;refine (D2P xs id _ _ (hR _ (fun b hb=>heap_alloc_old _ _ hb)) p true e).mono ?_;rintro e' w' ⟨rfl,⟨g1,g2,g3,g4⟩,hk⟩;obtain ⟨⟨c0,c1,c2,c3⟩,hf,hN⟩:=hbox w' hk;have hO:=hold w' hk;have hgW:w'.cell? ⟨g,o+4,none⟩=some (.slice (some ⟨ab,ao,none⟩) xs.length c):=(World.cell?_of_block (hO _ hgw)).trans hg;have q0:=(World.cell?_of_block (a:=⟨ab,ao+(p*4+0),none⟩) (hO _ hab)).trans e0;have q1:=(World.cell?_of_block (a:=⟨ab,ao+(p*4+1),none⟩) (hO _ hab)).trans e1;have q2:=(World.cell?_of_block (a:=⟨ab,ao+(p*4+2),none⟩) (hO _ hab)).trans e2;have q3:=(World.cell?_of_block (a:=⟨ab,ao+(p*4+3),none⟩) (hO _ hab)).trans e3;simp only [<- Nat.add_assoc,Nat.add_zero] at q0 q1 q2 q3;obtain ⟨s0,s1,s2,s3⟩:=E5H o0 o1 o2 o3 hN)
  obtain ⟨f1,f2,f3,f4,f5,f6,f7,f8,f9⟩:=D2Q hN d0 d1 d2 d3;refine bodyPost_ret (C4n _ _ w.heap.size _ _ _ _ true rfl rfl f6 f7 f8 f9) rfl ?_;have hz:w.heap.size+1<=w'.heap.size:=by
   have:=g1;simp at this;exact this
  refine ⟨[d0,d1,d2,d3],rfl,⟨by omega,f2.trans g2,f3.trans g3,f4.trans g4⟩,fun b hb=>(f5 b (by omega)).trans (hO b hb),(fun h=>by cases h),fun _=>⟨rfl,fun A n c' hA j u hu=>?_⟩⟩;injection hA with hA
  injection hA with hA
  subst hA;rw [Addr.add_lit];simp only [Int.toNat_natCast]
  match j,hu with
  | 0,hu=>injection hu with hu;subst hu;exact e0
  | 1,hu=>injection hu with hu;subst hu;exact e1
  | 2,hu=>injection hu with hu;subst hu;exact e2
  | 3,hu=>injection hu with hu;subst hu;exact e3
theorem A29:C0e Tryz.prog 276 ⟨kUp,4,H2⟩:=by
 intro xs id i hy w g o v hg h;have hy:(A3 (A3n xs id) fun c=>some (bif c.2.1 then c.1 else -1))=some i:=hy;obtain ⟨⟨j,has,u⟩,e,hy⟩:=A2J hy;simp only [Option.some.injEq] at hy;have hb:has=true->0<=j/\j.toNat<xs.length:=E9A xs id j has e;have hrun:=E7e xs id j has e w g o v hg h hb;refine hrun.mono ?_;rintro e' w' ⟨cs,rfl,h1,h2,h3,h4⟩;cases has with
 | false=>
  simp only [cond_false] at hy;subst hy;exact ⟨cs,rfl,h1,h2,fun _=>h3 rfl,fun h=>by omega⟩
 | true=>
  simp only [cond_true] at hy;subst hy;obtain ⟨k1,k2⟩:=hb rfl;refine ⟨cs,by rw [decide_eq_true k1],h1,h2,fun h=>by omega,fun _=>⟨k2,(h4 rfl).1,(h4 rfl).2⟩⟩
end Go.Proofs.YtpdcljonclhhpaaGreat.Ev
