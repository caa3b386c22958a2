/- Maps that are read, functions that begin by hand, elements lent beside their rows. -/
import Derived.Test.YthnfghmjipikhaaGreatDoorEvC
import Derived.MapKept
import Derived.KernelRfl
set_option linter.unusedVariables false
set_option linter.unusedSimpArgs false
namespace Go.Proofs.YthnfghmjipikhaaGreatDoor.Ev
theorem C4a{P:Program}{w:World}{r:Nat}{es:Array MapEntry}{clock:Nat}(hb:w.heap[r]? = some (.map es clock)):(getObj r).run P w=.ok (.map es clock) w:=by
 simp [getObj,Sem.run,hb]
theorem C4b{P:Program}{w:World}{r:Nat}{es:Array MapEntry}{clock:Nat}(o:Obj)(hb:w.heap[r]? = some (.map es clock)):(setObj r o).run P w=.ok () (w.putObj r o):=by
 simp [setObj,Sem.run,hb,World.putObj]
def A9f(k:Int×Int):Value:=.agg #[.int .i64 k.1,.int .i64 k.2]
def fdM:List ((Int×Int)×Int)->Int×Int->Nat->Option (Nat×Int)
 | [],_,_=>none
 | e::es,k,i=>if k.1=e.1.1/\k.2=e.1.2 then some (i,e.2) else fdM es k (i+1)
def lkV(es:List ((Int×Int)×Int))(k:Int×Int):Int:=match fdM es k 0 with
 | some x=>x.2
 | none=>0
def lkO(es:List ((Int×Int)×Int))(k:Int×Int):Bool:=match fdM es k 0 with
 | some _=>true
 | none=>false
def C9S(es:List ((Int×Int)×Int))(k:Int×Int)(v:Int):List ((Int×Int)×Int):=match fdM es k 0 with
 | some x=>es.set x.1 (k,v)
 | none=>es ++ [(k,v)]
def mkM(codes:List (Int×Int)):Nat->List ((Int×Int)×Int)
 | 0=> []
 | k+1=>C9S (mkM codes k) (rd (.pair (.int .i64) (.int .i64)) codes (k:Int)) (k:Int)
structure MapTy (P:Program) (tm tk te:Nat):Prop where
 map:P.underlying tm=some (.map tk te)
 val:P.underlying te=some (.int .i64)
 zero:∃ ti,P.info? te=some ti/\ti.zero=some (.int .i64 0)
 eq:∃ d,d<=10000/\EqD P tk 2 d
 key:∃ f0 f1,P.underlying tk=some (.struct #[f0,f1])/\P.underlying f0.type=some (.int .i64)/\P.underlying f1.type=some (.int .i64)/\f0.offset=0/\f1.offset=1
section
variable {P:Program} {tm tk te:Nat} (h:MapTy P tm tk te)
include h
theorem MapTy.check(em:Bool)(k:Int×Int)(w:World):(Instr.checkKey em 10000 tk (A9f k)).run P w=.ok () w:=by
 obtain ⟨f0,f1,hu,u0,u1,o0,o1⟩:=h.key;have hp:∀ (f:Field) (x:Int) (i:Nat),P.underlying f.type=some (.int .i64)->(Instr.checkKey em 9999 f.type (.int .i64 x)).run P w=.ok () w:=fun f x i hf=>by
  unfold Instr.checkKey;simp only [C4,F9 hf,H2];rfl
 have q0:(part f0.type #[.int .i64 k.1,.int .i64 k.2] f0.offset).run P w=.ok (.int .i64 k.1) w:=by
  rw [o0];simp [part,isAgg,F9 u0]
 have q1:(part f1.type #[.int .i64 k.1,.int .i64 k.2] f1.offset).run P w=.ok (.int .i64 k.2) w:=by
  rw [o1];simp [part,isAgg,F9 u1]
 unfold Instr.checkKey A9f;simp only [C4,F9 hu,H2];by_cases n0:f0.name≠ "_"<;>by_cases n1:f1.name≠ "_"<;>simp [n0,n1,q0,q1,hp f0 k.1 0 u0,hp f1 k.2 0 u1]
theorem MapTy.equal(k e:Int×Int)(w:World):(Op.equal tk (A9f k) (A9f e)).run P w=.ok (decide (k.1=e.1/\k.2=e.2)) w:=by
 obtain ⟨d,hd,_,_,_,h2⟩:=h.eq;have e2:=h2 [k.1,k.2] [e.1,e.2] w (10000-d) rfl rfl;rw [show d+(10000-d)=10000 by omega] at e2;have:eqI [k.1,k.2] [e.1,e.2]=decide (k.1=e.1/\k.2=e.2):=by
  simp [eqI]
 rw [<- this];exact e2
theorem MapTy.asking(k:Int×Int)(w:World):∀ (es:List ((Int×Int)×Int)) (ents:List MapEntry) (i:Nat),ents.map (fun e=>(e.key,e.val))=es.map C4u->
  (Instr.findAsking tk (A9f k) ents i).run P w=.ok ((fdM es k i).map fun x=>(x.1,.int .i64 x.2)) w
 | [],ents,i,he=>by
  have:ents = []:=by simpa using he
  subst this;simp [Instr.findAsking,fdM]
 | e::es,ents,i,he=>by
  cases ents with
  | nil=>simp at he
  | cons x xs=>
   simp only [G3,List.cons.injEq,C4u,B2o] at he;obtain ⟨⟨h1,h2⟩,h3⟩:=he;have h1':x.key=A9f e.1:=h1;simp only [Instr.findAsking,C4,h1',h.equal k e.1 w,H2,h2,fdM];by_cases hq:k.1=e.1.1/\k.2=e.1.2
   ·rw [A0I hq,G0 hq];simp
   ·rw [Q5 hq,D6 hq];simp only [A0c,A0J];exact MapTy.asking k w es xs (i+1) h3
theorem MapTy.find(k:Int×Int)(w:World){es:List ((Int×Int)×Int)}{ents:Array MapEntry}(he:MpC es ents) :
  (Instr.findKey tk (A9f k) ents.toList).run P w=.ok ((fdM es k 0).map fun x=>(x.1,.int .i64 x.2)) w:=by
 obtain ⟨f0,f1,hu,u0,u1,o0,o1⟩:=h.key;have ha:=MapTy.asking h k w es ents.toList 0 he;simp only [Instr.findKey,C4,F9 hu,H2];cases hx:ents.toList with
 | nil=>
  unfold MpC at he;rw [hx] at he;have:es = []:=by simpa using he.symm
  subst this;simp [Instr.findNow,fdM]
 | cons x xs=>
  rw [hx] at ha;have hs:Instr.findNow (.struct #[f0,f1]) (A9f k) (x::xs) 0=none:=by
   simp only [Instr.findNow];have:Instr.sameNow (.struct #[f0,f1]) (A9f k) x.key=none:=rfl;rw [this]
  rw [hs];exact ha
theorem MapTy.lookup(k:Int×Int)(w:World){es:List ((Int×Int)×Int)}{b cl:Nat}{ents:Array MapEntry}(hb:w.heap[b]? = some (.map ents cl))(he:MpC es ents) :
  (Instr.lookup tm (.map (some b)) (A9f k) true).run P w=.ok (.tuple #[.int .i64 (lkV es k),.bool (lkO es k)]) w:=by
 obtain ⟨ti,hti,hz⟩:=h.zero;simp only [Instr.lookup,C4,F9 h.map,H2,C4a hb,A3r,h.check,h.find k w he];unfold lkV lkO;cases fdM es k 0 with
 | none=>simp [zeroValue,typeInfo,hti,hz]
 | some x=>simp
omit h in
theorem C7k:∀ (es:List ((Int×Int)×Int)) (k:Int×Int) (i:Nat) (x:Nat×Int),fdM es k i=some x->∃ j e,x.1=i+j/\es[j]? = some e/\e.1=k
 | [],k,i,x,hx=>by simp [fdM] at hx
 | e::es,k,i,x,hx=>by
  simp only [fdM] at hx;split at hx
  ·rename_i hq;injection hx with hx;subst hx
   exact ⟨0,e,rfl,rfl,by obtain ⟨a,b⟩:=hq;exact Prod.ext a.symm b.symm⟩
  ·obtain ⟨j,e',h1,h2,h3⟩:=C7k es k (i+1) x hx;exact ⟨j+1,e',by omega,by simpa using h2,h3⟩
omit h in
theorem C7l(k:Int×Int)(w:World):(Instr.keyThatStays (A9f k) (A9f k)).run P w=.ok (A9f k) w:=by
 simp [Instr.keyThatStays,A9f,Instr.sameBits]
theorem MapTy.update(k:Int×Int)(v:Int)(w:World){es:List ((Int×Int)×Int)}{b cl:Nat}{ents:Array MapEntry}(hb:w.heap[b]? = some (.map ents cl))(he:MpC es ents) :
  ∃ ents' cl',(Instr.mapUpdate tm (.map (some b)) (A9f k) (.int .i64 v)).run P w=.ok () (w.putObj b (.map ents' cl'))/\MpC (C9S es k v) ents':=by
 simp only [Instr.mapUpdate,C4,F9 h.map,H2,C4a hb,h.check,h.find k w he];cases hf:fdM es k 0 with
 | none=>
  refine ⟨_,_,by simp only [Option.map_none];exact C4b _ hb,?_⟩;unfold MpC C9S at *
  rw [hf];simp [he,C4u,A9f]
 | some x=>
  obtain ⟨j,e,h1,h2,h3⟩:=C7k es k 0 x hf;rw [D9] at h1;subst h1;have hlen:ents.toList.length=es.length:=by have:=Q9 List.length he;simpa using this
  have hj:x.1<ents.size:=by have:=(C3.1 h2).1;rw [<- hlen] at this;simpa using this
  have hk:ents[x.1]? = some ents[x.1]:=H3 hj;have hkey:ents[x.1].key=A9f k:=by
   have h5:=Q9 (·[x.1]?) he;simp only [J8,h2,L7] at h5;rw [J1,hk] at h5;simp only [L7,H5,C4u,B2o] at h5;rw [h5.1,h3];rfl
  refine ⟨_,_,by
   simp only [L7,hk,T8,hkey,C4,C7l,H2];exact C4b _ hb,?_⟩
  unfold MpC C9S at *
  rw [hf];simp only [Array.toList_modify];apply A01;intro i;have h6:=Q9 (·[i]?) he;simp only [J8] at h6;rw [J8,J8,List.getElem?_modify,List.getElem?_set];by_cases hi:x.1=i
  ·subst hi;rw [h2] at h6;cases hq:ents.toList[x.1]? with
   | none=>rw [hq] at h6;cases h6
   | some y=>simp [C4u,A9f,(C3.1 h2).1]
  ·simp only [hi,A0J];rw [<- h6];cases ents.toList[i]?<;>rfl
end
def C06{R:Type}(tm:Nat)(s:St)(t:Nat)(x i:Operand)(U:Kp R):Option R:=
 match Nat.beq t tm,L1 s x,L1 s i with
 | true,some (.one (.mp es),rx),some (.agg [.int .i64 a,.int .i64 b],ri)=>U (rx++ri) [] (.tup [(false,[.int .i64 (lkV es (a,b))]),(false,[.bool (lkO es (a,b))])])
 | _,_,_=>none
theorem C3G{R:Type}{P:Program}{tm tk te:Nat}(h:MapTy P tm tk te){s:St}{t:Nat}{x i:Operand}{U:Kp R}{r:R}(hh:C06 tm s t x i U=some r):OutP P s (.lookup t x i true) U r:=by
 unfold C06 at hh;split at hh
 ·rename_i es rx a b ri et ex ei;have et:=A0 et;subst et;refine .mk' _ _ hh (Reads.app.2 ⟨B9 ex,B9 ei⟩) fun n0 w0 Z0 s' ac m oo ho hr hrd=>?_
  obtain ⟨bk,ents,cl,hx,hZ,hb,he⟩:LfC s' m (.mp es) (ac.eval x):=D8 ex hr (Reads.app.1 hrd).1;obtain ⟨cs,hi,hcs⟩:AVC s' m (.agg [.int .i64 a,.int .i64 b]) (ac.eval i):=D8 ei hr (Reads.app.1 hrd).2;have hcs2:cs = [.int .i64 a,.int .i64 b]:=by
   cases cs with
   | nil=>exact hcs.elim
   | cons c0 cs=>cases cs with
    | nil=>exact hcs.2.elim
    | cons c1 cs=>cases cs with
     | cons _ _=>exact hcs.2.2.elim
     | nil=>
      have e0:c0=.int .i64 a:=hcs.1;have e1:c1=.int .i64 b:=hcs.2.1;rw [e0,e1]
  subst hcs2;have hrun:=h.lookup (a,b) m.w hb he;refine ⟨_,by simp only [execOp,ho,hx,hi,C4];rw [show (Value.agg [Value.int .i64 a,Value.int .i64 b].toArray)=A9f (a,b) from rfl,hrun];rfl,?_⟩;exact ⟨[.int .i64 (lkV es (a,b)),.bool (lkO es (a,b))],rfl,⟨_,rfl,rfl⟩,⟨_,rfl,rfl⟩,trivial⟩
 ·cases hh
def D08(cfg:Cfg)(Γ:List (Nat×Fn))(tm:Nat):A79:=fun s op d U=>match op,d with
 | .lookup t x i true,some d=>C06 tm s t x i (kp d U)
 | op,d=>C9H cfg Γ s op d U
theorem D1D{P:Program}{cfg:Cfg}(hc:J9 P cfg){Γ:List (Nat×Fn)}(hΓ:A41 P Γ){tm tk te:Nat}(h:MapTy P tm tk te):A49 P (D08 cfg Γ tm):=by
 intro R s op d U r hh;dsimp only [D08] at hh;split at hh
 ·exact (C3G h hh).g
 ·exact C4S hc hΓ hh
end Go.Proofs.YthnfghmjipikhaaGreatDoor.Ev
namespace Go.Proofs.YthnfghmjipikhaaGreatDoor.Ev
theorem Rel.weaken{n:Nat}{w0:World}{Z0:Gh}{s s1:St}{a:Act}{m:Mem}(h:Rel n w0 Z0 s a m)(hs:∀ l lv,s1.get l=some lv->s.get l=some lv):Rel n w0 Z0 s1 a m:=by
 have hE:∀ L,Ext s m s1 m L:=fun L=>⟨Keeps.refl _ _,fun id r' _ hr=>⟨r',hs _ _ hr,rfl,rfl,rfl,C6 _,fun _ _ _ _ hc=>hc,fun _=>Moves.refl _ _ _⟩,fun b c' _ hc=>⟨c',hs _ _ hc,rfl⟩,fun q i _ hi=>hs _ _ hi⟩
 refine ⟨h.sz,h.df,fun d v hg=>(h.tm d v (hs _ _ hg)).ext (hE _),fun id r hg=>h.rw id r (hs _ _ hg),fun b c hg=>?_,h.kp,h.fo,h.nn,fun id r h1 h2 hg=>h.gr id r h1 h2 (hs _ _ hg),fun b c hg=>h.gb b c (hs _ _ hg),h.hs,h.os,h.tp,h.ou⟩;obtain ⟨cs,h1,h2,h3,h4⟩:=h.bx b c (hs _ _ hg);exact ⟨cs,All2.imp (fun l hl b hb=>hb.ext (hE _)) h1,h2,h3,h4⟩
theorem Rel.newAlien{n:Nat}{w0:World}{Z0:Gh}{s:St}{a:Act}{m:Mem}(h:Rel n w0 Z0 s a m)(o:Obj)(ha:Z0.al = []) :
  Rel n w0 {Z0 with al:= [(m.w.heap.size,o)]} s a ⟨m.w.alloc o,fun c=>if c=m.w.heap.size then some [] else m.Z c,m.ρ,m.β⟩:=by
 have hg:∀ b,b<m.w.heap.size->(m.w.alloc o).heap[b]? = m.w.heap[b]?:=fun b hb=>by
  simp only [World.alloc];rw [Array.getElem?_push,D6 (by omega)]
 have hf:Fore w0 (m.w.alloc o) Z0.Z (fun c=>if c=m.w.heap.size then some [] else m.Z c):=fun b hb hlt=>by
  obtain ⟨g1,g2⟩:=h.fo b hb hlt;have hlt2:b<m.w.heap.size:=A73 hlt h.hs;exact ⟨(hg b hlt2).trans g1,(D6 (by omega)).trans g2⟩
 have hdf:=h.df;have h1:=h.alien (w':=m.w.alloc o) (Z':=fun c=>if c=m.w.heap.size then some [] else m.Z c) (ds:=a.defers) (fun b hb hlt=>⟨hg b hlt,D6 (by omega)⟩) hf (show m.w.heap.size<=(m.w.heap.push o).size by simp) rfl rfl rfl (by
  rw [ha] at hdf ⊢;refine ⟨⟨hdf.1.1,fun d hd=>?_⟩,fun p hp=>nomatch hp⟩;obtain ⟨D,e,h1,h2,h3⟩:=hdf.1.2 d hd;have hlt:=(A9.1 h3).1;exact ⟨D,e,h1,(D6 (by omega)).trans h2,(hg D hlt).trans h3⟩)
 refine h1.reAl ⟨?_,fun p hp=>?_⟩
 ·have:=h1.df.1;exact this
 ·rw [A6.1 hp];exact ⟨h.hs,G0 rfl,show (m.w.heap.push o)[m.w.heap.size]? = some o by simp⟩
theorem Rel.turnAl{n:Nat}{w0:World}{Z0:Gh}{s:St}{a:Act}{m:Mem}{b:Nat}{o:Obj}(h:Rel n w0 {Z0 with al:= [(b,o)]} s a m)(o':Obj)(hm:∀ ts,o≠.deferred ts) :
  Rel n w0 {Z0 with al:= [(b,o')]} s a ⟨m.w.putObj b o',m.Z,m.ρ,m.β⟩:=by
 obtain ⟨h1,h2,h3⟩:=h.df.2 (b,o) A5;have hd:DfOk w0 [] a.defers m.w m.Z:=⟨h.df.1,fun p hp=>nomatch hp⟩;have h0:=h.reAl (Z0:={Z0 with al:= [(b,o)]}) hd;have hdf:DfOk w0 [] a.defers (m.w.putObj b o') m.Z:=by
  refine ⟨⟨hd.1.1,fun d hd'=>?_⟩,fun p hp=>nomatch hp⟩;obtain ⟨D,e,g1,g2,g3⟩:=hd.1.2 d hd';refine ⟨D,e,g1,g2,?_⟩;rw [I3 (fun e=>by
   subst e;rw [g3] at h3;injection h3 with h3
   exact hm _ h3.symm)]
  exact g3
 have h4:=Rel.turn (Z0:={Z0 with al:= []}) h0 (o':=o') (ds:=a.defers) h2 h1 hdf;refine Rel.reAl (Z0:={Z0 with al:= []}) h4 ⟨hdf.1,fun p hp=>?_⟩;rw [A6.1 hp];refine ⟨h1,h2,?_⟩;have hlt:=(A9.1 h3).1;simp [World.putObj,hlt]
theorem Rel.doneAl{n:Nat}{w0:World}{Z0:Gh}{s:St}{a:Act}{m:Mem}{b:Nat}{o:Obj}(ha:Z0.al = [])(h:Rel n w0 {Z0 with al:= [(b,o)]} s a m)(hm:∀ ts,o≠.deferred ts) :
  Rel n w0 Z0 s a ⟨m.w,fun c=>if c=b then none else m.Z c,m.ρ,m.β⟩/\m.w.heap[b]? = some o:=by
 obtain ⟨h1,h2,h3⟩:=h.df.2 (b,o) A5;have hd:DfOk w0 Z0.al a.defers m.w m.Z:=⟨h.df.1,fun p hp=>by rw [ha] at hp;exact nomatch hp⟩;have h0:Rel n w0 Z0 s a m:=h.reAl (Z0:={Z0 with al:= [(b,o)]}) hd;refine ⟨?_,h3⟩;refine h0.alien (w':=m.w) (Z':=fun c=>if c=b then none else m.Z c) (ds:=a.defers) (fun c hc hlt=>⟨rfl,D6 fun e=>hc (by rw [e];exact h2)⟩) (fun c hc hlt=>?_) (C6 _) rfl rfl rfl ?_
 ·obtain ⟨g1,g2⟩:=h0.fo c hc hlt;have:b<m.w.heap.size:=(A9.1 h3).1;exact ⟨g1,(D6 (show ¬ c=b by have:w0.heap.size<=b:=h1;omega)).trans g2⟩
 ·rw [ha];refine ⟨⟨hd.1.1,fun d hd'=>?_⟩,fun p hp=>nomatch hp⟩;obtain ⟨D,e,g1,g2,g3⟩:=hd.1.2 d hd';exact ⟨D,e,g1,(D6 fun e=>by
   subst e;rw [g3] at h3;injection h3 with h3
   exact hm _ h3.symm).trans g2,g3⟩
theorem C3H{P:Program}{E:A79}(hE:A49 P E){R:Type}{n:Nat}{ops:Array Oper}{tl:List Nat}:∀ {os:List Oper} {i:Nat} {s:St} {k:St->Option R} {r:R},
  (∀ j o,os[j]? = some o->ops[i+j]? = some o)->B0s E n ops os s k=some r->
  ∃ s',k s' = some r/\s <:+ s'/\∀ w0 Z0 a m,Rel n w0 Z0 s a m->∀ Q:Exit->Act->World->Prop,(∀ a' m',Rel n w0 Z0 s' a' m'->wpOps P ops Q tl a' m'.w)->wpOps P ops Q (List.range' i os.length++tl) a m.w
 | [],i,s,k,r,_,h=>⟨s,h,H7 _,fun w0 Z0 a m hr Q hQ=>hQ a m hr⟩
 | o::os,i,s,k,r,hops,h=>by
  simp only [B0s] at h;split at h
  ·rename_i hok;obtain ⟨s',δ,h1,hsf,h2,_,h3,h4⟩:=B9m hE (n:=n) (hops 0 o rfl) (C2n hok) h;split at h1
   ·rename_i hf;obtain ⟨s'',h5,hsf2,h6⟩:=C3H hE (i:=i+1) (tl:=tl) (fun j o' hj=>by
     have:=hops (j+1) o' (by simpa using hj)
     rwa [show i+(j+1)=i+1+j by omega] at this) h1
    refine ⟨s'',h5,hsf.trans ((U6 _ _).trans hsf2),fun w0 Z0 a m hr Q hQ=>?_⟩;rw [G9,List.range'_succ,C7,B3R];exact h4 w0 Z0 s' a m (hr.geq h2) h3 (fun l hl=>A6a (C8.1 hf l hl)) Q _ fun a' m' hr'=>h6 w0 Z0 a' m' hr' Q hQ
   ·cases h1
  ·cases h
theorem D0i{P:Program}{ops:Array Oper}{i:Nat}{o:Oper}(ho:ops[i]? = some o)(hg:o.guard=none){tl:List Nat}{Q:Exit->Act->World->Prop}{a:Act}{w w':World}{nx:Next}
  (hrun:(execOp a.eval o).run P w=.ok nx w') {v:Value} (hv:nx=.value v\/(nx=.skip/\v=undef)) (h:wpOps P ops Q tl (a.put o.dst v) w'):wpOps P ops Q (i::tl) a w:=by
 rw [B3R];have hw:Region.wanted o (yielded ops a.tmps)=true:=by simp only [Region.wanted,hg]
 simp only [wpOp,ho,hw,Q7];refine .inl ?_;simp only [Oper.wp,hrun];rcases hv with rfl | ⟨rfl,rfl⟩
 ·exact h
 ·exact h
theorem D11{P:Program}(hm:P.follows .mixedOrders=true){cfg:Cfg}(hc:J9 P cfg){E:A79}(hE:A49 P E){f:Nat}{fn:Func}{c:Code}(hf:P.funcs[f]? = some fn)(hb:fn.body=some c){An:Nat->Option Jn}
  {ps:List PK} {res:List RK} (hn:ps.length<=fn.ntmps) (hn2:fn.ntmps<=1000) (hp:ps.length<=16) (hsz:∀ p∈ps,B3g p.k=true) {rest:Code} {pos:Nat} {sB:Ts (ins ps)->Option St}
  (hpre:∀ (x:Ts (ins ps)) (s1:St) (w:World) (Z0:Gh) (a:Act) (m:Mem) (Q:Exit->Act->World->Prop),sB x=some s1->Z0.al = []->Rel fn.ntmps w Z0 (B7A 0 ps x) a m->(∀ a' m',Rel fn.ntmps w Z0 s1 a' m'->rest.wp P Q a' m'.w)->c.wp P Q a m.w)
  {g:Ts (ins ps)->Option (Ts (outs res ps))}
  (e:∀ x,(B1 (sB x) fun s1=>ev E cfg.ck fn.ntmps An rest pos s1 (Ts (outs res ps)) fun e s=>match e with
   | .exit _=>none
   | _=>B9Q cfg fn.results.toList res ps x s)=g x):A0O P f ⟨ps,res,g⟩:=by
 intro x y hy w Z pls args hargs;have hent:=B9O hargs hsz hn hn2;have hy2:g x=some y:=hy;rw [<- e x] at hy2;obtain ⟨s1,h1,h2⟩:=A14 hy2;refine B0R.1 (B2W (F:=Fence.wide) (n:=3) hf hb trivial (wpIn_wide.2 ?_));refine hpre x s1 w _ _ (B0V w Z pls ps args) _ h1 rfl hent fun a' m' hr'=>?_
 refine D02 hm hE (fun f g e=>(hc.ck e).2.1) rest pos s1 _ _ y h2 w _ a' m' _ hr' fun e s a0 m0 hk hs hr0=>?_
 have key:∀ (a:Act) (m:Mem),a.tmps=a0.tmps->Rel fn.ntmps w (C9I (B0V w Z pls ps args)) s a m->B9Q cfg fn.results.toList res ps x s=some y->∃ v,(results fn a.tmps).run P m.w=.ok v m.w/\∃ Z' vals,Ending.returned v=.returned (pack vals)/\Keeps w m.w Z Z'/\Fore w m.w Z Z'/\Later w m.w/\B8J m.w Z' pls ps args 0 res y vals:=by
  intro a m ht hr0 h;obtain ⟨Zt,ρt,hr⟩:=B7E (res:=res) (rvs:=fn.results.toList) (w:=m.w) (β:=m.β) (Z:=m.Z) (ρ:=m.ρ) hr0;unfold B9Q C3E at h;split at h
  ·rename_i vs evs;split at h
   ·rename_i y1 hd2 bo2 bx e2;split at h
    ·rename_i z hd1 bo1 bx1 e1;split at h
     ·rename_i hok;injection h with h;subst h
      simp only [C3D,B3] at hok;obtain ⟨vals,hv1,hv2⟩:=B79 hc hr evs;have hcal:CalOk ⟨m.w,Zt,ρt,m.β⟩ (M5 (A8u (hd1++hd2) (bx1++bx)) ((bo1++bo2).map (2*·)) Zt) (hd1++hd2) (bo1++bo2):=by
       refine ⟨fun g hh p=>A36 m.w (T4 hok.1 (E2 _ (D0.2 ⟨g,hh,rfl⟩))) p,fun id hid=>B4W m.w (B3f fun hm=>?_) (D0.2 ⟨id,hid,rfl⟩) []⟩;obtain ⟨g,hh,e⟩:=D0.1 hm;injection e with e
       have:=C8.1 (C8.1 hok.2 id hid) g hh;rw [e,A0e] at this;cases this
      have hkp:=B4V m.w (A8u (hd1++hd2) (bx1++bx)) ((bo1++bo2).map (2*·)) Zt;have hkept:=B16 hsz hr hkp e2 hargs (fun idx p hp=>by rw [D9];exact hp) (fun idx v hv=>by rw [D9];exact hv) (by omega) hcal.right
       (fun z hz=>A36 m.w (T4 hok.1 (D3 _ (D0.2 ⟨z,D3 _ hz,rfl⟩))) [])
      have hout:=B6J hr hkp e1 hcal.left hkept (fun z hz=>A36 m.w (T4 hok.1 (D3 _ (D0.2 ⟨z,E2 _ hz,rfl⟩))) []) hv2;refine ⟨_,hv1,_,vals,rfl,hr.kp.trans hkp hr.hs,hr.fo.trans (fun b hb _=>⟨rfl,by have hb2:Zt b=some []:=hb;simp only [M5,hb2]⟩) hr.hs,⟨hr.hs,hr.os,hr.tp,hr.ou⟩,hout⟩
     ·cases h
    ·cases h
   ·cases h
  ·cases h
 cases e with
 | normal=>exact A3Q a0.defers rfl rfl hr0 fun a' m' ht hr=>key a' m' ht hr hk
 | ret=>exact A3Q a0.defers rfl rfl hr0 fun a' m' ht hr=>key a' m' ht hr hk
 | exit id=>cases hk
structure Als where
 f:Nat
 F:Fn
 lq:Nat
 esz:Nat
 off:Nat
noncomputable def mkF(cfg:Cfg)(Γ:List (Nat×Fn))(An:List (Nat×Jn))(fn:Func)(p:Nat×Fn):Fn:=C5V cfg Γ (A90 An) fn.ntmps fn.results.toList (fn.body.getD .skip) p.2.ps p.2.res
abbrev EF(cfg:Cfg)(Γ:List (Nat×Fn))(An:List (Nat×Jn))(fn:Func)(p:Nat×Fn):Prop:=∀ x,(mkF cfg Γ An fn p).fn x=p.2.fn x
abbrev SP(P:Program)(p:Nat×Fn):Prop:=A0O P p.1 p.2
theorem sF{P:Program}(hm:P.follows .mixedOrders=true){cfg:Cfg}(hc:J9 P cfg){Γ:List (Nat×Fn)}(hΓ:A41 P Γ){fn:Func}{p:Nat×Fn}(hf:P.funcs[p.1]? = some fn){An:List (Nat×Jn)}(e:EF cfg Γ An fn p)
  (h:(okN p.2.ps fn.ntmps&&fn.body.isSome)=true:=by kernel_rfl):SP P p:=by
 obtain ⟨f,ps,res,g⟩:=p;simp only [B3] at h;have hb:fn.body=some (fn.body.getD .skip):=by
  cases e:fn.body with
  | none=>rw [e] at h;exact absurd h.2 (by simp)
  | some c=>rfl
 exact sm hm hc hΓ hf hb h.1 e
theorem tI{P:Program}{t:Nat}(f:TypeInfo){U:IntKind}{b:Nat}(h5:P.underlying t=some (.int U))(h1:P.info? t=some f:=by kernel_rfl)(h2:f.size=1:=by kernel_rfl)(h3:f.bytes=b:=by kernel_rfl)(h4:f.zero=some (.int U 0):=by kernel_rfl):V7 P t ⟨false,.int U,b,[]⟩:=C7g h1 h2 h3 h4 h5
theorem tB{P:Program}{t:Nat}(f:TypeInfo){b:Nat}(h5:P.underlying t=some .bool)(h1:P.info? t=some f:=by kernel_rfl)(h2:f.size=1:=by kernel_rfl)(h3:f.bytes=b:=by kernel_rfl)(h4:f.zero=some (.bool false):=by kernel_rfl):V7 P t ⟨false,.bool,b,[]⟩:=C5W h1 h2 h3 h4 h5
theorem tS{P:Program}{t:Nat}(f:TypeInfo){b:Nat}(h5:P.underlying t=some .string)(h1:P.info? t=some f:=by kernel_rfl)(h2:f.size=1:=by kernel_rfl)(h3:f.bytes=b:=by kernel_rfl)(h4:f.zero=some (.string ⟨#[]⟩):=by kernel_rfl):V7 P t ⟨false,.str,b,[]⟩:=C7h h1 h2 h3 h4 h5
theorem tL{P:Program}{t e:Nat}{k:K}(f:TypeInfo){b:Nat}(h5:P.underlying t=some (.slice e))(h1:P.info? t=some f:=by kernel_rfl)(h2:f.size=1:=by kernel_rfl)(h3:f.bytes=b:=by kernel_rfl)(h4:f.zero=some (.slice none 0 0):=by kernel_rfl):V7 P t ⟨false,.sl e k,b,[]⟩:=C9M h1 h2 h3 h4 h5
theorem tR{P:Program}{t e:Nat}{k:K}(f:TypeInfo){b:Nat}(h5:P.underlying t=some (.slice e))(h1:P.info? t=some f:=by kernel_rfl)(h2:f.size=1:=by kernel_rfl)(h3:f.bytes=b:=by kernel_rfl)(h4:f.zero=some (.slice none 0 0):=by kernel_rfl):V7 P t ⟨false,.rs e k,b,[]⟩:=C9O h1 h2 h3 h4 h5
theorem tF{P:Program}{fd:Field}{f:Nat×Nat×Bool}{d:TypeDesc}(i:TypeInfo)(h4:P.underlying fd.type=some d)(h1:fd.offset=f.1:=by kernel_rfl)(h2:P.info? fd.type=some i:=by kernel_rfl)(h3:i.size=f.2.1:=by kernel_rfl)(h5:Nat.blt 0 f.2.1=true:=by kernel_rfl)(h6:B2p d=f.2.2:=by kernel_rfl):B6U P fd f:=
 ⟨h1,⟨i,h2,h3⟩,A8 (by simpa using h5),⟨d,h4,h6⟩⟩
theorem tT{P:Program}{t:Nat}(f:TypeInfo){fs:Array Field}{k:K}{b:Nat}{fl:List (Nat×Nat×Bool)}(h5:P.underlying t=some (.struct fs))(h7:C05 P fs.toList fl)(h1:P.info? t=some f:=by kernel_rfl)(h2:f.size=k.sz:=by kernel_rfl)(h3:f.bytes=b:=by kernel_rfl)
  (h4:f.zero=some (.agg (zc k).toArray):=by kernel_rfl) (hk:k.prim=false:=by kernel_rfl):V7 P t ⟨true,k,b,fl⟩:=C9N h1 h2 h3 h4 h5 h7 hk
theorem tA{P:Program}{ty:Nat->Option TyI}{t n e:Nat}(f:TypeInfo)(ti:TyI)(h1:P.underlying t=some (.array n e))(h3:ty e=some ti:=by kernel_rfl)(h2:P.info? t=some f:=by kernel_rfl)(h4:f.zero=some (.agg (List.replicate n (zc ti.k)).flatten.toArray):=by kernel_rfl):C6L P ty t n e:=C9P h1 h2 h3 h4
end Go.Proofs.YthnfghmjipikhaaGreatDoor.Ev
