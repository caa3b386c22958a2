/- Maps that are read, functions that begin by hand, elements lent beside their rows. -/
import Derived.Test.YthnfghmjipikhaaGreatDoorEvC
import Derived.MapKept
import Derived.KernelRfl
set_option linter.unusedVariables false
set_option linter.unusedSimpArgs false
namespace Go.Proofs.YthnfghmjipikhaaGreatDoor.Ev
open IntKind (i64 u8 u64 u32)
theorem D5P{P:Program}{w:World}{r:Nat}{es:Array MapEntry}{clock:Nat}(hb:w.heap[r]? = some (.map es clock)):(getObj r).run P w=.ok (.map es clock) w:=by
 simp [getObj,Sem.run,hb]
theorem D5Q{P:Program}{w:World}{r:Nat}{es:Array MapEntry}{clock:Nat}(o:Obj)(hb:w.heap[r]? = some (.map es clock)):(setObj r o).run P w=.ok () (w.putObj r o):=by
 simp [setObj,Sem.run,hb,World.putObj]
def B4U(k:Int×Int):Value:=.agg #[.int .i64 k.1,.int .i64 k.2]
def fdM:List ((Int×Int)×Int)->Int×Int->Nat->Option (Nat×Int)
 | [],_,_=>none
 | e::es,k,i=>if k.1=e.1.1/\k.2=e.1.2 then some (i,e.2) else fdM es k (i+1)
def lkV(es:List ((Int×Int)×Int))(k:Int×Int):Int:=match fdM es k 0 with
 | some x=>x.2
 | none=>0
def lkO(es:List ((Int×Int)×Int))(k:Int×Int):Bool:=match fdM es k 0 with
 | some _=>true
 | none=>false
def E1m(es:List ((Int×Int)×Int))(k:Int×Int)(v:Int):List ((Int×Int)×Int):=match fdM es k 0 with
 | some x=>es.set x.1 (k,v)
 | none=>es ++ [(k,v)]
def mkM(codes:List (Int×Int)):Nat->List ((Int×Int)×Int)
 | 0=> []
 | k+1=>E1m (mkM codes k) (rd (.pair (.int .i64) (.int .i64)) codes (k:Int)) (k:Int)
structure MapTy (P:Program) (tm tk te:Nat):Prop where
 map:P.underlying tm=some (.map tk te)
 val:P.underlying te=some (.int .i64)
 zero:∃ ti,P.info? te=some ti/\ti.zero=some (.int .i64 0)
 eq:∃ d,d<=10000/\EqD P tk 2 d
 key:∃ f0 f1,P.underlying tk=some (.struct #[f0,f1])/\P.underlying f0.type=some (.int .i64)/\P.underlying f1.type=some (.int .i64)/\f0.offset=0/\f1.offset=1
section
variable {P:Program} {tm tk te:Nat} (h:MapTy P tm tk te)
include h
theorem MapTy.check(em:Bool)(k:Int×Int)(w:World):(Instr.checkKey em 10000 tk (B4U k)).run P w=.ok () w:=by
 obtain ⟨f0,f1,hu,u0,u1,o0,o1⟩:=h.key;have hp:∀ (f:Field) (x:Int) (i:Nat),P.underlying f.type=some (.int .i64)->(Instr.checkKey em 9999 f.type (.int .i64 x)).run P w=.ok () w:=fun f x i hf=>by
  unfold Instr.checkKey;simp only [D0,H3 hf,I0];rfl
 have q0:(part f0.type #[.int .i64 k.1,.int .i64 k.2] f0.offset).run P w=.ok (.int .i64 k.1) w:=by
  rw [o0];simp [part,isAgg,H3 u0]
 have q1:(part f1.type #[.int .i64 k.1,.int .i64 k.2] f1.offset).run P w=.ok (.int .i64 k.2) w:=by
  rw [o1];simp [part,isAgg,H3 u1]
 unfold Instr.checkKey B4U;simp only [D0,H3 hu,I0];by_cases n0:f0.name≠ "_"<;>by_cases n1:f1.name≠ "_"<;>simp [n0,n1,q0,q1,hp f0 k.1 0 u0,hp f1 k.2 0 u1]
theorem MapTy.equal(k e:Int×Int)(w:World):(Op.equal tk (B4U k) (B4U e)).run P w=.ok (decide (k.1=e.1/\k.2=e.2)) w:=by
 obtain ⟨d,hd,_,_,_,h2⟩:=h.eq;have e2:=h2 [k.1,k.2] [e.1,e.2] w (10000-d) rfl rfl;rw [show d+(10000-d)=10000 by omega] at e2;have:eqI [k.1,k.2] [e.1,e.2]=decide (k.1=e.1/\k.2=e.2):=by
  simp [eqI]
 rw [<- this];exact e2
theorem MapTy.asking(k:Int×Int)(w:World):∀ (es:List ((Int×Int)×Int)) (ents:List MapEntry) (i:Nat),ents.map (fun e=>(e.key,e.val))=es.map D6F->
  (Instr.findAsking tk (B4U k) ents i).run P w=.ok ((fdM es k i).map fun x=>(x.1,.int .i64 x.2)) w
 | [],ents,i,he=>by
  have:ents = []:=by simpa using he
  subst this;simp [Instr.findAsking,fdM]
 | e::es,ents,i,he=>by
  cases ents with
  | nil=>simp at he
  | cons x xs=>
   simp only [H7,List.cons.injEq,D6F,B4F] at he;obtain ⟨⟨h1,h2⟩,h3⟩:=he;have h1':x.key=B4U e.1:=h1;simp only [Instr.findAsking,D0,h1',h.equal k e.1 w,I0,h2,fdM];by_cases hq:k.1=e.1.1/\k.2=e.1.2
   ·rw [R3 hq,A9 hq];simp
   ·rw [T3 hq,A5 hq];simp only [J0,J1];exact MapTy.asking k w es xs (i+1) h3
theorem MapTy.find(k:Int×Int)(w:World){es:List ((Int×Int)×Int)}{ents:Array MapEntry}(he:MpC es ents) :
  (Instr.findKey tk (B4U k) ents.toList).run P w=.ok ((fdM es k 0).map fun x=>(x.1,.int .i64 x.2)) w:=by
 obtain ⟨f0,f1,hu,u0,u1,o0,o1⟩:=h.key;have ha:=MapTy.asking h k w es ents.toList 0 he;simp only [Instr.findKey,D0,H3 hu,I0];cases hx:ents.toList with
 | nil=>
  unfold MpC at he;rw [hx] at he;have:es = []:=by simpa using he.symm
  subst this;simp [Instr.findNow,fdM]
 | cons x xs=>
  rw [hx] at ha;have hs:Instr.findNow (.struct #[f0,f1]) (B4U k) (x::xs) 0=none:=by
   simp only [Instr.findNow];have:Instr.sameNow (.struct #[f0,f1]) (B4U k) x.key=none:=rfl;rw [this]
  rw [hs];exact ha
theorem MapTy.lookup(k:Int×Int)(w:World){es:List ((Int×Int)×Int)}{b cl:Nat}{ents:Array MapEntry}(hb:w.heap[b]? = some (.map ents cl))(he:MpC es ents) :
  (Instr.lookup tm (.map (some b)) (B4U k) true).run P w=.ok (.tuple #[.int .i64 (lkV es k),.bool (lkO es k)]) w:=by
 obtain ⟨ti,hti,hz⟩:=h.zero;simp only [Instr.lookup,D0,H3 h.map,I0,D5P hb,A4R,h.check,h.find k w he];unfold lkV lkO;cases fdM es k 0 with
 | none=>simp [zeroValue,typeInfo,hti,hz]
 | some x=>simp
omit h in
theorem D9R:∀ (es:List ((Int×Int)×Int)) (k:Int×Int) (i:Nat) (x:Nat×Int),fdM es k i=some x->∃ j e,x.1=i+j/\es[j]? = some e/\e.1=k
 | [],k,i,x,hx=>by simp [fdM] at hx
 | e::es,k,i,x,hx=>by
  simp only [fdM] at hx;split at hx
  ·rename_i hq;injection hx with hx;subst hx
   exact ⟨0,e,rfl,rfl,by obtain ⟨a,b⟩:=hq;exact Prod.ext a.symm b.symm⟩
  ·obtain ⟨j,e',h1,h2,h3⟩:=D9R es k (i+1) x hx;exact ⟨j+1,e',by omega,by simpa using h2,h3⟩
omit h in
theorem D9S(k:Int×Int)(w:World):(Instr.keyThatStays (B4U k) (B4U k)).run P w=.ok (B4U k) w:=by
 simp [Instr.keyThatStays,B4U,Instr.sameBits]
theorem MapTy.update(k:Int×Int)(v:Int)(w:World){es:List ((Int×Int)×Int)}{b cl:Nat}{ents:Array MapEntry}(hb:w.heap[b]? = some (.map ents cl))(he:MpC es ents) :
  ∃ ents' cl',(Instr.mapUpdate tm (.map (some b)) (B4U k) (.int .i64 v)).run P w=.ok () (w.putObj b (.map ents' cl'))/\MpC (E1m es k v) ents':=by
 simp only [Instr.mapUpdate,D0,H3 h.map,I0,D5P hb,h.check,h.find k w he];cases hf:fdM es k 0 with
 | none=>
  refine ⟨_,_,by simp only [Option.map_none];exact D5Q _ hb,?_⟩;unfold MpC E1m at *
  rw [hf];simp [he,D6F,B4U]
 | some x=>
  obtain ⟨j,e,h1,h2,h3⟩:=D9R es k 0 x hf;rw [E1] at h1;subst h1;have hlen:ents.toList.length=es.length:=by have:=J7 List.length he;simpa using this
  have hj:x.1<ents.size:=by have:=(D3.1 h2).1;rw [<- hlen] at this;simpa using this
  have hk:ents[x.1]? = some ents[x.1]:=J5 hj;have hkey:ents[x.1].key=B4U k:=by
   have h5:=J7 (·[x.1]?) he;simp only [L7,h2,M4] at h5;rw [M2,hk] at h5;simp only [M4,H2,D6F,B4F] at h5;rw [h5.1,h3];rfl
  refine ⟨_,_,by
   simp only [M4,hk,A0m,hkey,D0,D9S,I0];exact D5Q _ hb,?_⟩
  unfold MpC E1m at *
  rw [hf];simp only [Array.toList_modify];apply A3M;intro i;have h6:=J7 (·[i]?) he;simp only [L7] at h6;rw [L7,L7,List.getElem?_modify,List.getElem?_set];by_cases hi:x.1=i
  ·subst hi;rw [h2] at h6;cases hq:ents.toList[x.1]? with
   | none=>rw [hq] at h6;cases h6
   | some y=>simp [D6F,B4U,(D3.1 h2).1]
  ·simp only [hi,J1];rw [<- h6];cases ents.toList[i]?<;>rfl
end
def C9D{R:Type}(tm:Nat)(s:St)(t:Nat)(x i:Operand)(κ:Kp R):Option R:=
 match Nat.beq t tm,S4 s x,S4 s i with
 | true,some (.one (.mp es),rx),some (.agg [.int .i64 a,.int .i64 b],ri)=>κ (rx++ri) [] (.tup [(false,[.int .i64 (lkV es (a,b))]),(false,[.bool (lkO es (a,b))])])
 | _,_,_=>none
theorem D3Q{R:Type}{P:Program}{tm tk te:Nat}(h:MapTy P tm tk te){s:St}{t:Nat}{x i:Operand}{κ:Kp R}{r:R}(hh:C9D tm s t x i κ=some r):OutP P s (.lookup t x i true) κ r:=by
 unfold C9D at hh;split at hh
 ·rename_i es rx a b ri et ex ei;have et:=A4 et;subst et;refine .mk' _ _ hh (Reads.app.2 ⟨C7 ex,C7 ei⟩) fun n0 w0 Z0 s' ac m oo ho hr hrd=>?_
  obtain ⟨bk,ents,cl,hx,hZ,hb,he⟩:LfC s' m (.mp es) (ac.eval x):=F6 ex hr (Reads.app.1 hrd).1;obtain ⟨cs,hi,hcs⟩:AVC s' m (.agg [.int .i64 a,.int .i64 b]) (ac.eval i):=F6 ei hr (Reads.app.1 hrd).2;have hcs2:cs = [.int .i64 a,.int .i64 b]:=by
   cases cs with
   | nil=>exact hcs.elim
   | cons c0 cs=>cases cs with
    | nil=>exact hcs.2.elim
    | cons c1 cs=>cases cs with
     | cons _ _=>exact hcs.2.2.elim
     | nil=>
      have e0:c0=.int .i64 a:=hcs.1;have e1:c1=.int .i64 b:=hcs.2.1;rw [e0,e1]
  subst hcs2;have hrun:=h.lookup (a,b) m.w hb he;refine ⟨_,by simp only [execOp,ho,hx,hi,D0];rw [show (Value.agg [Value.int .i64 a,Value.int .i64 b].toArray)=B4U (a,b) from rfl,hrun];rfl,?_⟩;exact ⟨[.int .i64 (lkV es (a,b)),.bool (lkO es (a,b))],rfl,⟨_,rfl,rfl⟩,⟨_,rfl,rfl⟩,trivial⟩
 ·cases hh
def D9T(cfg:Cfg)(Γ:List (Nat×Fn))(tm:Nat):A96:=fun s op d κ=>match op,d with
 | .lookup t x i true,some d=>C9D tm s t x i (kp d κ)
 | op,d=>C97 cfg Γ s op d κ
theorem D9U{P:Program}{cfg:Cfg}(hc:N5 P cfg){Γ:List (Nat×Fn)}(hΓ:A5G P Γ){tm tk te:Nat}(h:MapTy P tm tk te):A51 P (D9T cfg Γ tm):=by
 intro R s op d κ r hh;dsimp only [D9T] at hh;split at hh
 ·exact (D3Q h hh).g
 ·exact B98 hc hΓ hh
end Go.Proofs.YthnfghmjipikhaaGreatDoor.Ev
namespace Go.Proofs.YthnfghmjipikhaaGreatDoor.Ev
open IntKind (i64 u8 u64 u32)
theorem Rel.weaken{n:Nat}{w0:World}{Z0:Gh}{s s1:St}{a:Act}{m:Mem}(h:Rel n w0 Z0 s a m)(hs:∀ l lv,s1.get l=some lv->s.get l=some lv):Rel n w0 Z0 s1 a m:=by
 have hE:∀ L,Ext s m s1 m L:=fun L=>⟨Keeps.refl _ _,fun id r' _ hr=>⟨r',hs _ _ hr,rfl,rfl,rfl,C1 _,fun _ _ _ _ hc=>hc,fun _=>Moves.refl _ _ _⟩,fun b c' _ hc=>⟨c',hs _ _ hc,rfl⟩,fun q i _ hi=>hs _ _ hi⟩
 refine ⟨h.sz,h.df,fun d v hg=>(h.tm d v (hs _ _ hg)).ext (hE _),fun id r hg=>h.rw id r (hs _ _ hg),fun b c hg=>?_,h.kp,h.fo,h.nn,fun id r h1 h2 hg=>h.gr id r h1 h2 (hs _ _ hg),fun b c hg=>h.gb b c (hs _ _ hg),h.hs,h.os,h.tp,h.ou⟩;obtain ⟨cs,h1,h2,h3,h4⟩:=h.bx b c (hs _ _ hg);exact ⟨cs,All2.imp (fun l hl b hb=>hb.ext (hE _)) h1,h2,h3,h4⟩
theorem Rel.newAlien{n:Nat}{w0:World}{Z0:Gh}{s:St}{a:Act}{m:Mem}(h:Rel n w0 Z0 s a m)(o:Obj)(ha:Z0.al = []) :
  Rel n w0 {Z0 with al:= [(m.w.heap.size,o)]} s a ⟨m.w.alloc o,fun c=>if c=m.w.heap.size then some [] else m.Z c,m.ρ,m.β⟩:=by
 have hg:∀ b,b<m.w.heap.size->(m.w.alloc o).heap[b]? = m.w.heap[b]?:=fun b hb=>by
  simp only [World.alloc];rw [Array.getElem?_push,A5 (by omega)]
 have hf:Fore w0 (m.w.alloc o) Z0.Z (fun c=>if c=m.w.heap.size then some [] else m.Z c):=fun b hb hlt=>by
  obtain ⟨g1,g2⟩:=h.fo b hb hlt;have hlt2:b<m.w.heap.size:=B2W hlt h.hs;exact ⟨(hg b hlt2).trans g1,(A5 (by omega)).trans g2⟩
 have hdf:=h.df;have h1:=h.alien (w':=m.w.alloc o) (Z':=fun c=>if c=m.w.heap.size then some [] else m.Z c) (ds:=a.defers) (fun b hb hlt=>⟨hg b hlt,A5 (by omega)⟩) hf (show m.w.heap.size<=(m.w.heap.push o).size by simp) rfl rfl rfl (by
  rw [ha] at hdf ⊢;refine ⟨⟨hdf.1.1,fun d hd=>?_⟩,fun p hp=>nomatch hp⟩;obtain ⟨D,e,h1,h2,h3⟩:=hdf.1.2 d hd;have hlt:=(C0.1 h3).1;exact ⟨D,e,h1,(A5 (by omega)).trans h2,(hg D hlt).trans h3⟩)
 refine h1.reAl ⟨?_,fun p hp=>?_⟩
 ·have:=h1.df.1;exact this
 ·rw [B0.1 hp];exact ⟨h.hs,A9 rfl,show (m.w.heap.push o)[m.w.heap.size]? = some o by simp⟩
theorem Rel.turnAl{n:Nat}{w0:World}{Z0:Gh}{s:St}{a:Act}{m:Mem}{b:Nat}{o:Obj}(h:Rel n w0 {Z0 with al:= [(b,o)]} s a m)(o':Obj)(hm:∀ ts,o≠.deferred ts) :
  Rel n w0 {Z0 with al:= [(b,o')]} s a ⟨m.w.putObj b o',m.Z,m.ρ,m.β⟩:=by
 obtain ⟨h1,h2,h3⟩:=h.df.2 (b,o) A6;have hd:DfOk w0 [] a.defers m.w m.Z:=⟨h.df.1,fun p hp=>nomatch hp⟩;have h0:=h.reAl (Z0:={Z0 with al:= [(b,o)]}) hd;have hdf:DfOk w0 [] a.defers (m.w.putObj b o') m.Z:=by
  refine ⟨⟨hd.1.1,fun d hd'=>?_⟩,fun p hp=>nomatch hp⟩;obtain ⟨D,e,g1,g2,g3⟩:=hd.1.2 d hd';refine ⟨D,e,g1,g2,?_⟩;rw [L8 (fun e=>by
   subst e;rw [g3] at h3;injection h3 with h3
   exact hm _ h3.symm)]
  exact g3
 have h4:=Rel.turn (Z0:={Z0 with al:= []}) h0 (o':=o') (ds:=a.defers) h2 h1 hdf;refine Rel.reAl (Z0:={Z0 with al:= []}) h4 ⟨hdf.1,fun p hp=>?_⟩;rw [B0.1 hp];refine ⟨h1,h2,?_⟩;have hlt:=(C0.1 h3).1;simp [World.putObj,hlt]
theorem Rel.doneAl{n:Nat}{w0:World}{Z0:Gh}{s:St}{a:Act}{m:Mem}{b:Nat}{o:Obj}(ha:Z0.al = [])(h:Rel n w0 {Z0 with al:= [(b,o)]} s a m)(hm:∀ ts,o≠.deferred ts) :
  Rel n w0 Z0 s a ⟨m.w,fun c=>if c=b then none else m.Z c,m.ρ,m.β⟩/\m.w.heap[b]? = some o:=by
 obtain ⟨h1,h2,h3⟩:=h.df.2 (b,o) A6;have hd:DfOk w0 Z0.al a.defers m.w m.Z:=⟨h.df.1,fun p hp=>by rw [ha] at hp;exact nomatch hp⟩;have h0:Rel n w0 Z0 s a m:=h.reAl (Z0:={Z0 with al:= [(b,o)]}) hd;refine ⟨?_,h3⟩;refine h0.alien (w':=m.w) (Z':=fun c=>if c=b then none else m.Z c) (ds:=a.defers) (fun c hc hlt=>⟨rfl,A5 fun e=>hc (by rw [e];exact h2)⟩) (fun c hc hlt=>?_) (C1 _) rfl rfl rfl ?_
 ·obtain ⟨g1,g2⟩:=h0.fo c hc hlt;have:b<m.w.heap.size:=(C0.1 h3).1;exact ⟨g1,(A5 (show ¬ c=b by have:w0.heap.size<=b:=h1;omega)).trans g2⟩
 ·rw [ha];refine ⟨⟨hd.1.1,fun d hd'=>?_⟩,fun p hp=>nomatch hp⟩;obtain ⟨D,e,g1,g2,g3⟩:=hd.1.2 d hd';exact ⟨D,e,g1,(A5 fun e=>by
   subst e;rw [g3] at h3;injection h3 with h3
   exact hm _ h3.symm).trans g2,g3⟩
theorem C5V{P:Program}{E:A96}(hE:A51 P E){R:Type}{n:Nat}{ops:Array Oper}{tl:List Nat}:∀ {os:List Oper} {i:Nat} {s:St} {k:St->Option R} {r:R},
  (∀ j o,os[j]? = some o->ops[i+j]? = some o)->A7p E n ops os s k=some r->
  ∃ s',k s' = some r/\s <:+ s'/\∀ w0 Z0 a m,Rel n w0 Z0 s a m->∀ Q:Exit->Act->World->Prop,(∀ a' m',Rel n w0 Z0 s' a' m'->wpOps P ops Q tl a' m'.w)->wpOps P ops Q (List.range' i os.length++tl) a m.w
 | [],i,s,k,r,_,h=>⟨s,h,K1 _,fun w0 Z0 a m hr Q hQ=>hQ a m hr⟩
 | o::os,i,s,k,r,hops,h=>by
  simp only [A7p] at h;split at h
  ·rename_i hok;obtain ⟨s',δ,h1,hsf,h2,_,h3,h4⟩:=C8r hE (n:=n) (hops 0 o rfl) (D32 hok) h;split at h1
   ·rename_i hf;obtain ⟨s'',h5,hsf2,h6⟩:=C5V hE (i:=i+1) (tl:=tl) (fun j o' hj=>by
     have:=hops (j+1) o' (by simpa using hj)
     rwa [show i+(j+1)=i+1+j by omega] at this) h1
    refine ⟨s'',h5,hsf.trans ((A2s _ _).trans hsf2),fun w0 Z0 a m hr Q hQ=>?_⟩;rw [E4,B5E,D4,C11];exact h4 w0 Z0 s' a m (hr.geq h2) h3 (fun l hl=>A93 (C4.1 hf l hl)) Q _ fun a' m' hr'=>h6 w0 Z0 a' m' hr' Q hQ
   ·cases h1
  ·cases h
theorem C08{P:Program}{ops:Array Oper}{i:Nat}{o:Oper}(ho:ops[i]? = some o)(hg:o.guard=none){tl:List Nat}{Q:Exit->Act->World->Prop}{a:Act}{w w':World}{nx:Next}
  (hrun:(execOp a.eval o).run P w=.ok nx w') {v:Value} (hv:nx=.value v\/(nx=.skip/\v=undef)) (h:wpOps P ops Q tl (a.put o.dst v) w'):wpOps P ops Q (i::tl) a w:=by
 rw [C11];have hw:Region.wanted o (yielded ops a.tmps)=true:=by simp only [Region.wanted,hg]
 simp only [wpOp,ho,hw,J4];refine .inl ?_;simp only [Oper.wp,hrun];rcases hv with rfl | ⟨rfl,rfl⟩
 ·exact h
 ·exact h
theorem C8C{P:Program}(hm:P.follows .mixedOrders=true){cfg:Cfg}(hc:N5 P cfg){E:A96}(hE:A51 P E){f:Nat}{fn:Func}{c:Code}(hf:P.funcs[f]? = some fn)(hb:fn.body=some c){An:Nat->Option Jn}
  {ps:List PK} {res:List RK} (hn:ps.length<=fn.ntmps) (hn2:fn.ntmps<=1000) (hp:ps.length<=16) (hsz:∀ p∈ps,B5a p.k=true) {rest:Code} {pos:Nat} {sB:Ts (ins ps)->Option St}
  (hpre:∀ (x:Ts (ins ps)) (s1:St) (w:World) (Z0:Gh) (a:Act) (m:Mem) (Q:Exit->Act->World->Prop),sB x=some s1->Z0.al = []->Rel fn.ntmps w Z0 (C05 0 ps x) a m->(∀ a' m',Rel fn.ntmps w Z0 s1 a' m'->rest.wp P Q a' m'.w)->c.wp P Q a m.w)
  {g:Ts (ins ps)->Option (Ts (outs res ps))}
  (e:∀ x,(B3 (sB x) fun s1=>ev E cfg.ck fn.ntmps An rest pos s1 (Ts (outs res ps)) fun e s=>match e with
   | .exit _=>none
   | _=>B4S cfg fn.results.toList res ps x s)=g x):A2I P f ⟨ps,res,g⟩:=by
 intro x y hy w Z pls args hargs;have hent:=C2V hargs hsz hn hn2;have hy2:g x=some y:=hy;rw [<- e x] at hy2;obtain ⟨s1,h1,h2⟩:=A5E hy2;refine B1i.1 (B1C (F:=Fence.wide) (n:=3) hf hb trivial (C3H.2 ?_));refine hpre x s1 w _ _ (B0N w Z pls ps args) _ h1 rfl hent fun a' m' hr'=>?_
 refine D8n hm hE (fun f g e=>(hc.ck e).2.1) rest pos s1 _ _ y h2 w _ a' m' _ hr' fun e s a0 m0 hk hs hr0=>?_
 have key:∀ (a:Act) (m:Mem),a.tmps=a0.tmps->Rel fn.ntmps w (D6q (B0N w Z pls ps args)) s a m->B4S cfg fn.results.toList res ps x s=some y->∃ v,(results fn a.tmps).run P m.w=.ok v m.w/\∃ Z' vals,Ending.returned v=.returned (pack vals)/\Keeps w m.w Z Z'/\Fore w m.w Z Z'/\Later w m.w/\C17 m.w Z' pls ps args 0 res y vals:=by
  intro a m ht hr0 h;obtain ⟨Zt,ρt,hr⟩:=C06 (res:=res) (rvs:=fn.results.toList) (w:=m.w) (β:=m.β) (Z:=m.Z) (ρ:=m.ρ) hr0;unfold B4S C9A at h;split at h
  ·rename_i vs evs;split at h
   ·rename_i y1 hd2 bo2 bx e2;split at h
    ·rename_i z hd1 bo1 bx1 e1;split at h
     ·rename_i hok;injection h with h;subst h
      simp only [C99,B5] at hok;obtain ⟨vals,hv1,hv2⟩:=C04 hc hr evs;have hcal:CalOk ⟨m.w,Zt,ρt,m.β⟩ (S8 (B2c (hd1++hd2) (bx1++bx)) ((bo1++bo2).map (2*·)) Zt) (hd1++hd2) (bo1++bo2):=by
       refine ⟨fun g hh p=>A3r m.w (A0j hok.1 (F7 _ (D6.2 ⟨g,hh,rfl⟩))) p,fun id hid=>B91 m.w (B7f fun hm=>?_) (D6.2 ⟨id,hid,rfl⟩) []⟩;obtain ⟨g,hh,e⟩:=D6.1 hm;injection e with e
       have:=C4.1 (C4.1 hok.2 id hid) g hh;rw [e,A3L] at this;cases this
      have hkp:=B90 m.w (B2c (hd1++hd2) (bx1++bx)) ((bo1++bo2).map (2*·)) Zt;have hkept:=B4T hsz hr hkp e2 hargs (fun idx p hp=>by rw [E1];exact hp) (fun idx v hv=>by rw [E1];exact hv) (by omega) hcal.right
       (fun z hz=>A3r m.w (A0j hok.1 (D8 _ (D6.2 ⟨z,D8 _ hz,rfl⟩))) [])
      have hout:=C1L hr hkp e1 hcal.left hkept (fun z hz=>A3r m.w (A0j hok.1 (D8 _ (D6.2 ⟨z,F7 _ hz,rfl⟩))) []) hv2;refine ⟨_,hv1,_,vals,rfl,hr.kp.trans hkp hr.hs,hr.fo.trans (fun b hb _=>⟨rfl,by have hb2:Zt b=some []:=hb;simp only [S8,hb2]⟩) hr.hs,⟨hr.hs,hr.os,hr.tp,hr.ou⟩,hout⟩
     ·cases h
    ·cases h
   ·cases h
  ·cases h
 cases e with
 | normal=>exact A4G a0.defers rfl rfl hr0 fun a' m' ht hr=>key a' m' ht hr hk
 | ret=>exact A4G a0.defers rfl rfl hr0 fun a' m' ht hr=>key a' m' ht hr hk
 | exit id=>cases hk
structure Als where
 f:Nat
 F:Fn
 lq:Nat
 esz:Nat
 off:Nat
def C09(P:Program)(A:Als):Prop:=
 ∀ x y,A.F.fn x=some y->∀ (w:World) (Z:Col) (pls:Nat->Plc) (pv body:Value) (cs:List Value) (idx:Int),ArgsC w Z pls 0 A.F.ps x [pv,.agg cs.toArray,.int .i64 idx]->body.oneCell' = true->
  (∀ ad rv,pv=.pointer (some ad)->w.cell? (ad.add A.lq)=some rv->w.cell? ((A3h rv).add (idx.toNat*A.esz+A.off))=some body)->
  Calls P A.f #[pv,.agg (cs ++ [body]).toArray] w fun e w'=>∃ Z' vals,e=.returned (pack vals)/\Keeps w w' Z Z'/\Fore w w' Z Z'/\Later w w'/\C17 w' Z' pls A.F.ps [pv,.agg cs.toArray,.int .i64 idx] 0 A.F.res y vals
theorem All2.last{α β:Type}{R:α->β->Prop}{x:α}:∀ {aas:List α} {bs:List β},All2 R (aas ++ [x]) bs->∃ bs' y,bs=bs' ++ [y]/\All2 R aas bs'/\R x y
 | [],[b],h=>⟨[],b,rfl,trivial,h.1⟩
 | [],b::c::bs,h=>h.2.elim
 | a::aas,b::bs,h=>by
  obtain ⟨bs',y,rfl,h1,h2⟩:=All2.last (aas:=aas) (bs:=bs) h.2;exact ⟨b::bs',y,rfl,⟨h.1,h1⟩,h2⟩
 | _::_,[],h=>h.elim
 | [],[],h=>h.elim
def D3R{R:Type}(cfg:Cfg)(A:Als)(s:St)(d:Option Nat)(x0 x1:Operand)(κ:Ke R):Option R:=
 match B7i s [x0,x1] with
 | some ([.one (.ptr b bo),.agg ls],rx)=>match s.getB b,ls.getLast? with
  | some c,some (.sub id q off ver)=>match s.getR id,s.getX q,c[bo+A.lq]? with
   | some row,some i,some (.own id')=>match Nat.beq id id'&&(Nat.beq off A.off&&(Nat.beq row.ver ver&&Nat.beq row.k.sz A.esz)) with
    | true=>C5J cfg s d A.F [.one (.ptr b bo),.agg ls.dropLast,.one (.int .i64 i)] (rx ++ [(.b b,.b c),(.r id,.r row),(.x q,.x i)]) κ
    | false=>none
   | _,_,_=>none
  | _,_=>none
 | _=>none
theorem D6w{R:Type}{P:Program}{cfg:Cfg}{A:Als}(hA:C09 P A)(hent:Enters P A.f){s:St}{d:Option Nat}{x0 x1:Operand}{κ:Ke R}{r:R}(h:D3R cfg A s d x0 x1 κ=some r)(at':Array TypeId) :
  OutG P s (.call {callee:=.value (.func A.f),args:= [x0,x1].toArray,argTypes:=at'}) d κ r:=by
 unfold D3R at h;split at h
 ·rename_i b bo ls rx hvs;split at h
  ·rename_i c id q off ver hc hlast;split at h
   ·rename_i row i id' hrow hx hown;split at h
    ·rename_i hck;simp only [B5] at hck;obtain ⟨e1,e2,e3,e4⟩:=hck;have e1:=A4 e1;have e2:=A4 e2;have e3:=A4 e3;have e4:=A4 e4;subst e1;have hgb:=St.getB_some.1 hc;have hgr:=St.getR_some.1 hrow;have hgx:=St.getX_some.1 hx;refine C2P hent (Reads.app.2 ⟨B0M hvs,fun p hp=>?_⟩) (fun {n w0 Z0 s' a m} hr hrd=>?_) h at'
     ·simp only [C3,P3,A4f] at hp;rcases hp with rfl | rfl | rfl
      ·exact hgb
      ·exact hgr
      ·exact hgx
     ·obtain ⟨hrd1,hrd2⟩:=Reads.app.1 hrd;have hgb':s'.get (.b b)=some (.b c):=hrd2 (.b b,.b c) (by simp);have hgr':s'.get (.r id)=some (.r row):=hrd2 (.r id,.r row) (by simp);have hgx':s'.get (.x q)=some (.x i):=hrd2 (.x q,.x i) (by simp);obtain ⟨h0,h1,_⟩:=B7j hr hvs hrd1;obtain ⟨cs,hcs,hall⟩:=h1;have hls:ls=ls.dropLast ++ [.sub id q off ver]:=by
       have hne:ls≠ []:=by intro e;subst e;simp at hlast
       have:=List.dropLast_concat_getLast hne;rw [List.getLast?_eq_some_getLast hne] at hlast;injection hlast with hlast
       rw [<- hlast];exact this.symm
      rw [hls] at hall;obtain ⟨cs',body,rfl,ha2,hbody⟩:=hall.last;refine ⟨[a.eval x0,.agg cs'.toArray,.int .i64 i],⟨h0,⟨cs',rfl,ha2⟩,rfl,trivial⟩,fun x y hy Z pls hargs=>?_⟩;have hcalls:=hA x y hy m.w Z pls (a.eval x0) body cs' i hargs hbody.1 (fun ad rv had hcell=>by
       have hv0:=h0.2 c hgb';rw [hv0] at had;injection had with had;injection had with had
       subst had;obtain ⟨csB,g1,g2,g3,g4⟩:=hr.bx b c hgb';obtain ⟨u,hu,hlu⟩:=All2.get g1 hown;have hlt:bo+A.lq<csB.length:=(D3.1 hu).1;have hrv:rv=u:=by
        have hadd:(⟨(m.β b).g,(m.β b).pre.length+bo,none⟩:Addr).add A.lq=⟨(m.β b).g,(m.β b).pre.length+bo+A.lq,none⟩:=A04 _ _ _;rw [hadd,A2h m.w _ _ _ _ _ g4] at hcell;have:((m.β b).pre++csB++(m.β b).post).toArray[(m.β b).pre.length+bo+A.lq]? = some u:=by
         simp only [A1V];rw [B1,E9 (by omega),E8 (by omega),<- hu]
         congr 1
         omega
        rw [this] at hcell;injection hcell with hcell
        exact hcell.symm
       have hρ:=hlu.2 row hgr';obtain ⟨k1,k2⟩:=hbody.2 row i hgr' hgx';obtain ⟨k3,k4,k5,k6⟩:=k2 e3;rw [hrv,hρ,<- e4,<- e2];exact k6)
      have hargs2:(([x0,x1]:List Operand).map a.eval).toArray=#[a.eval x0,.agg (cs' ++ [body]).toArray]:=by
       simp [hcs]
      rw [hargs2];exact hcalls
    ·cases h
   ·cases h
  ·cases h
 ·cases h
def D9V(cfg:Cfg)(Γ:List (Nat×Fn))(A:Als):A96:=fun s op d κ=>match op with
 | .call ⟨.value (.func f),⟨[x0,x1]⟩,at'⟩=>match Nat.beq f A.f with
  | true=>D3R cfg A s d x0 x1 κ
  | false=>C97 cfg Γ s (.call ⟨.value (.func f),⟨[x0,x1]⟩,at'⟩) d κ
 | op=>C97 cfg Γ s op d κ
theorem D9W{P:Program}{cfg:Cfg}(hc:N5 P cfg){Γ:List (Nat×Fn)}(hΓ:A5G P Γ){A:Als}(hA:C09 P A)(hent:Enters P A.f):A51 P (D9V cfg Γ A):=by
 intro R s op d κ r hh;dsimp only [D9V] at hh;split at hh
 ·split at hh
  ·rename_i e;have e:=A4 e;subst e;exact D6w hA hent hh _
  ·exact B98 hc hΓ hh
 ·exact B98 hc hΓ hh
noncomputable def D9a(cfg:Cfg)(Γ:List (Nat×Fn))(A:Als)(An:Nat->Option Jn)(n:Nat)(rvs:List ResultVar)(c:Code)(ps:List PK)(res:List RK):Fn:=
 ⟨ps,res,fun x=>ev (D9V cfg Γ A) cfg.ck n An c 1 (C05 0 ps x) (Ts (outs res ps)) fun e s=>match e with
  | .exit _=>none
  | _=>B4S cfg rvs res ps x s⟩
theorem D70{P:Program}(hm:P.follows .mixedOrders=true){cfg:Cfg}(hc:N5 P cfg){Γ:List (Nat×Fn)}(hΓ:A5G P Γ){A:Als}(hA:C09 P A)(hent:Enters P A.f){f:Nat}{fn:Func}{c:Code}(hf:P.funcs[f]? = some fn)(hb:fn.body=some c){An:Nat->Option Jn}
  {ps:List PK} {res:List RK} (hn:ps.length<=fn.ntmps) (hn2:fn.ntmps<=1000) (hp:ps.length<=16) (hsz:∀ p∈ps,B5a p.k=true) {g:Ts (ins ps)->Option (Ts (outs res ps))}
  (e:∀ x,(D9a cfg Γ A An fn.ntmps fn.results.toList c ps res).fn x=g x):A2I P f ⟨ps,res,g⟩:=
 C8C hm hc (D9W hc hΓ hA hent) hf hb (An:=An) hn hn2 hp hsz (rest:=c) (pos:=1) (sB:=fun x=>some (C05 0 ps x))
  (fun x s1 w Z0 a m Q hs ha hr hn=>by injection hs with hs;subst hs;exact hn a m hr) (fun x=>e x)
theorem C5W{P:Program}(hm:P.follows .mixedOrders=true){cfg:Cfg}(hc:N5 P cfg){E:A96}(hE:A51 P E){f:Nat}{fn:Func}{c:Code}(hf:P.funcs[f]? = some fn)(hb:fn.body=some c){An:Nat->Option Jn}
  {ps:List PK} {res:List RK} (hp:ps.length<=16) (hsz:∀ p∈ps,B5a p.k=true) {x:Ts (ins ps)} {y:Ts (outs res ps)} {w:World} {Z:Col} {pls:Nat->Plc} {args:List Value} (hargs:ArgsC w Z pls 0 ps x args) {ra:Array Value} {s1:St}
  (hst:Rel fn.ntmps w (D6q (B0N w Z pls ps args)) s1 ⟨ra++Array.replicate (fn.ntmps-ra.size) undef,[]⟩ (B0N w Z pls ps args))
  (hev:(ev E cfg.ck fn.ntmps An c 1 s1 (Ts (outs res ps)) fun e s=>match e with
   | .exit _=>none
   | _=>B4S cfg fn.results.toList res ps x s)=some y) :
  Calls P f ra w fun e w'=>∃ Z' vals,e=.returned (pack vals)/\Keeps w w' Z Z'/\Fore w w' Z Z'/\Later w w'/\C17 w' Z' pls ps args 0 res y vals:=by
 refine B1i.1 (B1C (F:=Fence.wide) (n:=3) hf hb trivial (C3H.2 ?_));refine D8n hm hE (fun f g e=>(hc.ck e).2.1) c 1 s1 _ _ y hev w _ _ (B0N w Z pls ps args) _ hst fun e s a0 m0 hk hs hr0=>?_
 have key:∀ (a:Act) (m:Mem),a.tmps=a0.tmps->Rel fn.ntmps w (D6q (B0N w Z pls ps args)) s a m->B4S cfg fn.results.toList res ps x s=some y->∃ v,(results fn a.tmps).run P m.w=.ok v m.w/\∃ Z' vals,Ending.returned v=.returned (pack vals)/\Keeps w m.w Z Z'/\Fore w m.w Z Z'/\Later w m.w/\C17 m.w Z' pls ps args 0 res y vals:=by
  intro a m ht hr0 h;obtain ⟨Zt,ρt,hr⟩:=C06 (res:=res) (rvs:=fn.results.toList) (w:=m.w) (β:=m.β) (Z:=m.Z) (ρ:=m.ρ) hr0;unfold B4S C9A at h;split at h
  ·rename_i vs evs;split at h
   ·rename_i y1 hd2 bo2 bx e2;split at h
    ·rename_i z hd1 bo1 bx1 e1;split at h
     ·rename_i hok;injection h with h;subst h
      simp only [C99,B5] at hok;obtain ⟨vals,hv1,hv2⟩:=C04 hc hr evs;have hcal:CalOk ⟨m.w,Zt,ρt,m.β⟩ (S8 (B2c (hd1++hd2) (bx1++bx)) ((bo1++bo2).map (2*·)) Zt) (hd1++hd2) (bo1++bo2):=by
       refine ⟨fun g hh p=>A3r m.w (A0j hok.1 (F7 _ (D6.2 ⟨g,hh,rfl⟩))) p,fun id hid=>B91 m.w (B7f fun hm=>?_) (D6.2 ⟨id,hid,rfl⟩) []⟩;obtain ⟨g,hh,e⟩:=D6.1 hm;injection e with e
       have:=C4.1 (C4.1 hok.2 id hid) g hh;rw [e,A3L] at this;cases this
      have hkp:=B90 m.w (B2c (hd1++hd2) (bx1++bx)) ((bo1++bo2).map (2*·)) Zt;have hkept:=B4T hsz hr hkp e2 hargs (fun idx p hp=>by rw [E1];exact hp) (fun idx v hv=>by rw [E1];exact hv) (by omega) hcal.right
       (fun z hz=>A3r m.w (A0j hok.1 (D8 _ (D6.2 ⟨z,D8 _ hz,rfl⟩))) [])
      have hout:=C1L hr hkp e1 hcal.left hkept (fun z hz=>A3r m.w (A0j hok.1 (D8 _ (D6.2 ⟨z,F7 _ hz,rfl⟩))) []) hv2;refine ⟨_,hv1,_,vals,rfl,hr.kp.trans hkp hr.hs,hr.fo.trans (fun b hb _=>⟨rfl,by have hb2:Zt b=some []:=hb;simp only [S8,hb2]⟩) hr.hs,⟨hr.hs,hr.os,hr.tp,hr.ou⟩,hout⟩
     ·cases h
    ·cases h
   ·cases h
  ·cases h
 cases e with
 | normal=>exact A4G a0.defers rfl rfl hr0 fun a' m' ht hr=>key a' m' ht hr hk
 | ret=>exact A4G a0.defers rfl rfl hr0 fun a' m' ht hr=>key a' m' ht hr hk
 | exit id=>cases hk
theorem D0j:∀ {a b:St} {l:Loc} {lv:LV},St.get a l=some lv->St.get (a++b) l=some lv
 | (k,v)::a,b,l,lv,h=>by
  by_cases e:k=l
  ·subst e;rw [St.get_cons_same] at h;rw [D4,St.get_cons_same];exact h
  ·rw [St.get_cons_ne e] at h;rw [D4,St.get_cons_ne e];exact D0j h
theorem C1M{a r:Array Value}{i:Nat}{v:Value}(h:a[i]? = some v):(a++r).getD i undef=v:=by
 have hlt:=(C0.1 h).1;rw [L1,B2a hlt,h];rfl
theorem D5R{l:List (Nat×Row)}{rest:St}{d:Nat}:St.get (A4V l++rest) (.t d)=rest.get (.t d):=by
 induction l with
 | nil=>rfl
 | cons q l ih=>
  show St.get ((.r q.1,some (.r q.2))::(A4V l++rest)) (.t d)=_;rw [St.get_cons_ne (by simp)];exact ih
theorem ext_none{s s1:St}{m:Mem}:Ext s m s1 m (fun _=>False):=
 ⟨Keeps.refl _ _,fun _ _ h=>h.elim,fun _ _ h=>h.elim,fun _ _ h=>h.elim⟩
def D9b(k kE:K)(lq off:Nat)(x0:k.T)(x1:kE.T)(i:Int):St:=
 (.t 1,some (.t (.agg (leaves kE x1 Lf.own (pR 1) ++ [.sub (pR 0+lq) 999 off 0]))))::(.x 999,some (.x i))::(.t 0,some (.t (.one (.ptr (pB 0) 0))))::(.b (pB 0),some (.b (leaves k x0 Lf.own (pR 0))))::A4V (V3 (pR 0) k x0)
@[reducible] def A6R(k kE:K):List PK:= [.ptr k,.val true kE false,.val false (.int .i64) false]
theorem D71{P:Program}(hm:P.follows .mixedOrders=true){cfg:Cfg}(hc:N5 P cfg){Γ:List (Nat×Fn)}(hΓ:A5G P Γ){f:Nat}{fn:Func}{c:Code}(hf:P.funcs[f]? = some fn)(hb:fn.body=some c){An:Nat->Option Jn}{k kE kr:K}{lq off er:Nat}{rw:k.T->List kr.T}
  {res:List RK} (hn:3<=fn.ntmps) (hn2:fn.ntmps<=1000) (hk:B5a k=true) (hkE:B5a kE=true) (hlq:lq<k.sz) (hoff:off<kr.sz) (hrow:∀ x0:k.T,St.get (A4V (V3 (pR 0) k x0)) (.r (pR 0+lq))=some (.r ⟨er,kr,rw x0,0⟩))
  (hfr:∀ x0:k.T,fresh ((.t 0,some (.t (.one (.ptr (pB 0) 0))))::(.b (pB 0),some (.b (leaves k x0 Lf.own (pR 0))))::A4V (V3 (pR 0) k x0)) (.x 999)=true) (hmen:∀ x1:kE.T,(leaves kE x1 Lf.own (pR 1)).all (fun l=>l.men.isEmpty)=true) {g:Ts (ins (A6R k kE))->Option (Ts (outs res (A6R k kE)))}
  (e:∀ x,(bif decide (0<=x.2.2.1) then bif decide (x.2.2.1<((rw x.1).length:Int)) then (ev (C97 cfg Γ) cfg.ck fn.ntmps An c 1 (D9b k kE lq off x.1 x.2.1 x.2.2.1) (Ts (outs res (A6R k kE))) fun e s=>match e with
   | .exit _=>none
   | _=>B4S cfg fn.results.toList res (A6R k kE) x s) else none else none)=g x):C09 P ⟨f,⟨A6R k kE,res,g⟩,lq,kr.sz,off⟩:=by
 intro x y hy w Z pls pv body cs idx hargs hbody hcell;have hy2:g x=some y:=hy;rw [<- e x] at hy2;obtain ⟨c1,hy2⟩:=I5 hy2;obtain ⟨c2,hy2⟩:=I5 hy2;have c1:=B8 c1;have c2:=B8 c2;have hsz:∀ p∈A6R k kE,B5a p.k=true:=fun p hp=>by
  simp only [A6R,C3,P3,A4f] at hp;rcases hp with rfl | rfl | rfl
  ·exact hk
  ·exact hkE
  ·rfl
 have hent:=C2V hargs hsz (n:=fn.ntmps) hn hn2;have hargs':=hargs;obtain ⟨cs0,r0,er0,hvar,hlv0,cs1,r1,er1,hlv1,_,cs2,r2,er2,hlv2,_,hr2,_⟩:=hargs';injection er0 with er0 er0'
 subst er0';injection er1 with er1 er1'
 subst er1';injection er2 with er2 _
 have hidx:x.2.2.1=idx:=by
  have hlv2:cs2 = [.int .i64 x.2.2.1]:=hlv2;subst hlv2;have er2:Value.int .i64 idx=.int .i64 x.2.2.1:=er2;injection er2 with _ er2
  exact er2.symm
 refine C5W hm hc (B98 hc hΓ) hf hb (An:=An) (ps:=A6R k kE) (res:=res) (show 3<=16 by decide) hsz hargs (s1:=D9b k kE lq off x.1 x.2.1 x.2.2.1) ?_ hy2;have hl1:leaves kE x.2.1 Lf.own (pR 1)=leaves kE x.2.1 Lf.own (pR 1):=rfl;generalize hm0:B0N w Z pls (A6R k kE) [pv,.agg cs.toArray,.int .i64 idx]=m0 at *
 have hsubY:∀ l lv,St.get ((.t 0,some (.t (.one (.ptr (pB 0) 0))))::(.b (pB 0),some (.b (leaves k x.1 Lf.own (pR 0))))::A4V (V3 (pR 0) k x.1)) l=some lv->(C05 0 (A6R k kE) x).get l=some lv:=by
  intro l lv hg;show St.get ((.t 0,_)::(.b (pB 0),_)::(A4V (V3 (pR 0) k x.1)++_)) l=some lv;exact D0j (a:=(.t 0,some (.t (.one (.ptr (pB 0) 0))))::(.b (pB 0),some (.b (leaves k x.1 Lf.own (pR 0))))::A4V (V3 (pR 0) k x.1)) hg
 have h1:=(hent.weaken hsubY).xw [(999,x.2.2.1)] (fun q hq=>by
  rw [B0.1 hq];exact A93 (hfr x.1))
 have ht1:AVC (C05 0 (A6R k kE) x) m0 (.agg (leaves kE x.2.1 Lf.own (pR 1))) (.agg cs.toArray):=by
  have:=hent.tm 1 (.agg (leaves kE x.2.1 Lf.own (pR 1))) (by
   show St.get ((.t 0,_)::(.b (pB 0),_)::(A4V (V3 (pR 0) k x.1)++((.t 1,_)::_))) (.t 1)=_;rw [St.get_cons_ne (by simp),St.get_cons_ne (by simp),D5R,St.get_cons_same];rfl)
  have hv:(#[pv,Value.agg cs.toArray,Value.int i64 idx]++Array.replicate (fn.ntmps-(#[pv,Value.agg cs.toArray,Value.int i64 idx]:Array Value).size) undef).getD 1 undef=Value.agg cs.toArray:=C1M rfl;rw [<- hv];exact this
 obtain ⟨cs',hcs',hall⟩:=ht1;have hcc:cs' = cs:=by
  injection hcs' with hcs'
  exact (List.toArray_inj hcs').symm
 subst hcc;have h2:=h1.act (a':=⟨#[pv,.agg (cs' ++ [body]).toArray]++Array.replicate (fn.ntmps-(#[pv,Value.agg (cs' ++ [body]).toArray]:Array Value).size) undef,[]⟩) (by simp;omega) (DfOk.nil _ _ _) (fun d v hg=>by
  have hd:d=0:=by
   have hg:St.get ((.x 999,_)::(.t 0,_)::(.b (pB 0),_)::A4V (V3 (pR 0) k x.1)) (.t d)=some (.t v):=hg;rw [St.get_cons_ne (by simp)] at hg;by_cases e0:d=0
   ·exact e0
   ·rw [St.get_cons_ne (by simpa using fun e=>e0 e.symm),St.get_cons_ne (by simp)] at hg;have:=D5R (l:=V3 (pR 0) k x.1) (rest:= []) (d:=d);rw [E7] at this;rw [this] at hg;cases hg
  subst hd;exact (C1M (v:=pv) rfl).trans (C1M (v:=pv) rfl).symm)
 have hall2:=All2.imp (R':=LfC ((.x 999,some (.x x.2.2.1))::(.t 0,some (.t (.one (.ptr (pB 0) 0))))::(.b (pB 0),some (.b (leaves k x.1 Lf.own (pR 0))))::A4V (V3 (pR 0) k x.1)) m0) (fun l hl b hb=>hb.ext (by
  have he:=C4.1 (hmen x.2.1) l hl;have he:l.men = []:=B5G.1 he;exact ext_none.sub fun q hq=>by rw [he] at hq;cases hq)) hall
 refine h2.retell (d:=1) (v:=.agg (leaves kE x.2.1 Lf.own (pR 1) ++ [.sub (pR 0+lq) 999 off 0])) ⟨cs' ++ [body],C1M rfl,All2.app hall2 ⟨?_,trivial⟩⟩
 ·refine ⟨hbody,fun r i hr hi=>?_⟩;have hr':St.get (A4V (V3 (pR 0) k x.1)) (.r (pR 0+lq))=some (.r r):=by
   have hr:St.get ((.x 999,_)::(.t 0,_)::(.b (pB 0),_)::A4V (V3 (pR 0) k x.1)) (.r (pR 0+lq))=some (.r r):=hr;rw [St.get_cons_ne (by simp),St.get_cons_ne (by simp),St.get_cons_ne (by simp)] at hr;exact hr
  rw [hrow x.1] at hr';injection hr' with hr';injection hr' with hr'
  subst hr';have hi':x.2.2.1=i:=by
   have hi:St.get ((.x 999,some (.x x.2.2.1))::_) (.x 999)=some (.x i):=hi;rw [St.get_cons_same] at hi;injection hi with hi;injection hi with hi
  subst hi';refine ⟨C1 _,fun _=>⟨c1,(Int.toNat_lt c1).2 c2,hoff,?_⟩⟩;have hk100:k.sz<=100:=D7 hk;have hlen:=hlv0.len;have hcell0:cs0[lq]? = some (cs0[lq]'(by omega)):=C5 (by omega);have hcl:A3i w (pls 0).g=(pls 0).pre++cs0++(pls 0).post:=by
   simp only [A3i,hvar.1]
  have hρ:m0.ρ (pR 0+lq)=cs0[lq]'(by omega):=by
   rw [<- hm0];show (B7n w pls (A6R k kE) _ ((pR 0+lq-1000) / 100)).getD ((pR 0+lq-1000) % 100) undef=_;have e1:(pR 0+lq-1000) / 100=0:=by simp only [pR];omega
   have e2:(pR 0+lq-1000) % 100=lq:=by simp only [pR];omega
   rw [e1,e2];show ((A3i w (pls 0).g).drop (pls 0).pre.length).getD lq undef=_;rw [hcl,B1,A0U,D5,E8 (by omega),hcell0];rfl
  have hw0:m0.w=w:=by rw [<- hm0];rfl
  have hadd:(⟨(pls 0).g,(pls 0).pre.length,none⟩:Addr).add lq=⟨(pls 0).g,(pls 0).pre.length+lq,none⟩:=A04 _ _ _;have hcc2:w.cell? ((⟨(pls 0).g,(pls 0).pre.length,none⟩:Addr).add lq)=some (cs0[lq]'(by omega)):=by
   rw [hadd,A2h w _ _ _ _ _ hvar.1];simp only [A1V];rw [B1,E9 (by omega),E8 (by omega),<- hcell0]
   congr 1
   omega
  have:=hcell _ _ er0 hcc2;rw [hw0,hρ,hidx];exact this
noncomputable def E2V(cfg:Cfg)(Γ:List (Nat×Fn))(An:Nat->Option Jn)(n:Nat)(rvs:List ResultVar)(c:Code)(k kE:K){kr:K}(lq off:Nat)(rw:k.T->List kr.T)(res:List RK)(x:Ts (ins (A6R k kE))):Option (Ts (outs res (A6R k kE))):=
 bif decide (0<=x.2.2.1) then bif decide (x.2.2.1<((rw x.1).length:Int)) then (ev (C97 cfg Γ) cfg.ck n An c 1 (D9b k kE lq off x.1 x.2.1 x.2.2.1) (Ts (outs res (A6R k kE))) fun e s=>match e with
   | .exit _=>none
   | _=>B4S cfg rvs res (A6R k kE) x s) else none else none
theorem E3u{P:Program}(hm:P.follows .mixedOrders=true){cfg:Cfg}(hc:N5 P cfg){Γ:List (Nat×Fn)}(hΓ:A5G P Γ){f:Nat}{fn:Func}{c:Code}(hf:P.funcs[f]? = some fn)(hb:fn.body=some c){An:Nat->Option Jn}{k kE kr:K}{lq off er:Nat}{rw:k.T->List kr.T}
  {res:List RK} (h:okN (A6R k kE) fn.ntmps=true) (hq:(Nat.blt lq k.sz&&Nat.blt off kr.sz)=true) (hrow:∀ x0:k.T,St.get (A4V (V3 (pR 0) k x0)) (.r (pR 0+lq))=some (.r ⟨er,kr,rw x0,0⟩))
  (hfr:∀ x0:k.T,fresh ((.t 0,some (.t (.one (.ptr (pB 0) 0))))::(.b (pB 0),some (.b (leaves k x0 Lf.own (pR 0))))::A4V (V3 (pR 0) k x0)) (.x 999)=true)
  (hmen:∀ x1:kE.T,(leaves kE x1 Lf.own (pR 1)).all (fun l=>l.men.isEmpty)=true) {g:Ts (ins (A6R k kE))->Option (Ts (outs res (A6R k kE)))}
  (e:∀ x,E2V cfg Γ An fn.ntmps fn.results.toList c k kE lq off rw res x=g x):C09 P ⟨f,⟨A6R k kE,res,g⟩,lq,kr.sz,off⟩:=by
 simp only [okN,B5] at h hq;exact D71 hm hc hΓ hf hb (D7 h.1.1.1) (D7 h.1.1.2) (C4.1 h.2 (.ptr k) (by simp [A6R])) (C4.1 h.2 (.val true kE false) (by simp [A6R])) (P9.mp hq.1) (P9.mp hq.2) hrow hfr hmen e
theorem smA{P:Program}(hm:P.follows .mixedOrders=true){cfg:Cfg}(hc:N5 P cfg){Γ:List (Nat×Fn)}(hΓ:A5G P Γ){A:Als}(hA:C09 P A)(hent:Enters P A.f){f:Nat}{fn:Func}{c:Code}(hf:P.funcs[f]? = some fn)(hb:fn.body=some c){An:Nat->Option Jn}
  {ps:List PK} {res:List RK} (h:okN ps fn.ntmps=true) {g:Ts (ins ps)->Option (Ts (outs res ps))} (e:∀ x,(D9a cfg Γ A An fn.ntmps fn.results.toList c ps res).fn x=g x):A2I P f ⟨ps,res,g⟩:=by
 simp only [okN,B5] at h;exact D70 hm hc hΓ hA hent hf hb (D7 h.1.1.1) (D7 h.1.1.2) (D7 h.1.2) (fun p hp=>C4.1 h.2 p hp) e
noncomputable def mkF(cfg:Cfg)(Γ:List (Nat×Fn))(An:List (Nat×Jn))(fn:Func)(p:Nat×Fn):Fn:=D6r cfg Γ (B17 An) fn.ntmps fn.results.toList (fn.body.getD .skip) p.2.ps p.2.res
abbrev EF(cfg:Cfg)(Γ:List (Nat×Fn))(An:List (Nat×Jn))(fn:Func)(p:Nat×Fn):Prop:=∀ x,(mkF cfg Γ An fn p).fn x=p.2.fn x
abbrev SP(P:Program)(p:Nat×Fn):Prop:=A2I P p.1 p.2
theorem sF{P:Program}(hm:P.follows .mixedOrders=true){cfg:Cfg}(hc:N5 P cfg){Γ:List (Nat×Fn)}(hΓ:A5G P Γ){fn:Func}{p:Nat×Fn}(hf:P.funcs[p.1]? = some fn){An:List (Nat×Jn)}(e:EF cfg Γ An fn p)
  (h:(okN p.2.ps fn.ntmps&&fn.body.isSome)=true:=by kernel_rfl):SP P p:=by
 obtain ⟨f,ps,res,g⟩:=p;simp only [B5] at h;have hb:fn.body=some (fn.body.getD .skip):=by
  cases e:fn.body with
  | none=>rw [e] at h;exact absurd h.2 (by simp)
  | some c=>rfl
 exact sm hm hc hΓ hf hb h.1 e
theorem tI{P:Program}{t:Nat}(f:TypeInfo){κ:IntKind}{b:Nat}(h5:P.underlying t=some (.int κ))(h1:P.info? t=some f:=by kernel_rfl)(h2:f.size=1:=by kernel_rfl)(h3:f.bytes=b:=by kernel_rfl)(h4:f.zero=some (.int κ 0):=by kernel_rfl):A0u P t ⟨false,.int κ,b,[]⟩:=D9N h1 h2 h3 h4 h5
theorem tB{P:Program}{t:Nat}(f:TypeInfo){b:Nat}(h5:P.underlying t=some .bool)(h1:P.info? t=some f:=by kernel_rfl)(h2:f.size=1:=by kernel_rfl)(h3:f.bytes=b:=by kernel_rfl)(h4:f.zero=some (.bool false):=by kernel_rfl):A0u P t ⟨false,.bool,b,[]⟩:=D6s h1 h2 h3 h4 h5
theorem tS{P:Program}{t:Nat}(f:TypeInfo){b:Nat}(h5:P.underlying t=some .string)(h1:P.info? t=some f:=by kernel_rfl)(h2:f.size=1:=by kernel_rfl)(h3:f.bytes=b:=by kernel_rfl)(h4:f.zero=some (.string ⟨#[]⟩):=by kernel_rfl):A0u P t ⟨false,.str,b,[]⟩:=D9O h1 h2 h3 h4 h5
theorem tL{P:Program}{t e:Nat}{k:K}(f:TypeInfo){b:Nat}(h5:P.underlying t=some (.slice e))(h1:P.info? t=some f:=by kernel_rfl)(h2:f.size=1:=by kernel_rfl)(h3:f.bytes=b:=by kernel_rfl)(h4:f.zero=some (.slice none 0 0):=by kernel_rfl):A0u P t ⟨false,.sl e k,b,[]⟩:=E1h h1 h2 h3 h4 h5
theorem tR{P:Program}{t e:Nat}{k:K}(f:TypeInfo){b:Nat}(h5:P.underlying t=some (.slice e))(h1:P.info? t=some f:=by kernel_rfl)(h2:f.size=1:=by kernel_rfl)(h3:f.bytes=b:=by kernel_rfl)(h4:f.zero=some (.slice none 0 0):=by kernel_rfl):A0u P t ⟨false,.rs e k,b,[]⟩:=E1j h1 h2 h3 h4 h5
theorem tF{P:Program}{fd:Field}{f:Nat×Nat×Bool}{d:TypeDesc}(i:TypeInfo)(h4:P.underlying fd.type=some d)(h1:fd.offset=f.1:=by kernel_rfl)(h2:P.info? fd.type=some i:=by kernel_rfl)(h3:i.size=f.2.1:=by kernel_rfl)(h5:Nat.blt 0 f.2.1=true:=by kernel_rfl)(h6:B9s d=f.2.2:=by kernel_rfl):C4n P fd f:=
 ⟨h1,⟨i,h2,h3⟩,B8 (by simpa using h5),⟨d,h4,h6⟩⟩
theorem tT{P:Program}{t:Nat}(f:TypeInfo){fs:Array Field}{k:K}{b:Nat}{fl:List (Nat×Nat×Bool)}(h5:P.underlying t=some (.struct fs))(h7:C9B P fs.toList fl)(h1:P.info? t=some f:=by kernel_rfl)(h2:f.size=k.sz:=by kernel_rfl)(h3:f.bytes=b:=by kernel_rfl)
  (h4:f.zero=some (.agg (zc k).toArray):=by kernel_rfl) (hk:k.prim=false:=by kernel_rfl):A0u P t ⟨true,k,b,fl⟩:=E1i h1 h2 h3 h4 h5 h7 hk
theorem tA{P:Program}{ty:Nat->Option TyI}{t n e:Nat}(f:TypeInfo)(ti:TyI)(h1:P.underlying t=some (.array n e))(h3:ty e=some ti:=by kernel_rfl)(h2:P.info? t=some f:=by kernel_rfl)(h4:f.zero=some (.agg (List.replicate n (zc ti.k)).flatten.toArray):=by kernel_rfl):D84 P ty t n e:=C9C h1 h2 h3 h4
end Go.Proofs.YthnfghmjipikhaaGreatDoor.Ev
