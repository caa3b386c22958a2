/- Calls, entry and exit, the contract of a function, arguments read as data, the close of a law. -/
import Derived.Test.YthnfghmjipikhaaGreatDoorEvB
import Derived.Laws.Small
import Derived.Laws.Tables
import Derived.Great.FillDense
import Derived.Laws.IdiomStrings
import Derived.Lib.AppendStr
import Derived.Lib.ConvBytes
import Derived.RangeFuncLeaves
import Derived.WalkKit
import Derived.ProofKit
import Derived.OpenShut
import Derived.ShutString
import Derived.ChangeOld
import Derived.Below
import Derived.SizedLaws
import Derived.Carry
import Derived.JoinedOf
import Derived.DataElems
import Derived.HandedShaped
import Derived.LaidLaws
import Derived.Handed
import Derived.Stop.Joined
set_option linter.unusedVariables false
set_option linter.unusedSimpArgs false
namespace Go.Proofs.YthnfghmjipikhaaGreatDoor.Ev
@[reducible] def nr(L j:Nat):Nat:=4096*L+128*j
@[reducible] def np(L i:Nat):Nat:=4096*L+2048+128*i
def B2b(rows:List (Nat×Row)):St:=rows.map fun p=>(.r p.1,some (.r p.2))
def A6g(L:Nat):Nat->(res:List RK)->{ps:List PK}->Ts (outs res ps)->List (Bool×List Lf)
 | _,[],_,_=> []
 | j,.val g k::res,_,y=>(g,leaves k y.1 Lf.own (nr L j))::A6g L (j+1) res y.2
 | j,.new k::res,_,y=>(false,[.ptr (nr L j) 0])::A6g L (j+1) res y.2
def A39(L:Nat):Nat->(res:List RK)->{ps:List PK}->Ts (outs res ps)->St
 | _,[],_,_=> []
 | j,.val g k::res,_,y=>B2b (U9 (nr L j) k y.1)++A39 L (j+1) res y.2
 | j,.new k::res,_,y=>(.b (nr L j),some (.b (leaves k y.1 Lf.own (nr L j))))::(B2b (U9 (nr L j) k y.1)++A39 L (j+1) res y.2)
def B6G:(res:List RK)->{ps:List PK}->Ts (outs res ps)->Ts (kk ps)
 | [],_,y=>y
 | .val _ _::res,_,y=>B6G res y.2
 | .new _::res,_,y=>B6G res y.2
def C4K:List Hd->Nat->Option Hd
 | [],_=>none
 | h::hd,r=>match Nat.beq h.r r with
  | true=>some h
  | false=>C4K hd r
def B2c:List Bx->Nat->Option Bx
 | [],_=>none
 | x::bx,i=>match Nat.beq x.i i with
  | true=>some x
  | false=>B2c bx i
theorem C15:∀ {hd:List Hd} {r:Nat} {h:Hd},C4K hd r=some h->h∈hd/\h.r=r
 | h0::hd,r,h,e=>by
  simp only [C4K] at e;split at e
  ·rename_i hb;injection e with e;subst e;exact ⟨A5,A0 hb⟩
  ·obtain ⟨h1,h2⟩:=C15 e;exact ⟨B5 _ h1,h2⟩
theorem C16:∀ {bx:List Bx} {i:Nat} {x:Bx},B2c bx i=some x->x∈bx/\x.i=i
 | x0::bx,i,x,e=>by
  simp only [B2c] at e;split at e
  ·rename_i hb;injection e with e;subst e;exact ⟨A5,A0 hb⟩
  ·obtain ⟨h1,h2⟩:=C16 e;exact ⟨B5 _ h1,h2⟩
def A5N(hd:List Hd):List (Nat×Row)->St
 | []=> []
 | p::rows=>match C4K hd p.1 with
  | some h=>(.r h.id,some (.r ⟨p.2.e,p.2.k,p.2.xs,h.row.ver+1⟩))::A5N hd rows
  | none=>A5N hd rows
def A9a(s:St)(L:Nat)(hd:List Hd)(bx:List Bx):Nat->(ps:List PK)->Ts (kk ps)->Option (St×List Loc)
 | _,[],_=>some ([],[])
 | i,.val _ k true::ps,y=>match A9a s L hd bx (i+1) ps y.2 with
  | some (W,N)=>some (A5N hd (U9 (pR i) k y.1)++W,N)
  | none=>none
 | i,.val _ _ false::ps,y=>A9a s L hd bx (i+1) ps y
 | i,.ptr k::ps,y=>match B2c bx i with
  | some x=>match s.getB x.b,A9a s L hd bx (i+1) ps y.2 with
   | some c,some (W,N)=>some ((.b x.b,some (.b (c.take x.off++leaves k y.1 Lf.own (np L i)++c.drop (x.off+k.sz))))::(B2b (U9 (np L i) k y.1)++W),
     (U9 (np L i) k y.1).map (fun p=>Loc.r p.1)++N)
   | _,_=>none
  | none=>none
def B2v(a b:Nat):Nat->List (Nat×Nat)
 | 0=> []
 | n+1=>(2*(a+n),2*(b+n))::B2v a b n
theorem B71{x y:Nat}:∀ {n j:Nat},j<n->(2*(x+j),2*(y+j))∈B2v x y n
 | n+1,j,h=>by
  by_cases e:j=n
  ·subst e;exact A5
  ·exact B5 _ (B71 (by omega))
def C4L(L:Nat):Nat->List RK->List (Nat×Nat)
 | _,[]=> []
 | j,.val _ k::res=>B2v (rR j) (nr L j) k.sz++C4L L (j+1) res
 | j,.new k::res=>(2*rB j+1,2*nr L j+1)::(B2v (rR j) (nr L j) k.sz++C4L L (j+1) res)
def C7A(L:Nat)(bx:List Bx):Nat->List PK->List (Nat×Nat)
 | _,[]=> []
 | i,.val _ _ _::ps=>C7A L bx (i+1) ps
 | i,.ptr k::ps=>match B2c bx i with
  | some x=>(2*pB i+1,2*x.b+1)::(B2v (pR i) (np L i) k.sz++C7A L bx (i+1) ps)
  | none=> []
def C5J:List Hd->List (Nat×Nat)
 | []=> []
 | h::hd=>match h.kp with
  | true=>(2*h.r,2*h.id)::C5J hd
  | false=>C5J hd
theorem B72:∀ {hd:List Hd} {h:Hd},h∈hd->h.kp=true->(2*h.r,2*h.id)∈C5J hd
 | h0::hd,h,hm,hk=>by
  simp only [C5J];rcases B4.1 hm with e | hm
  ·subst e;rw [hk];exact A5
  ·split
   ·exact B5 _ (B72 hm hk)
   ·exact B72 hm hk
theorem T4:∀ {t:List (Nat×Nat)} {a b:Nat},nodupB (t.map (·.1))=true->(a,b)∈t->A6c t a=some b
 | (a0,b0)::t,a,b,hn,hm=>by
  obtain ⟨h1,h2⟩:=A7J hn;simp only [A6c];rcases B4.1 hm with e | hm
  ·injection e with e1 e2;subst e1;subst e2;rw [G0 rfl]
  ·rw [D6,T4 h2 hm];intro e;subst e;exact h1 (D0.2 ⟨(_,b),hm,rfl⟩)
theorem B2w{t:List (Nat×Nat)}{r:Nat}(h:∀ p∈t,p.1≠r):A6c t r=none:=by
 induction t with
 | nil=>rfl
 | cons p t ih=>
  obtain ⟨a,b⟩:=p;simp only [A6c];rw [D6 (h _ A5)];exact ih fun q hq=>h q (B5 _ hq)
def A8u(hd:List Hd)(bx:List Bx):List (Nat×Nat):=hd.map (fun h=>(2*h.id,2*h.r))++bx.map (fun x=>(2*x.b+1,2*pB x.i+1))
theorem A4B{W s:St}{l:Loc}{lv:LV}(h:St.get (W++s) l=some lv):(l,some lv)∈W\/(inW W l=false/\s.get l=some lv):=by
 induction W with
 | nil=>exact .inr ⟨rfl,h⟩
 | cons p W ih=>
  obtain ⟨l',v⟩:=p;by_cases e:l' = l
  ·subst e;rw [C7,St.get_cons_same] at h;subst h;exact .inl A5
  ·rw [C7,St.get_cons_ne e] at h;rcases ih h with h | ⟨h1,h2⟩
   ·exact .inl (B5 _ h)
   ·refine .inr ⟨?_,h2⟩;simp only [inW,A0t,A5f];exact ⟨Loc.eqb_false.2 e,h1⟩
def C7B(s:St)(m m1:Mem)(news:List Loc):Loc->LV->Prop
 | .r id,.r row=>Loc.r id∈news\/∃ row0,s.get (.r id)=some (.r row0)/\m1.ρ id=m.ρ id/\row.k.sz=row0.k.sz/\row.xs.length=row0.xs.length/\row0.ver<row.ver
 | .b b,.b c=>Loc.b b∈news\/∃ c0,s.get (.b b)=some (.b c0)/\m1.β b=m.β b
 | _,_=>False
theorem C4M{s:St}{n:Nat}{w0:World}{Z0:Gh}{a:Act}{m:Mem}(hr:Rel n w0 Z0 s a m){w':World}{Z':Col}{hd:List Hd}{bx:List Bx}{br:List Nat}{bk:List (Nat×Nat)}
  (hk:Keeps m.w w' (M5 (A8u hd bx) br m.Z) Z') (hf:Fore m.w w' (M5 (A8u hd bx) br m.Z) Z') {m1:Mem} (hw1:m1.w=w') (hZ1:m1.Z=A6d m.w.heap.size m.Z (M5 (A8u hd bx) br m.Z) Z' bk)
  {W:St} {news:List Loc} (hnew:∀ l∈news,¬ Live s l) (hρ:∀ id,Loc.r id ∉ news->m1.ρ id=m.ρ id) (hβ:∀ b,Loc.b b ∉ news->m1.β b=m.β b) (hW:∀ l lv,(l,some lv)∈W->C7B s m m1 news l lv) :
  Ext s m (W++(A37 (hd.map fun h=>Loc.r h.id)++s)) m1 (Live s):=by
 refine ⟨?_,fun id r' hL hg=>?_,fun b c' hL hg=>?_,fun q i hL hg=>?_⟩
 ·rw [hw1,hZ1];exact B6j hk
 ·rcases A4B hg with h | ⟨h1,h2⟩
  ·rcases hW _ _ h with h | ⟨row0,h3,h4,h5,h6,h7⟩
   ·exact absurd hL (hnew _ h)
   ·exact ⟨row0,h3,h4,h5,h6,A3t h7,fun e=>by omega,fun e=>by omega⟩
  ·obtain ⟨h3,h4⟩:=A38 h2;have hni:Loc.r id ∉ news:=fun h=>hnew _ h hL
   have hroot:A6c (A8u hd bx) (2*id)=none:=by
    refine B2w fun p hp e=>?_
    rcases C9.1 hp with hp | hp
    ·obtain ⟨h,hh,rfl⟩:=D0.1 hp;exact h3 (D0.2 ⟨h,hh,by simp only at e;rw [show h.id=id by omega]⟩)
    ·obtain ⟨x,hx,rfl⟩:=D0.1 hp;simp only at e;omega
   refine ⟨r',h4,hρ id hni,rfl,rfl,C6 _,fun _ hn j v hc=>?_,fun _=>by rw [hw1,hZ1];exact B25 hk hf hroot []⟩;have hrow:=hr.rw id r' h4;have hblk:=(A6T hrow hn).1;have hb:=(B25 (bk:=bk) hk hf hroot [] (A0R (m.ρ id)).block [] hblk (A6T hrow hn).2).1;exact (I6 (by rw [add_block,hw1];exact hb)).trans hc
 ·rcases A4B hg with h | ⟨h1,h2⟩
  ·rcases hW _ _ h with h | ⟨c0,h3,h4⟩
   ·exact absurd hL (hnew _ h)
   ·exact ⟨c0,h3,h4⟩
  ·obtain ⟨h3,h4⟩:=A38 h2;exact ⟨c',h4,hβ b fun h=>hnew _ h hL⟩
 ·rcases A4B hg with h | ⟨h1,h2⟩
  ·exact (hW _ _ h).elim
  ·exact (A38 h2).2
def C7C(s1:St)(m1:Mem):Loc->LV->Prop
 | .r id,.r row=>OwL (Ow row.k m1.w m1.Z) row.e row.k.sz m1.w m1.Z [2*id] row.xs (m1.ρ id)
 | .b b,.b c=>BxC s1 m1 (m1.β b) b c
 | _,_=>True
theorem B3f{hd:List Hd}{bx:List Bx}{id:Nat}(h:Loc.r id ∉ hd.map fun h=>Loc.r h.id):A6c (A8u hd bx) (2*id)=none:=by
 refine B2w fun p hp e=>?_
 rcases C9.1 hp with hp | hp
 ·obtain ⟨g,hh,rfl⟩:=D0.1 hp;exact h (D0.2 ⟨g,hh,by simp only at e;rw [show g.id=id by omega]⟩)
 ·obtain ⟨x,hx,rfl⟩:=D0.1 hp;simp only at e;omega
theorem C7D{hd:List Hd}{bx:List Bx}{b:Nat}(h:∀ x∈bx,x.b≠b):A6c (A8u hd bx) (2*b+1)=none:=by
 refine B2w fun p hp e=>?_
 rcases C9.1 hp with hp | hp
 ·obtain ⟨g,hh,rfl⟩:=D0.1 hp;simp only at e;omega
 ·obtain ⟨x,hx,rfl⟩:=D0.1 hp;simp only at e;exact h x hx (by omega)
theorem C95{s:St}{n:Nat}{w0:World}{Z0:Gh}{a:Act}{m:Mem}(hr:Rel n w0 Z0 s a m){w':World}{Z':Col}{hd:List Hd}{bx:List Bx}{br:List Nat}{bk:List (Nat×Nat)}
  (hk:Keeps m.w w' (M5 (A8u hd bx) br m.Z) Z') (hf:Fore m.w w' (M5 (A8u hd bx) br m.Z) Z') (hl:Later m.w w') {m1:Mem} (hw1:m1.w=w') (hZ1:m1.Z=A6d m.w.heap.size m.Z (M5 (A8u hd bx) br m.Z) Z' bk)
  {W:St} {news:List Loc} (hnew:∀ l∈news,¬ Live s l) (hρ:∀ id,Loc.r id ∉ news->m1.ρ id=m.ρ id) (hβ:∀ b,Loc.b b ∉ news->m1.β b=m.β b) (hβN:∀ b,Loc.b b∈news->(m1.β b).pre = []/\(m1.β b).post = []) (hW:∀ l lv,(l,some lv)∈W->C7B s m m1 news l lv) (hsome:∀ p∈W,p.2.isSome=true)
  (hn4:∀ id,Loc.r id∈news->4096<=id) (hn5:∀ b,Loc.b b∈news->4096<=b) (hnewW:∀ l∈news,inW W l=true) (hbxW:∀ x∈bx,inW W (.b x.b)=true)
  (hS:∀ l lv,(l,some lv)∈W->C7C (W++(A37 (hd.map fun h=>Loc.r h.id)++s)) m1 l lv):Rel n w0 Z0 (W++(A37 (hd.map fun h=>Loc.r h.id)++s)) a m1:=by
 have hX:=C4M (W:=W) hr hk hf hw1 hZ1 hnew hρ hβ hW;have hT:∀ d,St.get (W++(A37 (hd.map fun h=>Loc.r h.id)++s)) (.t d)=s.get (.t d):=by
  intro d;have h1:inW W (.t d)=false:=by
   cases e:inW W (.t d) with
   | false=>rfl
   | true=>
    obtain ⟨p,hp,e1⟩:=A9S e;obtain ⟨l,v⟩:=p;have h2:=hsome _ hp;cases v with
    | none=>cases h2
    | some lv=>simp only at e1;subst e1;exact (hW _ _ hp).elim
  rw [A0T h1];have:inW (A37 (hd.map fun h=>Loc.r h.id)) (.t d)=false:=by
   cases e:inW (A37 (hd.map fun h=>Loc.r h.id)) (.t d) with
   | false=>rfl
   | true=>
    obtain ⟨p,hp,e1⟩:=A9S e;simp only [A37,D0] at hp;obtain ⟨l,⟨h,_,rfl⟩,rfl⟩:=hp;cases e1
  exact A0T this
 refine hr.change hT hX (fun id r hg=>?_) (fun b c hg=>?_) ?_ (by rw [hw1];exact hl.size) (by rw [hw1];exact hl.os) (by rw [hw1];exact hl.tape) (by rw [hw1];exact hl.output) (fun id r g1 g2 hg=>by
  rcases A4B hg with h | ⟨h1,h2⟩
  ·rcases hW _ _ h with h | ⟨row0,h3,h4,_⟩
   ·have:=hn4 id h;omega
   ·exact ⟨⟨row0,h3⟩,h4⟩
  ·exact ⟨⟨r,(A38 h2).2⟩,hρ id fun h=>by have:=hn4 id h;omega⟩) (fun b c hg=>by
  by_cases hbn:Loc.b b∈news
  ·exact .inr ⟨by have:=hn5 b hbn;omega,hβN b hbn⟩
  ·rcases A4B hg with h | ⟨h1,h2⟩
   ·rcases hW _ _ h with h | ⟨c0,h3,h4⟩
    ·exact absurd h hbn
    ·exact .inl ⟨⟨c0,h3⟩,h4⟩
   ·exact .inl ⟨⟨c,(A38 h2).2⟩,hβ b hbn⟩)
 ·rcases A4B hg with h | ⟨h1,h2⟩
  ·exact hS _ _ h
  ·obtain ⟨h3,h4⟩:=A38 h2;have hni:Loc.r id ∉ news:=fun h=>by rw [hnewW _ h] at h1;cases h1
   rw [hρ id hni,hw1,hZ1];exact (hr.rw id r h4).move (B25 hk hf (B3f h3) []) (B6j hk)
 ·rcases A4B hg with h | ⟨h1,h2⟩
  ·exact hS _ _ h
  ·obtain ⟨h3,h4⟩:=A38 h2;have hni:Loc.b b ∉ news:=fun h=>by rw [hnewW _ h] at h1;cases h1
   rw [hβ b hni];obtain ⟨cs,h5,h6,h7,h8⟩:=hr.bx b c h4;have hlt:(m.β b).g<m.w.heap.size:=(A9.1 h8).1;have hst:=B25 (bk:=bk) hk hf (C7D (hd:=hd) (bx:=bx) (b:=b) fun x hx e=>by
    have:=hbxW x hx;rw [e,h1] at this;cases this) [] (m.β b).g [] h7 hlt
   exact ⟨cs,All2.imp (fun l hl v hv=>hv.ext (hX.sub fun q hq=>⟨.b b,.b c,h4,E6.2 ⟨l,hl,hq⟩⟩)) h5,h6,by rw [hZ1];exact hst.2,by rw [hw1];exact hst.1.trans h8⟩
 ·rw [hw1,hZ1];exact C59 hf
theorem A9b:∀ {k:K} {nb j:Nat} {x:k.T},(N2 k j).isSome=true->∃ row,(nb+j,row)∈U9 nb k x
 | .int _,_,_,_,h=>by simp [N2] at h
 | .bool,_,_,_,h=>by simp [N2] at h
 | .fnc _,_,_,_,h=>by simp [N2] at h
 | .str,_,_,_,h=>by simp [N2] at h
 | .rs _ _,_,_,_,h=>by simp [N2] at h
 | .pa _ _,_,_,_,h=>by simp [N2] at h
 | .sl e k,nb,0,x,_=>⟨_,A6.2 rfl⟩
 | .sl e k,nb,j+1,x,h=>by simp [N2] at h
 | .pair a b,nb,j,x,h=>by
  by_cases hj:j<a.sz
  ·rw [A6f hj] at h;obtain ⟨row,hr⟩:=A9b (k:=a) (nb:=nb) (x:=x.1) h;exact ⟨row,E2 _ hr⟩
  ·have e:j=a.sz+(j-a.sz):=by omega
   rw [e,A5M] at h;obtain ⟨row,hr⟩:=A9b (k:=b) (nb:=nb+a.sz) (x:=x.2) h;rw [L9,<- e] at hr;exact ⟨row,D3 _ hr⟩
theorem C96{α β:Type}{R:H9->α->List Value->Prop}{R':H9->β->List Value->Prop}{e e' sz sz':Nat}{w w':World}{Z Z':Col}{p p':H9}{xs:List α}{ys:List β}{v:Value}
  (h:OwL R e sz w Z p xs v) (h':OwL R' e' sz' w' Z' p' ys v):ys.length=xs.length:=by
 obtain ⟨_,ho,_⟩:=h;obtain ⟨_,ho',_⟩:=h';rcases ho.2 with ⟨rfl,h1⟩ | ⟨g,cap,cur,fz,rfl,_⟩
 ·rcases ho'.2 with ⟨_,h2⟩ | ⟨g,cap,cur,fz,e,_⟩
  ·omega
  ·cases e
 ·rcases ho'.2 with ⟨e,h2⟩ | ⟨g',cap',cur',fz',e,_⟩
  ·cases e
  ·injection e with _ e _;exact e.symm
theorem C97{g:Bool}{cs ds:List Value}{n:Nat}(h:toV g cs=toV g ds)(hc:cs.length=n)(hd:ds.length=n)(hg:g=true\/n=1):cs=ds:=by
 cases g with
 | true=>
  simp only [toV] at h;injection h with h
  have:=Q9 Array.toList h;simpa using this
 | false=>
  have hn:n=1:=hg.resolve_left (by simp);subst hn;cases cs with
  | nil=>simp at hc
  | cons c cs=>
   cases ds with
   | nil=>simp at hd
   | cons d ds=>
    have:cs = []:=F0 (by simpa using hc);subst this;have:ds = []:=F0 (by simpa using hd);subst this;simp only [toV] at h;rw [h]
def C5K(w:World)(g:Nat):TypeId:=match w.heap[g]? with
 | some (.cells _ t _)=>t
 | _=>0
def B73(w:World)(v:Value):List Value:=match v with
 | .pointer (some ⟨b,0,none⟩)=>A1R w b
 | v=>v.cells.toList
theorem C2w{w w':World}{Z:Col}{base:Nat}{g:Bool}{k:K}{x:k.T}{cs:List Value}(h:LvC w Z base k x cs)(hg:g=true\/k.sz=1){c0:Nat}(hlk:(N2 k c0).isSome=true):B73 w' (toV g cs)=cs:=by
 cases g with
 | true=>simp [toV,B73,Value.cells]
 | false=>
  have hn:k.sz=1:=hg.resolve_left (by simp);have hl:=h.len;rw [hn] at hl;obtain ⟨c,rfl⟩:∃ c,cs = [c]:=by
   cases cs with
   | nil=>simp at hl
   | cons c cs=>exact ⟨c,by simpa using hl⟩
  simp only [toV];cases k with
  | int U=>simp only [LvC] at h;injection h with h;subst h;rfl
  | bool=>simp only [LvC] at h;injection h with h;subst h;rfl
  | fnc f=>simp only [LvC] at h;injection h with h;subst h;unfold fV;split<;>rfl
  | pa n k=>simp [N2] at hlk
  | str=>simp only [LvC] at h;injection h with h;subst h;rfl
  | sl e k=>
   obtain ⟨v,e',h⟩:=h;injection e' with e';subst e'
   obtain ⟨_,ho,_⟩:=h;rcases ho.2 with ⟨rfl,_⟩ | ⟨_,_,_,_,rfl,_⟩<;>rfl
  | rs e k=>
   obtain ⟨A,c',e',_⟩:=h;injection e' with e';subst e';rfl
  | pair a b=>
   have:=a.sz_pos;have:=b.sz_pos;simp only [K.sz] at hn;omega
structure C7E (L:Nat) (w':World) (Z' Z1:Col) (pls:Nat->Plc) (rv:List Value) (news:List Loc) (m1:Mem):Prop where
 hw:m1.w=w'
 hZ:m1.Z=Z1
 row:∀ j c v,j<16->c<128->rv[j]? = some v->Loc.r (nr L j+c)∈news->m1.ρ (nr L j+c)=(B73 w' v).getD c undef
 prow:∀ i c,i<16->c<128->Loc.r (np L i+c)∈news->m1.ρ (np L i+c)=((A1R w' (pls i).g).drop (pls i).pre.length).getD c undef
 box:∀ j b,j<16->rv[j]? = some (.pointer (some ⟨b,0,none⟩))->Loc.b (nr L j)∈news->m1.β (nr L j)=⟨b,C5K w' b,[],[]⟩
def Roots(w:World)(Z' Z1:Col)(bk:List (Nat×Nat)):Prop:=∀ p∈bk,∀ q,Moves w w Z' Z1 (p.1::q) (p.2::q)
theorem B29{rows:List (Nat×Row)}{l:Loc}{lv:LV}(h:(l,some lv)∈B2b rows):∃ c row,l=.r c/\lv=.r row/\(c,row)∈rows:=by
 obtain ⟨p,hp,e⟩:=D0.1 h;injection e with e1 e2;injection e2 with e2
 exact ⟨p.1,p.2,e1.symm,e2.symm,hp⟩
theorem A8v{w':World}{Z' Z1:Col}{base nb:Nat}{k:K}{x:k.T}{cs:List Value}(h:LvC w' Z' base k x cs)(hb:Back k w' Z' Z1)(hroots:Roots w' Z' Z1 (B2v base nb k.sz))
  {s1:St} {m1:Mem} (hw:m1.w=w') (hZ:m1.Z=Z1) (hρ:∀ c v,cs[c]? = some v->(N2 k c).isSome=true->m1.ρ (nb+c)=v) :
  (∀ l lv,(l,some lv)∈B2b (U9 nb k x)->C7C s1 m1 l lv)/\All2 (LfC s1 m1) (leaves k x Lf.own nb) cs:=by
 constructor
 ·intro l lv hm;obtain ⟨c,row,rfl,rfl,hm2⟩:=B29 hm;obtain ⟨j,v,e1,e2,e3,e4,e5⟩:=B28 h c row hm2;subst e1;show OwL (Ow row.k m1.w m1.Z) row.e row.k.sz m1.w m1.Z [2*(nb+j)] row.xs (m1.ρ (nb+j));rw [hρ j v e3 (by rw [e4];rfl),hw,hZ];refine e5.back ?_ (hroots _ (B71 e2) []);refine hb.imp (fun hn=>?_) id;have key:∀ {k:K} {j e:Nat} {k':K},k.noRs=true->N2 k j=some (e,k')->(K.sl e k').noRs=true:=by
   intro k
   induction k with
   | int _=>intro j e k' _ h;simp [N2] at h
   | bool=>intro j e k' _ h;simp [N2] at h
   | fnc f=>intro j e k' _ h;simp [N2] at h
   | str=>intro j e k' _ h;simp [N2] at h
   | rs _ _ _=>intro j e k' _ h;simp [N2] at h
   | pa _ _ _=>intro j e k' _ h;simp [N2] at h
   | sl e0 k0 _=>
    intro j e k' hn h;cases j with
    | zero=>simp only [N2] at h;injection h with h;injection h with h1 h2;subst h1;subst h2;exact hn
    | succ j=>simp [N2] at h
   | pair a b iha ihb=>
    intro j e k' hn h;simp only [K.noRs,B3] at hn;simp only [N2] at h;split at h
    ·exact iha hn.1 h
    ·exact ihb hn.2 h
  exact key hn e4
 ·refine B0v hw h (by rw [hZ];exact hb) fun j v hv hl=>⟨h.one v (I7 hv),fun r _=>(hρ j v hv hl).symm⟩
def B3g(k:K):Bool:=Nat.ble k.sz 100
theorem Roots.left{w:World}{Z' Z1:Col}{a b:List (Nat×Nat)}(h:Roots w Z' Z1 (a++b)):Roots w Z' Z1 a:=fun p hp=>h p (E2 _ hp)
theorem Roots.right{w:World}{Z' Z1:Col}{a b:List (Nat×Nat)}(h:Roots w Z' Z1 (a++b)):Roots w Z' Z1 b:=fun p hp=>h p (D3 _ hp)
theorem Roots.tail{w:World}{Z' Z1:Col}{a:Nat×Nat}{b:List (Nat×Nat)}(h:Roots w Z' Z1 (a::b)):Roots w Z' Z1 b:=fun p hp=>h p (B5 _ hp)
theorem B3h{nb c:Nat}{k:K}{x:k.T}{news:List Loc}{W:St}(hn:∀ p∈B2b (U9 nb k x)++W,p.1∈news)(hl:(N2 k c).isSome=true):Loc.r (nb+c)∈news:=by
 obtain ⟨row,hr⟩:=A9b (k:=k) (nb:=nb) (x:=x) hl;exact hn (.r (nb+c),some (.r row)) (E2 _ (D0.2 ⟨_,hr,rfl⟩))
theorem C30{L:Nat}{w':World}{Z' Z1:Col}{pls:Nat->Plc}{rv:List Value}{news:List Loc}{s1:St}{m1:Mem}(hN:C7E L w' Z' Z1 pls rv news m1){ps:List PK}{args:List Value} :
  ∀ {res:List RK} {j:Nat} {y:Ts (outs res ps)} {vs:List Value},B8J w' Z' pls ps args j res y vs->(∀ i v,vs[i]? = some v->rv[j+i]? = some v)->j+res.length<=16->(∀ r∈res,B3g r.k=true)->
   (∀ r∈res,Back r.k w' Z' Z1)->Roots w' Z' Z1 (C4L L j res)->(∀ p∈A39 L j res y,p.1∈news)->
   (∀ l lv,(l,some lv)∈A39 L j res y->C7C s1 m1 l lv)/\All2 (C6F s1 m1) (A6g L j res y) vs/\B5L w' Z' pls 0 ps (B6G res y) args
 | [],j,y,vs,h,_,_,_,_,_,_=>by
  obtain ⟨rfl,hk⟩:=h;exact ⟨fun l lv hm=>(nomatch hm),trivial,hk⟩
 | .val g k::res,j,y,vs,h,hv,hj,hsz,hb,hr,hn=>by
  obtain ⟨cs,r,rfl,hl,hg,hrest⟩:=h;have hlen:cs.length<=100:=by rw [hl.len];exact D5 (hsz _ A5)
  have hj':j<16:=by simp at hj;omega
  have hv0:=hv 0 _ rfl;rw [J0] at hv0;obtain ⟨e1,e2⟩:=A8v (s1:=s1) (nb:=nr L j) hl (hb _ A5) hr.left hN.hw hN.hZ fun c v hc hlk=>by
   have hc':=(C3.1 hc).1;rw [hN.row j c _ hj' (by omega) hv0 (B3h hn hlk),C2w hl hg hlk,C2,hc];rfl
  obtain ⟨e3,e4,e5⟩:=C30 hN hrest (fun i v hi=>by
   have:=hv (i+1) v (by simpa using hi)
   rwa [show j+(i+1)=j+1+i by omega] at this) (by simp at hj;omega) (fun r hr=>hsz r (B5 _ hr)) (fun r hr=>hb r (B5 _ hr)) hr.right (fun p hp=>hn p (D3 _ hp))
  refine ⟨fun l lv hm=>(C9.1 hm).elim (e1 l lv) (e3 l lv),⟨?_,e4⟩,e5⟩;cases g with
  | true=>exact ⟨cs,rfl,e2⟩
  | false=>
   have hn1:k.sz=1:=hg.resolve_left (by simp);have hl1:=hl.len;rw [hn1] at hl1;obtain ⟨c,rfl⟩:∃ c,cs = [c]:=by
    cases cs with
    | nil=>simp at hl1
    | cons c cs=>exact ⟨c,by simpa using hl1⟩
   cases hll:leaves k y.1 Lf.own (nr L j) with
   | nil=>rw [hll] at e2;exact e2.elim
   | cons l ls=>
    rw [hll] at e2;have:ls = []:=by cases ls with
     | nil=>rfl
     | cons _ _=>exact e2.2.elim
    subst this;exact ⟨l,rfl,e2.1⟩
 | .new k::res,j,y,vs,h,hv,hj,hsz,hb,hr,hn=>by
  obtain ⟨b,T,cs,r,rfl,hvar,hl,hrest⟩:=h;obtain ⟨hheap,hcol⟩:=hvar;simp only [F6,F4] at hheap hcol;have hlen:cs.length<=100:=by rw [hl.len];exact D5 (hsz _ A5)
  have hj':j<16:=by simp at hj;omega
  have hv0:=hv 0 _ rfl;rw [J0] at hv0;have hca:A1R w' b=cs:=by simp only [A1R,hheap]
  have hty:C5K w' b=T:=by simp only [C5K,hheap]
  obtain ⟨e1,e2⟩:=A8v (s1:=s1) (nb:=nr L j) hl (hb _ A5) hr.tail.left hN.hw hN.hZ fun c v hc hlk=>by
   have hc':=(C3.1 hc).1;rw [hN.row j c _ hj' (by omega) hv0 (B3h (fun p hp=>hn p (B5 _ hp)) hlk)];simp only [B73,hca,C2,hc];rfl
  obtain ⟨e3,e4,e5⟩:=C30 hN hrest (fun i v hi=>by
   have:=hv (i+1) v (by simpa using hi)
   rwa [show j+(i+1)=j+1+i by omega] at this) (by simp at hj;omega) (fun r hr=>hsz r (B5 _ hr)) (fun r hr=>hb r (B5 _ hr)) hr.tail.right (fun p hp=>hn p (B5 _ (D3 _ hp)))
  have hβ:=hN.box j b hj' hv0 (hn _ A5);refine ⟨fun l lv hm=>?_,⟨⟨_,rfl,rfl,fun c _=>?_⟩,e4⟩,e5⟩
  ·rcases B4.1 hm with e | hm
   ·injection e with e0 e1';injection e1' with e1';subst e0;subst e1'
    show BxC s1 m1 (m1.β (nr L j)) (nr L j) _;rw [hβ];refine ⟨cs,e2,hl.one,?_,?_⟩
    ·rw [hN.hZ];have hlt:b<w'.heap.size:=(A9.1 hheap).1;exact (hr _ A5 [] b [] hcol hlt).2
    ·rw [hN.hw,hty];simpa using hheap
   ·exact (C9.1 hm).elim (e1 l lv) (e3 l lv)
  ·rw [hβ];rfl
structure HdF (ps:List PK) (i:Nat) (s:St) (m:Mem) (vals:List Value) (h:Hd) (idx j:Nat) (p:PK):Prop where
 pos:ps[idx]? = some p
 r:h.r=pR (i+idx)+j
 lt:j<p.k.sz
 lk:N2 p.k j=some (h.row.e,h.row.k)
 st:s.get (.r h.id)=some (.r h.row)
 val:∀ g k kp,p=.val g k kp->h.kp=kp/\∀ v,vals[idx]? = some v->∃ cs,v=toV g cs/\cs.length=k.sz/\(g=true\/k.sz=1)/\cs[j]? = some (m.ρ h.id)
structure BxF (ps:List PK) (i:Nat) (s:St) (rds:Rds) (z:Bx) (idx:Nat) (k:K) (c:List Lf):Prop where
 pos:ps[idx]? = some (.ptr k)
 i:z.i=i+idx
 sz:z.sz=k.sz
 get:s.getB z.b=some c
 rd:(Loc.b z.b,LV.b c)∈rds
 fit:z.off+z.sz<=c.length
theorem HdF.succ{ps:List PK}{i:Nat}{s:St}{m:Mem}{vals:List Value}{h:Hd}{idx j:Nat}{p q:PK}{u:Value}(hf:HdF ps (i+1) s m vals h idx j p):HdF (q::ps) i s m (u::vals) h (idx+1) j p:=
 ⟨by simpa using hf.pos,by have:=hf.r;simp only [pR] at this ⊢;omega,hf.lt,hf.lk,hf.st,fun g k kp e=>⟨(hf.val g k kp e).1,fun v hv=>(hf.val g k kp e).2 v (by simpa using hv)⟩⟩
theorem B0w{cfg:Cfg}{s s':St}{n:Nat}{w0:World}{Z0:Gh}{a:Act}{m:Mem}(hr:Rel n w0 Z0 s' a m) :
  ∀ {ps:List PK} {i:Nat} {vs:List AV} {x:Ts (ins ps)} {hd:List Hd} {bo:List Nat} {bx:List Bx} {rds:Rds},A15 cfg s i ps vs=some (x,hd,bo,bx,rds)->Reads s' rds->∀ {vals:List Value},All2 (AVC s' m) vs vals->
   (∀ h∈hd,∃ idx j p,HdF ps i s' m vals h idx j p)/\(∀ z∈bx,∃ idx k c,BxF ps i s rds z idx k c)
 | [],i,vs,x,hd,bo,bx,rds,h,hrd,vals,hv=>by
  cases vs with
  | nil=>
   simp only [A15] at h;injection h with h;injection h with _ h;injection h with h1 h;injection h with _ h;injection h with h2 _;subst h1;subst h2
   exact ⟨fun h hh=>(nomatch hh),fun h hh=>(nomatch hh)⟩
  | cons _ _=>simp [A15] at h
 | .val g k kp::ps,i,vs,x,hd,bo,bx,rds,h,hrd,vals,hv=>by
  cases vs with
  | nil=>simp [A15] at h
  | cons v vs=>
   cases vals with
   | nil=>exact hv.elim
   | cons u vals=>
    simp only [A15] at h;split at h
    ·rename_i ls els;split at h
     ·rename_i x1 hd1 bo1 rd1 e1;split at h
      ·rename_i x2 hd2 bo2 bx2 rd2 e2;injection h with h;injection h with h1 h;injection h with h2 h;injection h with h3 h;injection h with h4 h5;subst h1;subst h2;subst h3;subst h4;subst h5
       obtain ⟨hrd1,hrd2⟩:=Reads.app.1 hrd;obtain ⟨cs,rfl,hcs,hg⟩:=C2u els hv.1;obtain ⟨f1,f2⟩:=B0w hr e2 hrd2 hv.2;obtain ⟨hlen,_,hc⟩:=B3e hr e1 hrd1 hcs;have hcl:cs.length=k.sz:=by rw [<- hcs.len,hlen];simp
       refine ⟨fun h hh=>?_,fun z hz=>?_⟩
       ·rcases C9.1 hh with hh | hh
        ·obtain ⟨j,g1,g2,g3,g4,g5,g6⟩:=hc h hh;refine ⟨0,j,.val g k kp,rfl,g1,g2,g4,g5,fun g' k' kp' e=>?_⟩;injection e with e1 e2 e3;subst e1;subst e2;subst e3
         exact ⟨g6,fun v hv=>by
          simp at hv;subst hv;exact ⟨cs,rfl,hcl,hg,g3⟩⟩
        ·obtain ⟨idx,j,p,hf⟩:=f1 h hh;exact ⟨idx+1,j,p,hf.succ⟩
       ·obtain ⟨idx,k',c,hf⟩:=f2 z hz;exact ⟨idx+1,k',c,by simpa using hf.pos,by have:=hf.i;omega,hf.sz,hf.get,D3 _ hf.rd,hf.fit⟩
      ·cases h
     ·cases h
    ·cases h
 | .ptr k::ps,i,vs,x,hd,bo,bx,rds,h,hrd,vals,hv=>by
  cases vs with
  | nil=>simp [A15] at h
  | cons v vs=>
   cases vals with
   | nil=>exact hv.elim
   | cons u vals=>
    simp only [A15] at h;split at h
    ·rename_i b off epv;split at h
     ·rename_i c hcb;split at h
      ·rename_i x1 hd1 bo1 rd1 e1;split at h
       ·rename_i x2 hd2 bo2 bx2 rd2 e2;injection h with h;injection h with h1 h;injection h with h2 h;injection h with h3 h;injection h with h4 h5;subst h1;subst h2;subst h3;subst h4;subst h5
        obtain ⟨hrd1,hrd2⟩:=Reads.app.1 hrd;have hgb:=hrd1 (.b b,.b c) A5;obtain ⟨cs,hcs,_,_,_⟩:=hr.bx b c hgb;obtain ⟨f1,f2⟩:=B0w hr e2 hrd2 hv.2;obtain ⟨hlen,_,hc⟩:=B3e hr e1 (fun p hp=>hrd1 p (B5 _ hp)) (All2.take k.sz (All2.drop off hcs));have hpos:=k.sz_pos;simp only [B2,C5,I1] at hlen;refine ⟨fun h hh=>?_,fun z hz=>?_⟩
        ·rcases C9.1 hh with hh | hh
         ·obtain ⟨j,g1,g2,g3,g4,g5,g6⟩:=hc h hh;exact ⟨0,j,.ptr k,rfl,g1,g2,g4,g5,fun g' k' kp' e=>by cases e⟩
         ·obtain ⟨idx,j,p,hf⟩:=f1 h hh;exact ⟨idx+1,j,p,hf.succ⟩
        ·rcases B4.1 hz with e | hz
         ·subst e;exact ⟨0,k,c,rfl,rfl,rfl,hcb,E2 _ A5,by simp only;omega⟩
         ·obtain ⟨idx,k',c,hf⟩:=f2 z hz;exact ⟨idx+1,k',c,by simpa using hf.pos,by have:=hf.i;omega,hf.sz,hf.get,D3 _ hf.rd,hf.fit⟩
       ·cases h
      ·cases h
     ·cases h
    ·cases h
def B10(f:K->Bool):List PK->Bool
 | []=>true
 | .val _ k true::ps=>f k&&B10 f ps
 | .val _ _ false::ps=>B10 f ps
 | .ptr k::ps=>f k&&B10 f ps
theorem A9c{hd:List Hd}:∀ {rows:List (Nat×Row)} {l:Loc} {lv:LV},(l,some lv)∈A5N hd rows->∃ c row h,(c,row)∈rows/\h∈hd/\h.r=c/\l=.r h.id/\lv=.r ⟨row.e,row.k,row.xs,h.row.ver+1⟩
 | [],_,_,h=>nomatch h
 | p::rows,l,lv,h=>by
  simp only [A5N] at h;split at h
  ·rename_i h0 hf;rcases B4.1 h with e | h
   ·injection e with e1 e2;injection e2 with e2
    obtain ⟨g1,g2⟩:=C15 hf;exact ⟨p.1,p.2,h0,A5,g1,g2,e1,e2⟩
   ·obtain ⟨c,row,h',g1,g2⟩:=A9c h;exact ⟨c,row,h',B5 _ g1,g2⟩
  ·obtain ⟨c,row,h',g1,g2⟩:=A9c h;exact ⟨c,row,h',B5 _ g1,g2⟩
structure C4N (L:Nat) (w':World) (Z' Z1:Col) (pls:Nat->Plc) (rv:List Value) (news:List Loc) (m1:Mem) (s s':St) (m:Mem) (ps0:List PK) (args:List Value) (hd:List Hd) (bx:List Bx) (rds:Rds):Prop where
 new:C7E L w' Z' Z1 pls rv news m1
 hdf:∀ h∈hd,∃ idx j p,HdF ps0 0 s' m args h idx j p
 bxf:∀ z∈bx,∃ idx k c,BxF ps0 0 s rds z idx k c
 sz:∀ p∈ps0,B3g p.k=true
 rHd:Roots w' Z' Z1 (C5J hd)
 hnew:∀ h∈hd,Loc.r h.id ∉ news
 bnew:∀ z∈bx,Loc.b z.b ∉ news
 hρ:∀ id,Loc.r id ∉ news->m1.ρ id=m.ρ id
 hβ:∀ b,Loc.b b ∉ news->m1.β b=m.β b
 hpl:∀ z∈bx,pls z.i=C2v m z
 hrd:Reads s' rds
theorem D0c{i i' j j':Nat}(h:pR i+j=pR i'+j')(hj:j<100)(hj':j'<100):i=i'/\j=j':=by
 simp only [pR] at h;omega
theorem B6H{L:Nat}{w':World}{Z' Z1:Col}{pls:Nat->Plc}{rv:List Value}{news:List Loc}{s1:St}{m1:Mem}{s s':St}{n:Nat}{w0:World}{Z0:Gh}{a:Act}{m:Mem}(hr:Rel n w0 Z0 s' a m)
  {ps0:List PK} {args:List Value} {hd:List Hd} {bx:List Bx} {rds:Rds} (E:C4N L w' Z' Z1 pls rv news m1 s s' m ps0 args hd bx rds) :
  ∀ {ps:List PK} {i:Nat} {y:Ts (kk ps)} {vs:List Value} {W:St} {N:List Loc},B5L w' Z' pls i ps y vs->A9a s L hd bx i ps y=some (W,N)->(∀ idx p,ps[idx]? = some p->ps0[i+idx]? = some p)->(∀ idx v,vs[idx]? = some v->args[i+idx]? = some v)->
   i+ps.length<=16->(∀ f:K->Bool,True)->(B10 K.noRs ps=true\/Keeps w' w' Z' Z1)->Roots w' Z' Z1 (C7A L bx i ps)->(∀ l∈N,l∈news)->
   (∀ l lv,(l,some lv)∈W->C7B s' m m1 news l lv)/\(Ext s' m s1 m1 (Live s')->∀ l lv,(l,some lv)∈W->C7C s1 m1 l lv)/\(∀ p∈W,p.2.isSome=true)/\(∀ l∈N,inW W l=true)/\
    (∀ idx k,ps[idx]? = some (.ptr k)->∃ z,B2c bx (i+idx)=some z/\inW W (.b z.b)=true)
 | [],i,y,vs,W,N,hk,h,_,_,_,_,_,_,_=>by
  simp only [A9a] at h;injection h with h;injection h with h1 h2;subst h1;subst h2
  exact ⟨fun l lv hm=>(nomatch hm),fun _ l lv hm=>(nomatch hm),fun p hp=>(nomatch hp),fun l hl=>(nomatch hl),fun idx k h=>by simp at h⟩
 | .val g k false::ps,i,y,vs,W,N,hk,h,hps,hvs,hi,_,hb,hroots,hN=>by
  obtain ⟨v,r,rfl,hk⟩:=hk;simp only [A9a] at h;obtain ⟨f1,f2,f3,f4,f5⟩:=B6H hr E hk h (fun idx p hp=>by
   have:=hps (idx+1) p (by simpa using hp)
   rwa [show i+(idx+1)=i+1+idx by omega] at this) (fun idx v hv=>by
   have:=hvs (idx+1) v (by simpa using hv)
   rwa [show i+(idx+1)=i+1+idx by omega] at this) (by simp at hi;omega) (fun _=>trivial) hb hroots hN
  refine ⟨f1,f2,f3,f4,fun idx k' h=>?_⟩;cases idx with
  | zero=>simp at h
  | succ idx=>
   obtain ⟨z,h1,h2⟩:=f5 idx k' (by simpa using h);exact ⟨z,by rwa [show i+(idx+1)=i+1+idx by omega],h2⟩
 | .val g k true::ps,i,y,vs,W,N,hk,h,hps,hvs,hi,_,hb,hroots,hN=>by
  obtain ⟨cs,r,rfl,hl,hg,hk⟩:=hk;simp only [A9a] at h;split at h
  ·rename_i W' N' hW';injection h with h;injection h with h1 h2;subst h1;subst h2
   obtain ⟨f1,f2,f3,f4,f5⟩:=B6H hr E hk hW' (fun idx p hp=>by
    have:=hps (idx+1) p (by simpa using hp)
    rwa [show i+(idx+1)=i+1+idx by omega] at this) (fun idx v hv=>by
    have:=hvs (idx+1) v (by simpa using hv)
    rwa [show i+(idx+1)=i+1+idx by omega] at this) (by simp at hi;omega) (fun _=>trivial) (hb.imp (fun h=>by simp only [B10,B3] at h;exact h.2) id) hroots hN
   have hp0:=hps 0 _ rfl;have hv0:=hvs 0 _ rfl;rw [J0] at hp0 hv0;have hbk:Back k w' Z' Z1:=hb.imp (fun h=>by simp only [B10,B3] at h;exact h.1) id;have hsz0:k.sz<=100:=D5 (E.sz _ (I7 hp0));have key:∀ l lv,(l,some lv)∈A5N hd (U9 (pR i) k y.1)->C7B s' m m1 news l lv/\C7C s1 m1 l lv:=by
    intro l lv hm;obtain ⟨c,row,h,g1,g2,g3,rfl,rfl⟩:=A9c hm;obtain ⟨j,v,e1,e2,e3,e4,e5⟩:=B28 hl c row g1;obtain ⟨idx,j',p,hf⟩:=E.hdf h g2;have hpm:B3g p.k=true:=E.sz p (I7 hf.pos);have hpsz:p.k.sz<=100:=D5 hpm;have hlt:=hf.lt;have hrr:=hf.r;rw [D9,g3,e1] at hrr;obtain ⟨ei,ej⟩:=D0c hrr (by omega) (by omega);subst ei;subst ej;have hpp:=hf.pos;rw [hp0] at hpp;injection hpp with hpp
    obtain ⟨hkp,hval⟩:=hf.val g k true hpp.symm;obtain ⟨cs0,c1,c2,c3,c4⟩:=hval _ hv0;have:cs=cs0:=C97 c1 hl.len c2 c3;subst this;rw [e3] at c4;injection c4 with c4
    subst c4;have hlk:=hf.lk;rw [<- hpp] at hlk;simp only [PK.k] at hlk;rw [e4] at hlk;injection hlk with hlk
    injection hlk with hk1 hk2
    have hρ:=E.hρ h.id (E.hnew h g2);have hold:=hr.rw h.id h.row hf.st;refine ⟨.inr ⟨h.row,hf.st,hρ,by rw [hk2],C96 hold e5,A4f _⟩,?_⟩;show OwL (Ow row.k m1.w m1.Z) row.e row.k.sz m1.w m1.Z [2*h.id] row.xs (m1.ρ h.id);rw [hρ,E.new.hw,E.new.hZ];have hrt:=E.rHd _ (B72 g2 hkp) [];rw [g3,e1] at hrt;refine e5.back ?_ hrt;refine hbk.imp (fun hn=>?_) id;have key2:∀ {k:K} {j e:Nat} {k':K},k.noRs=true->N2 k j=some (e,k')->(K.sl e k').noRs=true:=by
     intro k
     induction k with
     | int _=>intro j e k' _ h;simp [N2] at h
     | bool=>intro j e k' _ h;simp [N2] at h
     | fnc f=>intro j e k' _ h;simp [N2] at h
     | str=>intro j e k' _ h;simp [N2] at h
     | rs _ _ _=>intro j e k' _ h;simp [N2] at h
     | pa _ _ _=>intro j e k' _ h;simp [N2] at h
     | sl e0 k0 _=>
      intro j e k' hn h;cases j with
      | zero=>simp only [N2] at h;injection h with h;injection h with h1 h2;subst h1;subst h2;exact hn
      | succ j=>simp [N2] at h
     | pair a b iha ihb=>
      intro j e k' hn h;simp only [K.noRs,B3] at hn;simp only [N2] at h;split at h
      ·exact iha hn.1 h
      ·exact ihb hn.2 h
    exact key2 hn e4
   refine ⟨fun l lv hm=>(C9.1 hm).elim (fun h=>(key l lv h).1) (f1 l lv),fun hX l lv hm=>(C9.1 hm).elim (fun h=>(key l lv h).2) (f2 hX l lv),fun p hp=>?_,fun l hl=>?_,fun idx k' h=>?_⟩
   ·rcases C9.1 hp with hp | hp
    ·obtain ⟨l,v⟩:=p;have:∀ rows:List (Nat×Row),(l,v)∈A5N hd rows->v.isSome=true:=by
      intro rows
      induction rows with
      | nil=>intro h;cases h
      | cons q rows ih=>
       intro h;simp only [A5N] at h;split at h
       ·rcases B4.1 h with e | h
        ·injection e with _ e;subst e;rfl
        ·exact ih h
       ·exact ih h
     exact this _ hp
    ·exact f3 p hp
   ·have:=f4 l hl;simp only [inW,A0i,I9] at this ⊢;exact .inr this
   ·cases idx with
    | zero=>simp at h
    | succ idx=>
     obtain ⟨z,h1,h2⟩:=f5 idx k' (by simpa using h);refine ⟨z,by rwa [show i+(idx+1)=i+1+idx by omega],?_⟩;simp only [inW,A0i,I9] at h2 ⊢;exact .inr h2
  ·cases h
 | .ptr k::ps,i,y,vs,W,N,hk,h,hps,hvs,hi,_,hb,hroots,hN=>by
  obtain ⟨cs,v,r,rfl,hvar,hl,hk⟩:=hk;simp only [A9a] at h;split at h
  ·rename_i z hz;split at h
   ·rename_i c W' N' hc hW';injection h with h;injection h with h1 h2;subst h1;subst h2
    obtain ⟨hzm,hzi⟩:=C16 hz;simp only [C7A,hz] at hroots;have hroots2:=hroots.tail;obtain ⟨f1,f2,f3,f4,f5⟩:=B6H hr E hk hW' (fun idx p hp=>by
     have:=hps (idx+1) p (by simpa using hp)
     rwa [show i+(idx+1)=i+1+idx by omega] at this) (fun idx v hv=>by
     have:=hvs (idx+1) v (by simpa using hv)
     rwa [show i+(idx+1)=i+1+idx by omega] at this) (by simp at hi;omega) (fun _=>trivial) (hb.imp (fun h=>by simp only [B10,B3] at h;exact h.2) id) hroots2.right (fun l hl=>hN l (D3 _ hl))
    have hp0:=hps 0 _ rfl;rw [J0] at hp0;have hbk:Back k w' Z' Z1:=hb.imp (fun h=>by simp only [B10,B3] at h;exact h.1) id;have hsz0:k.sz<=100:=D5 (E.sz _ (I7 hp0));obtain ⟨idx,k',c',hf⟩:=E.bxf z hzm;have hidx:idx=i:=by have:=hf.i;omega
    subst hidx;have hpp:=hf.pos;rw [hp0] at hpp;injection hpp with hpp
    injection hpp with hpp
    subst hpp;have hcc:=hf.get;rw [hc] at hcc;injection hcc with hcc
    subst hcc;have hzsz:=hf.sz;have hgb:=E.hrd _ hf.rd;obtain ⟨cs0,hcs0,hone,hcol,hg⟩:=hr.bx z.b c hgb;have hfit:=hf.fit;rw [hcs0.len] at hfit;have hpe:=E.hpl z hzm;rw [C4J hg hfit,hzi] at hpe;obtain ⟨hheap,hcol'⟩:=hvar;rw [hpe] at hheap hcol';simp only at hheap hcol';have hβ:=E.hβ z.b (E.bnew z hzm);have hca:((A1R w' (pls idx).g).drop (pls idx).pre.length)=cs++(cs0.drop (z.off+z.sz)++(m.β z.b).post):=by
     rw [hpe];simp only [A1R,hheap];rw [A7 (_++_),A0L]
    obtain ⟨e1,e2⟩:=A8v (s1:=s1) (nb:=np L idx) hl hbk hroots2.left E.new.hw E.new.hZ fun cc v hc' hlk=>by
     have hlt:=(C3.1 hc').1;have hlen:=hl.len;have hmem:Loc.r (np L idx+cc)∈news:=by
      obtain ⟨row,hrow⟩:=A9b (k:=k) (nb:=np L idx) (x:=y.1) hlk;exact hN _ (E2 _ (D0.2 ⟨_,hrow,rfl⟩))
     rw [E.new.prow idx cc (by simp at hi;omega) (by omega) hmem,hca,C2,E3 hlt,hc'];rfl
    have hbox:Ext s' m s1 m1 (Live s')->BxC s1 m1 (m1.β z.b) z.b (c.take z.off++leaves k y.1 Lf.own (np L idx)++c.drop (z.off+k.sz)):=by
     intro hX;have hext:All2 (LfC s1 m1) c cs0:=All2.imp (fun l hl v hv=>hv.ext (hX.sub fun q hq=>⟨.b z.b,.b c,hgb,E6.2 ⟨l,hl,hq⟩⟩)) hcs0;rw [hβ];refine ⟨cs0.take z.off++cs++cs0.drop (z.off+k.sz),((hext.take _).app e2).app (hext.drop _),fun u hu=>?_,?_,?_⟩
     ·rcases C9.1 hu with hu | hu
      ·rcases C9.1 hu with hu | hu
       ·exact hone u (A1M hu)
       ·exact hl.one u hu
      ·exact hone u (R8 hu)
     ·rw [E.new.hZ];have hlt:(m.β z.b).g<w'.heap.size:=(A9.1 hheap).1;exact (hroots _ A5 [] (m.β z.b).g [] hcol' hlt).2
     ·rw [E.new.hw,hheap,hzsz]
      congr 2
      simp only [A7]
    refine ⟨fun l lv hm=>?_,fun hX l lv hm=>?_,fun p hp=>?_,fun l hl=>?_,fun idx' k' h=>?_⟩
    ·rcases B4.1 hm with e | hm
     ·injection e with e1 e2;injection e2 with e2;subst e1;subst e2
      exact .inr ⟨c,hgb,hβ⟩
     ·rcases C9.1 hm with hm | hm
      ·obtain ⟨cc,row,rfl,rfl,hm2⟩:=B29 hm;exact .inl (hN _ (E2 _ (D0.2 ⟨(cc,row),hm2,rfl⟩)))
      ·exact f1 l lv hm
    ·rcases B4.1 hm with e | hm
     ·injection e with e1' e2';injection e2' with e2';subst e1';subst e2'
      exact hbox hX
     ·exact (C9.1 hm).elim (e1 l lv) (f2 hX l lv)
    ·rcases B4.1 hp with e | hp
     ·subst e;rfl
     ·rcases C9.1 hp with hp | hp
      ·obtain ⟨q,_,rfl⟩:=D0.1 hp;rfl
      ·exact f3 p hp
    ·simp only [inW,A0t,A0i,I9];rcases C9.1 hl with hl | hl
     ·obtain ⟨q,hq,rfl⟩:=D0.1 hl;refine .inr (.inl (A24.2 ⟨_,D0.2 ⟨q,hq,rfl⟩,Loc.eqb_iff.2 rfl⟩))
     ·exact .inr (.inr (f4 l hl))
    ·cases idx' with
     | zero=>exact ⟨z,hz,by simp only [inW,A0t,I9];exact .inl (Loc.eqb_iff.2 rfl)⟩
     | succ idx'=>
      obtain ⟨z',h1,h2⟩:=f5 idx' k' (by simpa using h);refine ⟨z',by rwa [show idx+(idx'+1)=idx+1+idx' by omega],?_⟩;simp only [inW,A0t,A0i,I9] at h2 ⊢;exact .inr (.inr h2)
   ·cases h
  ·cases h
def B2d(s:St):List Operand->Option (List AV×Rds)
 | []=>some ([],[])
 | x::xs=>match L1 s x,B2d s xs with
  | some (v,r1),some (vs,r2)=>some (v::vs,r1++r2)
  | _,_=>none
theorem A7L{s:St}:∀ {xs:List Operand} {vs:List AV} {rd:Rds},B2d s xs=some (vs,rd)->Reads s rd
 | [],vs,rd,h=>by simp only [B2d] at h;injection h with h;injection h with _ h;subst h;exact Reads.nil _
 | x::xs,vs,rd,h=>by
  simp only [B2d] at h;split at h
  ·rename_i e1 e2;injection h with h;injection h with _ h;subst h
   exact Reads.app.2 ⟨B9 e1,A7L e2⟩
  ·cases h
theorem B3i{s s':St}{n:Nat}{w0:World}{Z0:Gh}{a:Act}{m:Mem}(hr:Rel n w0 Z0 s' a m):∀ {xs:List Operand} {vs:List AV} {rd:Rds},B2d s xs=some (vs,rd)->Reads s' rd->All2 (AVC s' m) vs (xs.map a.eval)
 | [],vs,rd,h,_=>by simp only [B2d] at h;injection h with h;injection h with h _;subst h;trivial
 | x::xs,vs,rd,h,hrd=>by
  simp only [B2d] at h;split at h
  ·rename_i e1 e2;injection h with h;injection h with h1 h2;subst h1;subst h2
   obtain ⟨g1,g2⟩:=Reads.app.1 hrd;exact ⟨D8 e1 hr g1,B3i hr e2 g2⟩
  ·cases h
def B5N:List (Nat×Fn)->Nat->Option Fn
 | [],_=>none
 | (g,F)::Γ,f=>match Nat.beq g f with
  | true=>some F
  | false=>B5N Γ f
theorem B2A:∀ {Γ:List (Nat×Fn)} {f:Nat} {F:Fn},B5N Γ f=some F->(f,F)∈Γ
 | (g,G)::Γ,f,F,h=>by
  simp only [B5N] at h;split at h
  ·rename_i hb;injection h with h;subst h;rw [A0 hb];exact A5
  ·exact B5 _ (B2A h)
def Enters(P:Program)(f:Nat):Prop:=∀ args w,(callFunc f args).run P w=.ok (.enter f args) w
def B9u(g:Nat):List Value->List Value
 | []=> []
 | v::vs=>match vs with
  | []=> [.func (.func g) #[] #[v]]
  | _::_=>v::B9u g vs
def C7F:List AV->Option (Nat×List AV)
 | []=>none
 | v::vs=>match vs with
  | []=>match v with
   | .one (.clo g b off)=>some (g,[.one (.ptr b off)])
   | _=>none
  | _::_=>match C7F vs with
   | some (g,vs')=>some (g,v::vs')
   | none=>none
theorem C4O{s:St}{m:Mem}:∀ {vs vs':List AV} {g:Nat} {vals:List Value},C7F vs=some (g,vs')->All2 (AVC s m) vs vals->∃ vals',All2 (AVC s m) vs' vals'/\vals=B9u g vals'
 | [],_,_,_,h,_=>by cases h
 | [v],vs',g,vals,h,h2=>by
  simp only [C7F] at h;split at h
  ·injection h with h;injection h with h1 h;subst h1;subst h
   match vals,h2 with
   | [u],h2=>
    obtain ⟨p,e,h3,h4⟩:=h2.1;exact ⟨[p],⟨⟨h3,h4⟩,trivial⟩,by rw [e];rfl⟩
   | u::u2::r,h2=>exact h2.2.elim
  ·cases h
 | v::v2::r,vs',g,vals,h,h2=>by
  unfold C7F at h;simp only at h;split at h
  ·rename_i g' vs2 e;injection h with h;injection h with h1 h;subst h1;subst h
   match vals,h2 with
   | u::us,h2=>
    obtain ⟨vals',k1,k2⟩:=C4O e h2.2;refine ⟨u::vals',⟨h2.1,k1⟩,?_⟩;have hne:∃ a b,vals' = a::b:=by
     cases vals' with
     | nil=>
      rw [k2] at h2;exact h2.2.elim
     | cons a b=>exact ⟨a,b,rfl⟩
    obtain ⟨a,b,rfl⟩:=hne;rw [k2];rfl
  ·cases h
def C7G(P:Program)(f g:Nat)(F:Fn):Prop:=
 ∀ x y,F.fn x=some y->∀ (w:World) (Z:Col) (pls:Nat->Plc) (args:List Value),ArgsC w Z pls 0 F.ps x args->
  Calls P f (B9u g args).toArray w fun e w'=>∃ Z' vals,e=.returned (pack vals)/\Keeps w w' Z Z'/\Fore w w' Z Z'/\Later w w'/\B8J w' Z' pls F.ps args 0 F.res y vals
def A41(P:Program)(Γ:List (Nat×Fn)):Prop:=∀ p∈Γ,(Nat.blt p.1 1000000=true/\Enters P p.1/\A0O P p.1 p.2)\/
 ∃ f g,p.1=1000000*(g+1)+f/\Nat.blt f 1000000=true/\Enters P f/\C7G P f g p.2
theorem B9H{P:Program}{Γ:List (Nat×Fn)}(h:A41 P Γ){f:Nat}{F:Fn}(hf:Nat.blt f 1000000=true)(hm:(f,F)∈Γ):Enters P f/\A0O P f F:=by
 rcases h _ hm with ⟨_,h⟩ | ⟨f',g,e,_⟩
 ·exact h
 ·have h1:f<1000000:=L4.mp hf;have e':f=1000000*(g+1)+f':=e;omega
theorem C98{P:Program}{Γ:List (Nat×Fn)}(h:A41 P Γ){f g:Nat}{F:Fn}(hf:Nat.blt f 1000000=true)(hm:(1000000*(g+1)+f,F)∈Γ):Enters P f/\C7G P f g F:=by
 have h1:f<1000000:=L4.mp hf;rcases h _ hm with ⟨hb,_⟩ | ⟨f',g',e,hf',h2⟩
 ·have hb:1000000*(g+1)+f<1000000:=L4.mp hb;omega
 ·have h3:f'<1000000:=L4.mp hf';have e':1000000*(g+1)+f=1000000*(g'+1)+f':=e;have:f' = f:=by omega
  have:g' = g:=by omega
  subst_vars
  exact h2
def B30:List (Bool×List Lf)->AV
 | []=>.und
 | [(true,ls)]=>.agg ls
 | [(false,[l])]=>.one l
 | ps=>.tup ps
theorem C5L{s:St}{m:Mem}{ps:List (Bool×List Lf)}{vs:List Value}(h:All2 (C6F s m) ps vs):AVC s m (B30 ps) (pack vs):=by
 cases ps with
 | nil=>cases vs with
  | nil=>rfl
  | cons _ _=>exact h.elim
 | cons p ps=>
  cases vs with
  | nil=>exact h.elim
  | cons v vs=>
   cases ps with
   | cons p2 ps=>
    cases vs with
    | nil=>exact h.2.elim
    | cons v2 vs=>
     obtain ⟨g,ls⟩:=p;have e1:B30 ((g,ls)::p2::ps)=.tup ((g,ls)::p2::ps):=by unfold B30;split<;>simp_all
     rw [e1];exact ⟨v::v2::vs,rfl,h⟩
   | nil=>
    have:vs = []:=by cases vs with
     | nil=>rfl
     | cons _ _=>exact h.2.elim
    subst this;obtain ⟨g,ls⟩:=p;have h1:=h.1;cases g with
    | true=>
     obtain ⟨cs,rfl,hc⟩:=h1;exact ⟨cs,rfl,hc⟩
    | false=>
     obtain ⟨l,e,hc⟩:=h1;simp only at e;subst e;exact hc
def B5O(L:Nat)(F:Fn)(hd:List Hd)(bx:List Bx):List (Nat×Nat):=C4L L 0 F.res++(C7A L bx 0 F.ps++C5J hd)
structure D0d (L:Nat) (F:Fn) (hd:List Hd) (bo:List Nat) (bx:List Bx):Prop where
 tg:nodupB ((A8u hd bx).map (·.1))=true
 bk:nodupB ((B5O L F hd bx).map (·.1))=true
 lent:∀ b∈bo,∀ h∈hd,h.id≠b
 ix:nodupB (bx.map (·.i))=true
 rs:bo = []\/((∀ r∈F.res,r.k.noRs=true)/\B10 K.noRs F.ps=true)
 nr:F.res.length<=16
 np:F.ps.length<=16
 sr:∀ r∈F.res,B3g r.k=true
 sp:∀ p∈F.ps,B3g p.k=true
def isNil{α:Type}:List α->Bool
 | []=>true
 | _=>false
def C31(L:Nat)(F:Fn)(hd:List Hd)(bo:List Nat)(bx:List Bx):Bool:=
 nodupB ((A8u hd bx).map (·.1))&&(nodupB ((B5O L F hd bx).map (·.1))&&(bo.all (fun b=>hd.all fun h=>!(Nat.beq h.id b))&&(nodupB (bx.map (·.i)) &&
  ((isNil bo||(F.res.all (fun r=>r.k.noRs)&&B10 K.noRs F.ps))&&(Nat.ble F.res.length 16&&(Nat.ble F.ps.length 16&&(F.res.all (fun r=>B3g r.k)&&F.ps.all fun p=>B3g p.k)))))))
theorem C5M{L:Nat}{F:Fn}{hd:List Hd}{bo:List Nat}{bx:List Bx}(h:C31 L F hd bo bx=true):D0d L F hd bo bx:=by
 simp only [C31,B3,I9] at h;obtain ⟨h1,h2,h3,h4,h5,h6,h7,h8,h9⟩:=h;refine ⟨h1,h2,fun b hb g hg e=>?_,h4,?_,D5 h6,D5 h7,fun r hr=>C8.1 h8 r hr,fun p hp=>C8.1 h9 p hp⟩
 ·have:=C8.1 (C8.1 h3 b hb) g hg;rw [e,A0e] at this;cases this
 ·rcases h5 with h5 | ⟨h5,h10⟩
  ·cases bo with
   | nil=>exact .inl rfl
   | cons _ _=>cases h5
  ·exact .inr ⟨fun r hr=>C8.1 h5 r hr,h10⟩
def A0U(L:Nat)(F:Fn)(y:Ts (outs F.res F.ps))(N:List Loc):List Loc:=(A39 L 0 F.res y).map (·.1)++N
def C7H(d:Option Nat)(v:AV):St:=match d with
 | none=> []
 | some d=> [(.t d,some (.t v))]
def high:Loc->Bool
 | .r id=>Nat.ble 4096 id
 | .b id=>Nat.ble 4096 id
 | _=>true
def P3(d:Option Nat):Nat:=match d with
 | some d=>d+1
 | none=>1
def B9v{R:Type}(cfg:Cfg)(s:St)(d:Option Nat)(F:Fn)(vs:List AV)(rx:Rds)(U:Ke R):Option R:=
 match A15 cfg s 0 F.ps vs with
 | some (x,hd,bo,bx,rds)=>match C31 (P3 d) F hd bo bx with
  | true=>B1 (F.fn x) fun y=>match A9a s (P3 d) hd bx 0 F.ps (B6G F.res y) with
   | some (W,N)=>match hd.all (fun h=>!(B2O (A0U (P3 d) F y N) (.r h.id)))&&bx.all (fun z=>!(B2O (A0U (P3 d) F y N) (.b z.b)))&&(A0U (P3 d) F y N).all high with
    | true=>U ⟨rx++rds,C7H d (B30 (A6g (P3 d) 0 F.res y))++((A39 (P3 d) 0 F.res y++W)++A37 (hd.map fun h=>Loc.r h.id)),A0U (P3 d) F y N⟩
    | false=>none
   | none=>none
  | false=>none
 | none=>none
def C4P{R:Type}(cfg:Cfg)(Γ:List (Nat×Fn))(s:St)(d:Option Nat)(f:Nat)(args:List Operand)(U:Ke R):Option R:=
 match Nat.blt f 1000000,B2d s args with
 | true,some (vs,rx)=>match C7F vs with
  | some (g,vs')=>match B5N Γ (1000000*(g+1)+f) with
   | some F=>B9v cfg s d F vs' rx U
   | none=>none
  | none=>match B5N Γ f with
   | some F=>B9v cfg s d F vs rx U
   | none=>none
 | _,_=>none
theorem B11:∀ {bx:List Bx} {z:Bx},nodupB (bx.map (·.i))=true->z∈bx->B2c bx z.i=some z
 | x::bx,z,hn,hm=>by
  obtain ⟨h1,h2⟩:=A7J hn;simp only [B2c];rcases B4.1 hm with e | hm
  ·subst e;rw [A0e]
  ·have hne:Nat.beq x.i z.i=false:=by
    cases e:Nat.beq x.i z.i with
    | false=>rfl
    | true=>
     have e:=A0 e;exact absurd (D0.2 ⟨z,hm,e.symm⟩) h1
   rw [hne];exact B11 h2 hm
theorem C17{W:List Loc}{l:Loc}(h:l∈W):B2O W l=true:=A24.2 ⟨l,h,Loc.eqb_iff.2 rfl⟩
theorem A7M{L:Nat}:∀ {res:List RK} {ps:List PK} {j:Nat} {y:Ts (outs res ps)},∀ p∈A39 L j res y,(∃ id row,p=(Loc.r id,some (LV.r row)))\/(∃ b c,p=(Loc.b b,some (LV.b c)))
 | [],ps,j,y,p,h=>nomatch h
 | .val g k::res,ps,j,y,p,h=>by
  simp only [A39] at h;rcases C9.1 h with h | h
  ·obtain ⟨q,_,rfl⟩:=D0.1 h;exact .inl ⟨_,_,rfl⟩
  ·exact A7M p h
 | .new k::res,ps,j,y,p,h=>by
  simp only [A39] at h;rcases B4.1 h with h | h
  ·exact .inr ⟨_,_,h⟩
  ·rcases C9.1 h with h | h
   ·obtain ⟨q,_,rfl⟩:=D0.1 h;exact .inl ⟨_,_,rfl⟩
   ·exact A7M p h
theorem B9I{R:Type}{P:Program}{cfg:Cfg}{s:St}{d:Option Nat}{f:Nat}{args:List Operand}{U:Ke R}{r:R}{F:Fn}{vs:List AV}{rx:Rds}(hent:Enters P f)(hread:Reads s rx)
  (hval:∀ {n:Nat} {w0:World} {Z0:Gh} {s':St} {a:Act} {m:Mem},Rel n w0 Z0 s' a m->Reads s' rx->∃ vals,All2 (AVC s' m) vs vals/\∀ x y,F.fn x=some y->∀ (Z:Col) (pls:Nat->Plc),ArgsC m.w Z pls 0 F.ps x vals->
   Calls P f (args.map a.eval).toArray m.w fun e w'=>∃ Z' rv,e=.returned (pack rv)/\Keeps m.w w' Z Z'/\Fore m.w w' Z Z'/\Later m.w w'/\B8J w' Z' pls F.ps vals 0 F.res y rv)
  (h:B9v cfg s d F vs rx U=some r) (at':Array TypeId) :
  OutG P s (.call {callee:=.value (.func f),args:=args.toArray,argTypes:=at'}) d U r:=by
 unfold B9v at h;split at h
 ·rename_i x hd bo bx rds hg;split at h
  ·rename_i hco;obtain ⟨y,hy,h⟩:=A14 h;split at h
   ·rename_i W N hW;split at h
    ·rename_i hnn;have hco:=C5M hco;refine ⟨_,h,Reads.app.2 ⟨hread,B0u hg⟩,fun n o ho hdst hd0 w0 Z0 s' a m hr hrd hnew next Q hn=>?_⟩
     clear h
     obtain ⟨hrd1,hrd2⟩:=Reads.app.1 hrd;obtain ⟨vals,hvals,hsound⟩:=hval hr hrd1
     let pls:Nat->Plc:=fun i=>match B2c bx i with
      | some z=>C2v m z
      | none=>⟨0,0,[],[]⟩
     have hpl:∀ z∈bx,pls z.i=C2v m z:=fun z hz=>by
      show (match B2c bx z.i with
       | some z=>C2v m z
       | none=>(⟨0,0,[],[]⟩:Plc))=_
      rw [B11 hco.ix hz]
     have hcal:CalOk m (M5 (A8u hd bx) (bo.map (2*·)) m.Z) hd bo:=by
      refine ⟨fun g hh p=>A36 m.w (T4 hco.tg (E2 _ (D0.2 ⟨g,hh,rfl⟩))) p,fun id hid=>B4W m.w (B3f fun hm=>?_) (D0.2 ⟨id,hid,rfl⟩) []⟩;obtain ⟨g,hh,e⟩:=D0.1 hm;injection e with e
      exact hco.lent id hid g hh e
     have hargs:=B70 hr (B4V m.w _ _ _) hg hrd2 hcal (fun z hz=>A36 m.w (T4 hco.tg (D3 _ (D0.2 ⟨z,hz,rfl⟩))) []) hpl hvals;have hcalls:=hsound x y hy _ pls hargs;have hrun:(execOp a.eval o).run P m.w=.ok (.enter f (args.map a.eval).toArray) m.w:=by
      have he:=hent (args.map a.eval).toArray m.w;have:(execOp a.eval o)=callFunc f ((args.map a.eval).toArray):=by
       simp [execOp,ho,resolve,invoke,Act.eval,Deferred.ofValue]
      rw [this];exact he
     simp only [Oper.wp,hrun,Oper.upon,hdst];refine hcalls.mono fun e w' hpost=>?_
     obtain ⟨Z',rv,rfl,hk,hf,hl,hout⟩:=hpost;show next (a.put d (pack rv)) w'
     simp only [B3] at hnn;have hroots:Roots w' Z' (A6d m.w.heap.size m.Z (M5 (A8u hd bx) (bo.map (2*·)) m.Z) Z' (B5O (P3 d) F hd bx)) (B5O (P3 d) F hd bx):=
      fun p hp q=>C57 hk hf (T4 hco.bk hp) q
     have hkeepB:bo = []->Keeps w' w' Z' (A6d m.w.heap.size m.Z (M5 (A8u hd bx) (bo.map (2*·)) m.Z) Z' (B5O (P3 d) F hd bx)):=fun e=>by
      subst e;exact C58 hf
     generalize hZ1:A6d m.w.heap.size m.Z (M5 (A8u hd bx) (bo.map (2*·)) m.Z) Z' (B5O (P3 d) F hd bx)=Z1 at *
     let m1:Mem:=⟨w',Z1,fun id=>if Loc.r id∈A0U (P3 d) F y N then
       (if id-4096*(P3 d)<2048 then (match rv[(id-4096*(P3 d)) / 128]? with
        | some v=>B73 w' v
        | none=> []).getD ((id-4096*(P3 d)) % 128) undef
       else ((A1R w' (pls ((id-4096*(P3 d)-2048) / 128)).g).drop (pls ((id-4096*(P3 d)-2048) / 128)).pre.length).getD ((id-4096*(P3 d)-2048) % 128) undef) else m.ρ id,
      fun b=>if Loc.b b∈A0U (P3 d) F y N then (match rv[(b-4096*(P3 d)) / 128]? with
       | some (.pointer (some ⟨b0,_,_⟩))=>⟨b0,C5K w' b0,[],[]⟩
       | _=>⟨0,0,[],[]⟩) else m.β b⟩
     have hN:C7E (P3 d) w' Z' Z1 pls rv (A0U (P3 d) F y N) m1:=by
      refine ⟨rfl,rfl,fun j c v hj hc hv hm=>?_,fun i c hi hc hm=>?_,fun j b hj hv hm=>?_⟩
      ·show (if Loc.r (nr (P3 d) j+c)∈A0U (P3 d) F y N then _ else _)=_;have e1:nr (P3 d) j+c-4096*(P3 d)=128*j+c:=by simp only [nr];omega
       have e2:(128*j+c) / 128=j:=by omega
       have e3:(128*j+c) % 128=c:=by omega
       rw [G0 hm,e1,e2,e3,G0 (by omega),hv]
      ·show (if Loc.r (np (P3 d) i+c)∈A0U (P3 d) F y N then _ else _)=_;have e1:np (P3 d) i+c-4096*(P3 d)=2048+(128*i+c):=by simp only [np];omega
       have e2:(2048+(128*i+c)-2048) / 128=i:=by omega
       have e3:(2048+(128*i+c)-2048) % 128=c:=by omega
       rw [G0 hm,e1,e2,e3,D6 (by omega)]
      ·show (if Loc.b (nr (P3 d) j)∈A0U (P3 d) F y N then _ else _)=_;have e1:nr (P3 d) j-4096*(P3 d)=128*j:=by simp only [nr];omega
       have e2:(128*j) / 128=j:=by omega
       rw [G0 hm,e1,e2,hv]
     have hρ:∀ id,Loc.r id ∉ A0U (P3 d) F y N->m1.ρ id=m.ρ id:=fun id hn=>D6 hn
     have hβ:∀ b,Loc.b b ∉ A0U (P3 d) F y N->m1.β b=m.β b:=fun b hn=>D6 hn
     have hβN:∀ b,Loc.b b∈A0U (P3 d) F y N->(m1.β b).pre = []/\(m1.β b).post = []:=by
      intro b hbn;show ((if Loc.b b∈A0U (P3 d) F y N then (match rv[(b-4096*(P3 d)) / 128]? with
       | some (.pointer (some ⟨b0,_,_⟩))=>(⟨b0,C5K w' b0,[],[]⟩:Plc)
       | _=>⟨0,0,[],[]⟩) else m.β b):Plc).pre = []/\((if Loc.b b∈A0U (P3 d) F y N then (match rv[(b-4096*(P3 d)) / 128]? with
       | some (.pointer (some ⟨b0,_,_⟩))=>(⟨b0,C5K w' b0,[],[]⟩:Plc)
       | _=>⟨0,0,[],[]⟩) else m.β b):Plc).post = []
      rw [G0 hbn];split<;>exact ⟨rfl,rfl⟩
     obtain ⟨hF1,hF2⟩:=B0w hr hg hrd2 hvals;have hE:C4N (P3 d) w' Z' Z1 pls rv (A0U (P3 d) F y N) m1 s s' m F.ps vals hd bx rds:=
      ⟨hN,hF1,hF2,hco.sp,hroots.right.right,fun g hh hm=>(by
       have:=C8.1 hnn.1.1 g hh;rw [C17 hm] at this;cases this),fun z hz hm=>(by
       have:=C8.1 hnn.1.2 z hz;rw [C17 hm] at this;cases this),hρ,hβ,hpl,hrd2⟩
     have hO:=C30 (s1:=(A39 (P3 d) 0 F.res y++W)++(A37 (hd.map fun h=>Loc.r h.id)++s')) hN hout (fun i v hi=>by rw [D9];exact hi) (by rw [D9];exact hco.nr) hco.sr
      (fun q hq=>hco.rs.elim (fun e=>.inr (hkeepB e)) (fun e=>.inl (e.1 q hq))) hroots.left (fun p hp=>E2 _ (D0.2 ⟨p,hp,rfl⟩))
     obtain ⟨o1,o2,o3⟩:=hO;obtain ⟨k1,k2,k3,k4,k5⟩:=B6H (s1:=(A39 (P3 d) 0 F.res y++W)++(A37 (hd.map fun h=>Loc.r h.id)++s')) hr hE o3 hW (fun idx p hp=>by rw [D9];exact hp) (fun idx v hv=>by rw [D9];exact hv)
      (by rw [D9];exact hco.np) (fun _=>trivial) (hco.rs.elim (fun e=>.inr (hkeepB e)) (fun e=>.inl e.2)) hroots.right.left (fun l hl=>D3 _ hl)
     have hWall:∀ l lv,(l,some lv)∈A39 (P3 d) 0 F.res y++W->C7B s' m m1 (A0U (P3 d) F y N) l lv:=by
      intro l lv hm;rcases C9.1 hm with hm | hm
      ·have hin:l∈A0U (P3 d) F y N:=E2 _ (D0.2 ⟨_,hm,rfl⟩);rcases A7M _ hm with ⟨id,row,e⟩ | ⟨b,c,e⟩
       ·injection e with e1 e2;injection e2 with e2;subst e1;subst e2;exact .inl hin
       ·injection e with e1 e2;injection e2 with e2;subst e1;subst e2;exact .inl hin
      ·exact k1 l lv hm
     have hsome:∀ p∈A39 (P3 d) 0 F.res y++W,p.2.isSome=true:=by
      intro p hp;rcases C9.1 hp with hp | hp
      ·rcases A7M _ hp with ⟨id,row,e⟩ | ⟨b,c,e⟩<;>rw [e]<;>rfl
      ·exact k3 p hp
     have hnewW:∀ l∈A0U (P3 d) F y N,inW (A39 (P3 d) 0 F.res y++W) l=true:=by
      intro l hl;simp only [inW,A0i,I9];rcases C9.1 hl with hl | hl
      ·obtain ⟨p,hp,rfl⟩:=D0.1 hl;exact .inl (A24.2 ⟨p,hp,Loc.eqb_iff.2 rfl⟩)
      ·exact .inr (k4 l hl)
     have hbxW:∀ z∈bx,inW (A39 (P3 d) 0 F.res y++W) (.b z.b)=true:=by
      intro z hz;obtain ⟨idx,k,c,hfz⟩:=hF2 z hz;obtain ⟨z',g1,g2⟩:=k5 idx k hfz.pos;rw [<- hfz.i,B11 hco.ix hz] at g1;injection g1 with g1;subst g1
      simp only [inW,A0i,I9] at g2 ⊢;exact .inr g2
     have hX:=C4M (W:=A39 (P3 d) 0 F.res y++W) (bk:=B5O (P3 d) F hd bx) (m1:=m1) hr hk hf rfl hZ1.symm hnew hρ hβ hWall;have hR:=C95 (bk:=B5O (P3 d) F hd bx) (m1:=m1) hr hk hf hl rfl hZ1.symm hnew hρ hβ hβN hWall hsome (fun id hm=>D5 (C8.1 hnn.2 _ hm)) (fun b hm=>D5 (C8.1 hnn.2 _ hm)) hnewW hbxW (fun l lv hm=>(C9.1 hm).elim (o1 l lv) (k2 hX l lv));refine hn _ m1 ?_;cases d with
     | none=>
      have e:(C7H none (B30 (A6g (P3 none) 0 F.res y))++((A39 (P3 none) 0 F.res y++W)++A37 (hd.map fun h=>Loc.r h.id)))++s' = (A39 (P3 none) 0 F.res y++W)++(A37 (hd.map fun h=>Loc.r h.id)++s'):=by
       simp only [C7H,F6,A7]
      rw [e];exact hR
     | some i=>
      have e:(C7H (some i) (B30 (A6g (P3 (some i)) 0 F.res y))++((A39 (P3 (some i)) 0 F.res y++W)++A37 (hd.map fun h=>Loc.r h.id)))++s' = (.t i,some (.t (B30 (A6g (P3 (some i)) 0 F.res y))))::((A39 (P3 (some i)) 0 F.res y++W)++(A37 (hd.map fun h=>Loc.r h.id)++s')):=by
       simp only [C7H,C7,F6,A7]
      rw [e];exact hR.put (hd0 i rfl) (C5L o2)
    ·cases h
   ·cases h
  ·cases h
 ·cases h
theorem C18{R:Type}{P:Program}{cfg:Cfg}{Γ:List (Nat×Fn)}(hΓ:A41 P Γ){s:St}{d:Option Nat}{f:Nat}{args:List Operand}{U:Ke R}{r:R}(h:C4P cfg Γ s d f args U=some r)(at':Array TypeId) :
  OutG P s (.call {callee:=.value (.func f),args:=args.toArray,argTypes:=at'}) d U r:=by
 unfold C4P at h;split at h
 ·rename_i vs rx hb hvs;split at h
  ·rename_i g vs' hu;split at h
   ·rename_i F hF;obtain ⟨hent,hs⟩:=C98 hΓ hb (B2A hF);refine B9I hent (A7L hvs) (fun hr hrd=>?_) h at';obtain ⟨vals',k1,k2⟩:=C4O hu (B3i hr hvs hrd);exact ⟨vals',k1,fun x y hy Z pls ha=>by rw [k2];exact hs x y hy _ Z pls _ ha⟩
   ·cases h
  ·split at h
   ·rename_i F hF;obtain ⟨hent,hs⟩:=B9H hΓ hb (B2A hF);exact B9I hent (A7L hvs) (fun hr hrd=>⟨_,B3i hr hvs hrd,fun x y hy Z pls ha=>hs x y hy _ Z pls _ ha⟩) h at'
   ·cases h
 ·cases h
def D0e{R:Type}(s:St)(x y:Operand)(U:Kp R):Option R:=
 match L1 s x,L1 s y with
 | some (.one (.int k a),rx),some (.one (.int _ b),ry)=>U (rx++ry) [] (.one (.int k (bif decide (b<a) then b else a)))
 | _,_=>none
def D0f{R:Type}(s:St)(x y:Operand)(U:Kp R):Option R:=
 match L1 s x,L1 s y with
 | some (.one (.int k a),rx),some (.one (.int _ b),ry)=>U (rx++ry) [] (.one (.int k (bif decide (b>a) then b else a)))
 | _,_=>none
theorem C7I{α:Type}{p:Prop} [Decidable p] (x y:α):(bif decide p then x else y)=if p then x else y:=by
 by_cases h:p<;>simp [h]
theorem C99{R:Type}{P:Program}{s:St}{x y:Operand}{U:Kp R}{r:R}(h:D0e s x y U=some r)(ts:Array TypeId) :
  OutP P s (.call {callee:=.builtin .min,args:=#[x,y],argTypes:=ts}) U r:=by
 unfold D0e at h;split at h
 ·rename_i k a rx k' b ry ex ey;refine .mk' _ _ h (Reads.app.2 ⟨B9 ex,B9 ey⟩) fun n0 w0 Z0 s' ac m oo ho hr hrd=>⟨_,?_,rfl⟩
  have hx:ac.eval x=.int k a:=D8 ex hr (Reads.app.1 hrd).1;have hy:ac.eval y=.int k' b:=D8 ey hr (Reads.app.1 hrd).2;simp [execOp,ho,hx,hy,resolve,invoke,builtin,C4,run_min_int2,C7I]
 ·cases h
theorem C9A{R:Type}{P:Program}{s:St}{x y:Operand}{U:Kp R}{r:R}(h:D0f s x y U=some r)(ts:Array TypeId) :
  OutP P s (.call {callee:=.builtin .max,args:=#[x,y],argTypes:=ts}) U r:=by
 unfold D0f at h;split at h
 ·rename_i k a rx k' b ry ex ey;refine .mk' _ _ h (Reads.app.2 ⟨B9 ex,B9 ey⟩) fun n0 w0 Z0 s' ac m oo ho hr hrd=>⟨_,?_,rfl⟩
  have hx:ac.eval x=.int k a:=D8 ex hr (Reads.app.1 hrd).1;have hy:ac.eval y=.int k' b:=D8 ey hr (Reads.app.1 hrd).2;simp [execOp,ho,hx,hy,resolve,invoke,builtin,C4,run_max_int2,C7I]
 ·cases h
def B9J(flds:List (Nat×Nat×Bool)):List Lf->List (Nat×List Lf)->Option (List Lf)
 | ls,[]=>some ls
 | ls,(i,vs)::rest=>match flds[i]? with
  | some (off,size,_)=>match Nat.beq vs.length size,Nat.ble (off+vs.length) ls.length with
   | true,true=>B9J flds (ls.take off++vs++ls.drop (off+vs.length)) rest
   | _,_=>none
  | none=>none
def A9d(s:St):List (Nat×Operand)->Option (List (Nat×List Lf)×Rds)
 | []=>some ([],[])
 | (i,x)::ps=>match L1 s x,A9d s ps with
  | some (v,rx),some (vs,r)=>match avL v with
   | some ls=>some ((i,ls)::vs,rx++r)
   | none=>none
  | _,_=>none
theorem A9e{s:St}:∀ {ps:List (Nat×Operand)} {vs:List (Nat×List Lf)} {rd:Rds},A9d s ps=some (vs,rd)->Reads s rd
 | [],vs,rd,h=>by simp only [A9d] at h;injection h with h;injection h with _ h;subst h;exact Reads.nil _
 | (i,x)::ps,vs,rd,h=>by
  simp only [A9d] at h;split at h
  ·rename_i e1 e2;split at h
   ·injection h with h;injection h with _ h;subst h
    exact Reads.app.2 ⟨B9 e1,A9e e2⟩
   ·cases h
  ·cases h
def PtC(s:St)(m:Mem)(p:Nat×List Lf)(q:Nat×Value):Prop:=p.1=q.1/\∃ cs:List Value,q.2.cells=cs.toArray/\All2 (LfC s m) p.2 cs
theorem B4c{s s':St}{n:Nat}{w0:World}{Z0:Gh}{a:Act}{m:Mem}(hr:Rel n w0 Z0 s' a m):∀ {ps:List (Nat×Operand)} {vs:List (Nat×List Lf)} {rd:Rds},A9d s ps=some (vs,rd)->Reads s' rd->
  All2 (PtC s' m) vs (ps.map fun p=>(p.1,a.eval p.2))
 | [],vs,rd,h,_=>by simp only [A9d] at h;injection h with h;injection h with h _;subst h;trivial
 | (i,x)::ps,vs,rd,h,hrd=>by
  simp only [A9d] at h;split at h
  ·rename_i e1 e2;split at h
   ·rename_i ls el;injection h with h;injection h with h1 h2;subst h1;subst h2
    obtain ⟨g1,g2⟩:=Reads.app.1 hrd;obtain ⟨cs,hcs,hl⟩:=B0o el (D8 e1 hr g1);exact ⟨⟨rfl,cs,hcs,hl⟩,B4c hr e2 g2⟩
   ·cases h
  ·cases h
theorem C5N(off:Nat)(l:List Value)(cs:Array Value)(h:off+l.length<=cs.size) :
  (l.toArray.zipIdx.foldl (fun cs (c,j)=>cs.setIfInBounds (off+j) c) cs).toList=spl cs.toList off l:=by
 have key:∀ (l:List Value) (st:Nat) (cs:Array Value),off+st+l.length<=cs.size->((l.zipIdx st).foldl (fun cs (p:Value×Nat)=>cs.setIfInBounds (off+p.2) p.1) cs).toList=spl cs.toList (off+st) l:=by
  intro l
  induction l with
  | nil=>intro st cs _;simp [spl]
  | cons v l ih=>
   intro st cs h;simp only [G9] at h;rw [List.zipIdx_cons,List.foldl_cons,ih (st+1) _ (by simp;omega)];apply A01;intro q;have hl1:off+(st+1)+l.length<=(cs.setIfInBounds (off+st) v).toList.length:=by simp;omega
   have hl2:off+st+(v::l).length<=cs.toList.length:=by simp;omega
   rw [A65 hl1,A65 hl2];simp only [A1K,G9];by_cases h1:q<off+st
   ·rw [G0 (by omega),G0 h1,B1t (by omega)]
   ·rw [D6 h1];by_cases h2:q=off+st
    ·subst h2;rw [G0 (by omega),G0 (by omega),List.getElem?_set_self (by simp;omega),Nat.sub_self];rfl
    ·rw [D6 (by omega)];by_cases h3:q<off+(st+1)+l.length
     ·rw [G0 h3,G0 (by omega)];rw [show q-(off+st)=(q-(off+(st+1)))+1 by omega,List.getElem?_cons_succ]
     ·rw [D6 h3,D6 (by omega),B1t (by omega)]
 have:=key l 0 cs (by omega);rw [J0] at this;rw [<- this,<- Array.foldl_toList];simp
theorem B74{place:Nat->Option (Nat×Nat)}{flds:List (Nat×Nat×Bool)}(hp:∀ i f,flds[i]? = some f->place i=some (f.1,f.2.1)){s:St}{m:Mem}:∀ {vs:List (Nat×List Lf)} {qs:List (Nat×Value)} {ls ls':List Lf} {cs:Array Value},
  B9J flds ls vs=some ls'->All2 (PtC s m) vs qs->All2 (LfC s m) ls cs.toList->∃ cs',Instr.fill place cs qs=some cs'/\All2 (LfC s m) ls' cs'.toList
 | [],qs,ls,ls',cs,h,hq,hl=>by
  cases qs with
  | cons _ _=>exact hq.elim
  | nil=>simp only [B9J] at h;injection h with h;subst h;exact ⟨cs,rfl,hl⟩
 | (i,us)::vs,qs,ls,ls',cs,h,hq,hl=>by
  cases qs with
  | nil=>exact hq.elim
  | cons q qs=>
   obtain ⟨j,v⟩:=q;obtain ⟨⟨e,us',hus,hu⟩,hq⟩:=hq;simp only at e hus hu;subst e;simp only [B9J] at h;split at h
   ·rename_i off size ag ef;split at h
    ·rename_i e1 e2;have e1:=A0 e1;have e2:=D5 e2;have hlen:=hl.len;have hul:=hu.len;have hcl:cs.toList.length=cs.size:=D4;have hvs:v.cells.size=us'.length:=by rw [hus];simp
     have hfit:off+us'.length<=cs.size:=by omega
     have hsp:=C5N off us' cs hfit;obtain ⟨cs',h1,h2⟩:=B74 hp (cs:=us'.toArray.zipIdx.foldl (fun cs (c,j)=>cs.setIfInBounds (off+j) c) cs) h hq (by
      rw [hsp];unfold spl;rw [<- hul];exact ((hl.take _).app hu).app (hl.drop _))
     refine ⟨cs',?_,h2⟩;simp only [Instr.fill,hp _ _ ef];rw [D6 (by simp;omega),hus];exact h1
    ·cases h
   ·cases h
theorem B9K{P:Program}:∀ {fs:List Field} {fl:List (Nat×Nat×Bool)},fs.length=fl.length->(∀ (j:Nat) f,fl[j]? = some f->∃ fd,fs[j]? = some fd/\B6U P fd f)->
  fs.mapM (fun f=>(P.info? f.type).map fun i=>(f.offset,i.size))=some (fl.map fun f=>(f.1,f.2.1))
 | [],[],_,_=>by simp
 | [],_::_,h,_=>by simp at h
 | _::_,[],h,_=>by simp at h
 | fd::fs,f::fl,h,hf=>by
  obtain ⟨fd',e,hk⟩:=hf 0 f rfl;simp at e;subst e;obtain ⟨i,hi,hs⟩:=hk.info;have ih:=B9K (P:=P) (fs:=fs) (fl:=fl) (by simpa using h) (fun j f' hj=>by simpa using hf (j+1) f' (by simpa using hj));simp only [List.mapM_cons,hi,L7,ih,hk.off,hs,G3];rfl
def C32{R:Type}(cfg:Cfg)(s:St)(t:Nat)(parts:Array (Nat×Operand))(U:Kp R):Option R:=
 match cfg.ty t,A9d s parts.toList with
 | some ti,some (vs,rds)=>match ti.agg,B9J ti.flds (zl ti.k) vs with
  | true,some ls=>U rds [] (.agg ls)
  | _,_=>none
 | _,_=>none
theorem C5O{R:Type}{P:Program}{cfg:Cfg}(hc:J9 P cfg){s:St}{t:Nat}{parts:Array (Nat×Operand)}{U:Kp R}{r:R}(h:C32 cfg s t parts U=some r):OutP P s (.build t parts) U r:=by
 unfold C32 at h;split at h
 ·rename_i ti vs rds et ep;split at h
  ·rename_i ls ea ef;refine .mk' rds _ h (A9e ep) fun n0 w0 Z0 s' a m oo ho hr hrd=>?_
   obtain ⟨f,z,hi,hs,hb,hz,hzc,hza⟩:=hc.info et;obtain ⟨fs,hu,hfl,hfd⟩:=hc.st et ea;have hpl:=B9K (P:=P) (fs:=fs.toList) (fl:=ti.flds) (by simpa using hfl) (fun j f hj=>by
    obtain ⟨fd,h1,h2⟩:=hfd j f hj;exact ⟨fd,by rw [J1];exact h1,h2⟩)
   obtain ⟨cs',hfill,hcs⟩:=B74 (place:=fun x=>((ti.flds.map fun f=>(f.1,f.2.1)).toArray)[x]?) (s:=s') (m:=m) (fun i f hf=>by simp [hf]) (cs:=z.cells) ef (B4c hr ep hrd) (by
    rw [hzc];exact B6c _ _ _)
   have hbuilt:P.built t (parts.map fun (i,x)=>(i,a.eval x)).toList=some cs':=by
    unfold Program.built;simp only [hi,hu,hz,hpl];have:(parts.map fun (i,x)=>(i,a.eval x)).toList=parts.toList.map fun p=>(p.1,a.eval p.2):=by simp
    rw [this];exact hfill
   refine ⟨.agg cs',?_,cs'.toList,by simp,hcs⟩;simp [execOp,ho,C4,run_build m.w t _ cs' hbuilt]
  ·cases h
 ·cases h
def B9w{R:Type}(cfg:Cfg)(s:St)(t:Nat)(parts:Array (Nat×Operand))(U:Kp R):Option R:=
 match cfg.ar t,A9d s parts.toList with
 | some (n,e),some (vs,rds)=>match cfg.ty e with
  | some ti=>match B9J ((List.range n).map fun i=>(i*ti.k.sz,ti.k.sz,false)) (List.replicate n (zl ti.k)).flatten vs with
   | some ls=>U rds [] (.agg ls)
   | none=>none
  | none=>none
 | _,_=>none
theorem C7J(k:K)(s:St)(m:Mem):∀ n:Nat,All2 (LfC s m) (List.replicate n (zl k)).flatten (List.replicate n (zc k)).flatten
 | 0=>trivial
 | n+1=>by simp only [T1,A81];exact All2.app (B6c k s m) (C7J k s m n)
theorem C33{R:Type}{P:Program}{cfg:Cfg}(hc:J9 P cfg){s:St}{t:Nat}{parts:Array (Nat×Operand)}{U:Kp R}{r:R}(h:B9w cfg s t parts U=some r):OutP P s (.build t parts) U r:=by
 unfold B9w at h;split at h
 ·rename_i n e vs rds et ep;split at h
  ·rename_i ti eti;split at h
   ·rename_i ls ef;refine .mk' rds _ h (A9e ep) fun n0 w0 Z0 s' a m oo ho hr hrd=>?_
    obtain ⟨hu,f,z,hi,hz,hzc⟩:=hc.ar et;obtain ⟨f2,_,hi2,hs2,_⟩:=hc.info eti;have hzc:=hzc ti eti;obtain ⟨cs',hfill,hcs⟩:=B74 (place:=fun i=>some (i*f2.size,f2.size)) (s:=s') (m:=m) (fun i f hf=>by
     rw [J8] at hf;cases hq:(List.range n)[i]? with
     | none=>rw [hq] at hf;cases hf
     | some q=>
      rw [hq] at hf;have hqi:q=i:=by
       rw [C3] at hq;obtain ⟨_,hq⟩:=hq;rw [List.getElem_range] at hq;exact hq.symm
      subst hqi;simp only [L7,H5] at hf;subst hf;simp [hs2]) (cs:=z.cells) ef (B4c hr ep hrd) (by
     rw [hzc];exact C7J _ _ _ _)
    have hparts:(parts.map fun (i,x)=>(i,a.eval x)).toList=parts.toList.map fun p=>(p.1,a.eval p.2):=by simp
    refine ⟨.agg cs',?_,cs'.toList,by simp,hcs⟩;have hrun:(Instr.build t (parts.map fun (i,x)=>(i,a.eval x))).run P m.w=.ok (.agg cs') m.w:=by
     simp only [Instr.build,hparts];simp [C4,zeroValue,sizeOf,typeInfo,hi,hz,hi2,R9 hu,hfill]
    simp [execOp,ho,C4,hrun]
   ·cases h
  ·cases h
 ·cases h
def C00{R:Type}(cfg:Cfg)(s:St)(t:Nat)(x i:Operand)(U:Kp R):Option R:=
 match L1 s x,L1 s i,cfg.ar t with
 | some (.agg ls,rx),some (.one (.int _ j),ri),some (n,e)=>match strs ls,A47 cfg e with
  | some xs,true=>match Nat.beq xs.length n with
   | true=>bif decide (0<=j) then bif decide (j<(n:Int)) then U (rx++ri) [] (.one (.str (rd .str xs j))) else none else none
   | false=>none
  | _,_=>none
 | _,_,_=>none
theorem C34{R:Type}{P:Program}{cfg:Cfg}(hc:J9 P cfg){s:St}{t:Nat}{x i:Operand}{U:Kp R}{r:R}(h:C00 cfg s t x i U=some r):OutP P s (.index t x i) U r:=by
 unfold C00 at h;split at h
 ·rename_i ls rx Ui j ri n e ex ei et;split at h
  ·rename_i xs es est;split at h
   ·rename_i hn;have hn:=A0 hn;obtain ⟨h0,h⟩:=G7 h;obtain ⟨h1,h⟩:=G7 h;have h0:=A8 h0;have h1:=A8 h1;refine .mk' _ _ h (Reads.app.2 ⟨B9 ex,B9 ei⟩) fun n0 w0 Z0 s' a m oo ho hr hrd=>⟨.string (rd .str xs j),?_,rfl⟩
    obtain ⟨cs,hx,hcs⟩:=D8 ex hr (Reads.app.1 hrd).1;have hi:a.eval i=.int Ui j:=D8 ei hr (Reads.app.1 hrd).2;have hcv:=B68 es hcs;have hu:=A34 hc est;have hlt:j.toNat<xs.length:=by omega
    have hg:cs.toArray[j.toNat]? = some (.string (rd .str xs j)):=by
     rw [A8l hlt,hcv];simp [hlt]
    obtain ⟨hua,f,z,hif,hz,_⟩:=hc.ar et;have hsz:∃ f2,P.info? e=some f2/\f2.size=1:=by
     unfold A47 at est;split at est
     ·rename_i ti eti;obtain ⟨f2,_,g1,g2,_⟩:=hc.info eti;exact ⟨f2,g1,g2⟩
     ·cases est
    obtain ⟨f2,hi2,hs2⟩:=hsz;have hr1:(Instr.index t (.agg cs.toArray) (.int Ui j)).run P m.w=.ok (.string (rd .str xs j)) m.w:=by
     simp [Instr.index,asIntOf,C4,R9 hua,h0,h1,sizeOf,typeInfo,hi2,hs2,part,isAgg,R9 hu];have hg2:cs[j.toNat]? = some (.string (rd .str xs j)):=by simpa using hg
     rw [hg2];simp
    simp only [execOp,ho,hx,hi,C4,hr1,H2,A3r]
   ·cases h
  ·cases h
 ·cases h
def C01{R:Type}(cfg:Cfg)(s:St)(neg:Bool)(t:Nat)(x:Operand)(U:Kp R):Option R:=
 match L1 s x,cfg.el t with
 | some (.one l,rx),some _=>match E9 cfg s t l with
  | some (sl,rl)=>bif decide (0<sl.xs.length) then U (rx++rl) [] (.one (.bool neg)) else U (rx++rl) [] (.one .anyb)
  | none=>none
 | _,_=>none
theorem C5P{P:Program}{t e:TypeId}(hu:P.underlying t=some (.slice e))(A:Option Addr)(n c:Nat)(w:World):(binOp .eql t (.slice A n c) (.slice none 0 0)).run P w=.ok (.bool A.isNone) w:=by
 simp only [binOp];have h:(Op.equal t (.slice A n c) (.slice none 0 0)).run P w=.ok A.isNone w:=by
  unfold Op.equal Op.maxDepth;unfold Op.equalIn;cases A<;>simp [R9 hu]
 simp [h]
theorem C5Q{P:Program}{t e:TypeId}(hu:P.underlying t=some (.slice e))(A:Option Addr)(n c:Nat)(w:World):(binOp .neq t (.slice A n c) (.slice none 0 0)).run P w=.ok (.bool (!A.isNone)) w:=by
 simp only [binOp];have h:(Op.equal t (.slice A n c) (.slice none 0 0)).run P w=.ok A.isNone w:=by
  unfold Op.equal Op.maxDepth;unfold Op.equalIn;cases A<;>simp [R9 hu]
 simp [h]
def B75:Bool->BinOp
 | true=>.neq
 | false=>.eql
theorem C9B{P:Program}{t e:TypeId}(hu:P.underlying t=some (.slice e))(neg:Bool)(A:Option Addr)(n c:Nat)(w:World):(binOp (B75 neg) t (.slice A n c) (.slice none 0 0)).run P w=.ok (.bool (Bool.xor neg A.isNone)) w:=by
 cases neg with
 | true=>rw [B75,C5Q hu];simp
 | false=>rw [B75,C5P hu];simp
theorem B9L{R:Type}{P:Program}{cfg:Cfg}(hc:J9 P cfg){s:St}{neg:Bool}{t:Nat}{x:Operand}{U:Kp R}{r:R}(h:C01 cfg s neg t x U=some r)(yt:Nat) :
  OutP P s (.binOp (B75 neg) t x (.const (.slice none 0 0)) yt) U r:=by
 unfold C01 at h;split at h
 ·rename_i l rx e ex et;split at h
  ·rename_i sl rl ec;have key:∀ (n0:Nat) (w0:World) (Z0:Gh) (s':St) (a:Act) (m:Mem) (o:Oper),o.op=.binOp (B75 neg) t x (.const (.slice none 0 0)) yt->Rel n0 w0 Z0 s' a m->Reads s' (rx++rl)->
     ∃ A:Option Addr,(0<sl.xs.length->A.isNone=false)/\(execOp a.eval o).run P m.w=.ok (.value (.bool (Bool.xor neg A.isNone))) m.w:=by
    intro n0 w0 Z0 s' a m o ho hr hrd;have hro:=B2q ec hr (Reads.app.1 hrd).2 (D8 ex hr (Reads.app.1 hrd).1);obtain ⟨A,c,e1,hl,_,hA⟩:=hro;injection e1 with e1 _
    refine ⟨A,fun hp=>?_,?_⟩
    ·obtain ⟨ad,rfl,_⟩:=hA hp;rfl
    ·have hg:(eqGuard (B75 neg) t x (.const (.slice none 0 0)) (.slice A sl.xs.length c) (.slice none 0 0)).run P m.w=.ok () m.w:=by
      cases neg<;>simp [B75,eqGuard]
     have he:a.eval (.const (.slice none 0 0))=.slice none 0 0:=rfl;simp [execOp,ho,e1,he,C4,hg,C9B (hc.el et)]
   cases hd:decide (0<sl.xs.length) with
   | true=>
    rw [hd] at h;refine .mk' _ _ h (Reads.app.2 ⟨B9 ex,A0k ec⟩) fun n0 w0 Z0 s' a m oo ho hr hrd=>?_
    obtain ⟨A,hA,hrun⟩:=key n0 w0 Z0 s' a m oo ho hr hrd;rw [hA (A8 hd)] at hrun;exact ⟨_,hrun,by simp [AVC,LfC]⟩
   | false=>
    rw [hd] at h;refine .mk' _ _ h (Reads.app.2 ⟨B9 ex,A0k ec⟩) fun n0 w0 Z0 s' a m oo ho hr hrd=>?_
    obtain ⟨A,hA,hrun⟩:=key n0 w0 Z0 s' a m oo ho hr hrd;exact ⟨_,hrun,_,rfl⟩
  ·cases h
 ·cases h
theorem C19{w:World}{g:Nat}{cur:Array Value}{e:TypeId}{fz:Nat×Nat}(hg:w.heap[g]? = some (.cells cur e fz))(hf:Thawed cur.size fz) :
  (w.freeze ⟨g,cur.size,none⟩ 1).heap[g]? = some (.cells cur e (cur.size,cur.size+1))/\∀ b,b≠g->(w.freeze ⟨g,cur.size,none⟩ 1).heap[b]? = w.heap[b]?:=by
 unfold World.freeze;rw [D6 (by decide)];constructor
 ·simp only [A44,Q7,hg,L7];rcases hf with rfl | rfl
  ·simp
  ·simp
 ·intro b hb;simp only [A44];rw [D6 (fun e=>hb e.symm)]
theorem C9C{P:Program}{w:World}{t e:TypeId}{g n c:Nat}{cur:Array Value}{e':TypeId}{fz:Nat×Nat}(ht:P.underlying t=some (.slice e))(he:P.underlying e=some (.int .u8))(hg:w.heap[g]? = some (.cells cur e' fz)) :
  (convert t t (.slice (some ⟨g,0,none⟩) n c)).run P w=.ok (.slice (some ⟨g,0,none⟩) n c) (w.freeze ⟨g,cur.size,none⟩ 1):=by
 have hsh:w.shape? g=some (e',cur.size):=by
  unfold World.shape?;rw [hg]
 simp [convert,F9 ht,F9 he,markStringish,hsh]
def D0g{R:Type}(cfg:Cfg)(s:St)(d a b:Nat)(x:Operand)(U:Ke R):Option R:=
 match L1 s x,cfg.el a with
 | some (.one (.own id),rx),some e=>match s.getR id,Nat.beq a b,C2a cfg e with
  | some r,true,some .u8=>bif decide (0<r.xs.length)&&Nat.beq r.k.sz 1 then U ⟨rx ++ [(.r id,.r r)],[(.t d,some (.t (.one (.own id)))),(.r id,some (.r ⟨r.e,r.k,r.xs,r.ver+1⟩))],[]⟩ else none
  | _,_,_=>none
 | _,_=>none
theorem C9D{R:Type}{P:Program}{cfg:Cfg}(hc:J9 P cfg){s:St}{d a b:Nat}{x:Operand}{U:Ke R}{r:R}(h:D0g cfg s d a b x U=some r):OutE P s (.convert a b x) d U r:=by
 unfold D0g at h;split at h
 ·rename_i id rx e ex et;split at h
  ·rename_i row er eab ek;have eab:=A0 eab;subst eab;obtain ⟨h0,h⟩:=G7 h;simp only [B3] at h0;obtain ⟨h0,hsz1⟩:=h0;have h0:=A8 h0;have hsz1:=A0 hsz1;have hread:Reads s [(Loc.r id,LV.r row)]:=by
    intro p hp;rw [A6.1 hp];exact St.getR_some.1 er
   refine ⟨_,h,Reads.app.2 ⟨B9 ex,hread⟩,fun n o ho hdst hd w0 Z0 s' ac m hr hrd hnew next Q hn=>?_⟩
   have hrow:s'.get (.r id)=some (.r row):=(Reads.app.1 hrd).2 (Loc.r id,LV.r row) A5;have hv:LfC s' m (.own id) (ac.eval x):=D8 ex hr (Reads.app.1 hrd).1;have hv:=hv.2 row hrow;obtain ⟨inner,hown,hcol,hels⟩:=hr.rw id row hrow;rcases hown.2 with ⟨_,hn0⟩ | ⟨g,cap,cur,fz,e0,_,hg,hfz,hnc,hcap,hcs,ht⟩
   ·omega
   ·have hk:P.underlying e=some (.int .u8):=B6A hc ek;have hrun:(execOp ac.eval o).run P m.w=.ok (.value (.slice (some ⟨g,0,none⟩) row.xs.length cap)) (m.w.freeze ⟨g,cur.size,none⟩ 1):=by
     have:=C9C (P:=P) (w:=m.w) (n:=row.xs.length) (c:=cap) (hc.el et) hk hg;simp [execOp,ho,hv,e0,this]
    obtain ⟨f1,f2⟩:=C19 hg hfz.1;have hcolg:=hcol g (by rw [e0];rfl);have hother:∀ b,(∀ q,m.Z b≠some (2*id::q))->b≠g:=fun b hq e=>hq [] (by rw [e];exact hcolg)
    have hels':∀ i (hi:i<row.xs.length),Ow row.k (m.w.freeze ⟨g,cur.size,none⟩ 1) m.Z ([2*id] ++ [i]) row.xs[i] ((inner.drop (i*row.k.sz)).take row.k.sz):=by
     intro i hi;refine Ow.move (hels i hi) (fun b q hb _=>⟨f2 b (fun e=>?_),hb⟩) (fun b hb _=>⟨f2 b (fun e=>?_),hb⟩)
     ·rw [e,hcolg] at hb;injection hb with hb
      simp at hb
     ·rw [e,hcolg] at hb;cases hb
    have h2:=hr.updRow (w':=m.w.freeze ⟨g,cur.size,none⟩ 1) hrow (row:=⟨row.e,row.k,row.xs,row.ver+1⟩) (fun b hb hq=>⟨f2 b (hother b hq),rfl⟩) (by simp [World.freeze]) (by simp [World.freeze]) (by simp [World.freeze]) (by simp [World.freeze]) rfl rfl (A4f _)
     ⟨inner,⟨hown.1,.inr ⟨g,cap,cur,_,e0,G6 _,f1,⟨.inr rfl,.inr hsz1⟩,hnc,hcap,hcs,ht⟩⟩,hcol,hels'⟩
    have h3:=h2.put (d:=d) (v:=.one (.own id)) (x:=.slice (some ⟨g,0,none⟩) row.xs.length cap) hd ⟨rfl,fun r2 hr2=>e0.symm⟩;simp only [Oper.wp,hrun,Oper.upon,hdst];exact hn _ _ h3
  ·cases h
 ·cases h
def N9:(k:K)->k.T->Nat->Option SL
 | .sl e k,xs,0=>some ⟨e,k,xs⟩
 | .pair a b,x,j=>match Nat.blt j a.sz with
  | true=>N9 a x.1 j
  | false=>N9 b x.2 (j-a.sz)
 | _,_,_=>none
def A8w:(k:K)->k.T->Nat->(k':K)->List k'.T->Option k.T
 | .sl _ k,_,0,k',ys=>A7I k' k ys
 | .pair a b,x,j,k',ys=>match Nat.blt j a.sz with
  | true=>match A8w a x.1 j k' ys with
   | some z=>some (z,x.2)
   | none=>none
  | false=>match A8w b x.2 (j-a.sz) k' ys with
   | some z=>some (x.1,z)
   | none=>none
 | _,_,_,_,_=>none
def M6:K->Nat->H9
 | .pair a b,j=>match Nat.blt j a.sz with
  | true=>0::M6 a j
  | false=>1::M6 b (j-a.sz)
 | _,_=> []
theorem B3j:∀ {k:K} {x:k.T} {off:Nat} {sl:SL} {w:World} {Z:Col} {P:H9} {cs:List Value},Ow k w Z P x cs->N9 k x off=some sl->
  ∃ v,cs[off]? = some v/\OwL (Ow sl.k w Z) sl.e sl.k.sz w Z (P++M6 k off) sl.xs v
 | .sl e k,xs,0,sl,w,Z,P,cs,h,hg=>by
  simp only [N9] at hg;injection hg with hg;subst hg
  obtain ⟨v,rfl,ho⟩:=h;exact ⟨v,rfl,by simpa [M6] using ho⟩
 | .sl e k,xs,_+1,sl,w,Z,P,cs,h,hg=>by simp [N9] at hg
 | .pair a b,x,j,sl,w,Z,P,cs,h,hg=>by
  obtain ⟨c0,c1,rfl,h0,h1⟩:=h;have hl:=h0.len;simp only [N9] at hg;split at hg
  ·rename_i hb;have hlt:j<a.sz:=by simpa [L4] using hb
   obtain ⟨v,e1,e2⟩:=B3j h0 hg;refine ⟨v,by rw [E3 (by omega)];exact e1,?_⟩;simp only [M6,hb];rw [show P++0::M6 a j=P ++ [0]++M6 a j by simp];exact e2
  ·rename_i hb;have hlt:¬ j<a.sz:=fun hh=>by rw [show Nat.blt j a.sz=true from L4.mpr hh] at hb;cases hb
   obtain ⟨v,e1,e2⟩:=B3j h1 hg;refine ⟨v,by rw [E5 (by omega),hl];exact e1,?_⟩;simp only [M6,hb];rw [show P++1::M6 b (j-a.sz)=P ++ [1]++M6 b (j-a.sz) by simp];exact e2
 | .int _,_,_,_,_,_,_,_,_,hg=>by simp [N9] at hg
 | .bool,_,_,_,_,_,_,_,_,hg=>by simp [N9] at hg
 | .fnc _,_,_,_,_,_,_,_,_,hg=>by simp [N9] at hg
 | .str,_,_,_,_,_,_,_,_,hg=>by simp [N9] at hg
 | .rs _ _,_,_,_,_,_,_,_,_,hg=>by simp [N9] at hg
 | .pa _ _,_,_,_,_,_,_,_,_,hg=>by simp [N9] at hg
def Others(w w':World)(Z Z':Col)(p:H9):Prop:=∀ b q,Z b=some q->(∀ r,q≠p++r)->b<w.heap.size->w'.heap[b]? = w.heap[b]?/\Z' b=some q
theorem Others.moves{w w':World}{Z Z':Col}{p R:H9}(h:Others w w' Z Z' p)(hne:∀ t r,R++t≠p++r):Moves w w' Z Z' R R:=fun b q hb hlt=>h b _ hb (fun r=>hne q r) hlt
theorem B3k:∀ {k:K} {x x':k.T} {off:Nat} {sl:SL} {w w':World} {Z Z':Col} {P:H9} {cs:List Value} {ys:List sl.k.T} {v:Value},Ow k w Z P x cs->N9 k x off=some sl->cs[off]? = some v->
  OwL (Ow sl.k w' Z') sl.e sl.k.sz w' Z' (P++M6 k off) ys v->Others w w' Z Z' (P++M6 k off)->Keeps w w' Z Z'->A8w k x off sl.k ys=some x'->Ow k w' Z' P x' cs
 | .sl e k,xs,x',0,sl,w,w',Z,Z',P,cs,ys,v,h,hg,hv,ho,hoth,hk,hs=>by
  simp only [N9] at hg;injection hg with hg;subst hg
  obtain ⟨v0,rfl,_⟩:=h;simp only [A9L,H5] at hv;subst hv;simp only [A8w] at hs;obtain ⟨ek,rfl⟩:=S5 hs;exact ⟨_,rfl,by simpa [M6] using ho⟩
 | .sl e k,xs,x',_+1,sl,w,w',Z,Z',P,cs,ys,v,h,hg,hv,ho,hoth,hk,hs=>by simp [N9] at hg
 | .pair a b,x,x',j,sl,w,w',Z,Z',P,cs,ys,v,h,hg,hv,ho,hoth,hk,hs=>by
  obtain ⟨c0,c1,rfl,h0,h1⟩:=h;have hl:=h0.len;simp only [N9] at hg;simp only [A8w] at hs;split at hg
  ·rename_i hb;have hlt:j<a.sz:=by simpa [L4] using hb
   rw [hb] at hs;simp only at hs;split at hs
   ·rename_i z hz;injection hs with hs;subst hs
    have e:P++M6 (.pair a b) j=P ++ [0]++M6 a j:=by simp [M6,hb]
    rw [e] at ho hoth;rw [E3 (by omega)] at hv;refine ⟨c0,c1,rfl,B3k h0 hg hv ho hoth hk hz,Ow.move h1 (hoth.moves fun t r hh=>?_) hk⟩;rw [A7,A7,A7] at hh;have:=A3J hh;simp at this
   ·cases hs
  ·rename_i hb;have hlt:¬ j<a.sz:=fun hh=>by rw [show Nat.blt j a.sz=true from L4.mpr hh] at hb;cases hb
   rw [hb] at hs;simp only at hs;split at hs
   ·rename_i z hz;injection hs with hs;subst hs
    have e:P++M6 (.pair a b) j=P ++ [1]++M6 b (j-a.sz):=by simp [M6,hb]
    rw [e] at ho hoth;rw [E5 (by omega),hl] at hv;refine ⟨c0,c1,rfl,Ow.move h0 (hoth.moves fun t r hh=>?_) hk,B3k h1 hg hv ho hoth hk hz⟩;rw [A7,A7,A7] at hh;have:=A3J hh;simp at this
   ·cases hs
 | .int _,_,_,_,_,_,_,_,_,_,_,_,_,_,hg,_,_,_,_,_=>by simp [N9] at hg
 | .bool,_,_,_,_,_,_,_,_,_,_,_,_,_,hg,_,_,_,_,_=>by simp [N9] at hg
 | .fnc _,_,_,_,_,_,_,_,_,_,_,_,_,_,hg,_,_,_,_,_=>by simp [N9] at hg
 | .str,_,_,_,_,_,_,_,_,_,_,_,_,_,hg,_,_,_,_,_=>by simp [N9] at hg
 | .rs _ _,_,_,_,_,_,_,_,_,_,_,_,_,_,hg,_,_,_,_,_=>by simp [N9] at hg
 | .pa _ _,_,_,_,_,_,_,_,_,_,_,_,_,_,hg,_,_,_,_,_=>by simp [N9] at hg
theorem Rel.updRowC{n:Nat}{w0:World}{Z0:Gh}{s:St}{a:Act}{m:Mem}(h:Rel n w0 Z0 s a m){id:Nat}{r row:Row}(hrow:s.get (.r id)=some (.r r)){w':World}{Z1:Col}
  (hO:Only m.w w' m.Z Z1 (2*id)) (hs:m.w.heap.size<=w'.heap.size) (os:w'.os=m.w.os) (tp:w'.tape=m.w.tape) (ou:w'.output=m.w.output)
  (hsz:row.k.sz=r.k.sz) (hlen:row.xs.length=r.xs.length) (hver:r.ver<row.ver)
  (ho:OwL (Ow row.k w' Z1) row.e row.k.sz w' Z1 [2*id] row.xs (m.ρ id)) :
  Rel n w0 Z0 ((.r id,some (.r row))::s) a ⟨w',Z1,m.ρ,m.β⟩:=by
 have hget:∀ l,l≠.r id->St.get ((.r id,some (.r row))::s) l=s.get l:=fun l hl=>St.get_cons_ne (R5 hl) _ _
 have hX:Ext s m ((.r id,some (.r row))::s) ⟨w',Z1,m.ρ,m.β⟩ (Live s):=by
  refine ⟨hO.keeps,fun id' r' hL hr=>?_,fun b c' _ hc=>⟨c',by rwa [hget _ (by simp)] at hc,rfl⟩,fun q i _ hi=>by rwa [hget _ (by simp)] at hi⟩;by_cases hid:id' = id
  ·subst hid;rw [St.get_cons_same] at hr;injection hr with hr;injection hr with hr;subst hr
   exact ⟨r,hrow,rfl,hsz,hlen,A3t hver,fun e=>by omega,fun e=>by omega⟩
  ·rw [hget _ (by simpa using hid)] at hr;refine ⟨r',hr,rfl,rfl,rfl,C6 _,fun _ hn j v hcell=>?_,fun _=>hO.moves (by omega) []⟩;obtain ⟨hcol,hlt⟩:=A6T (h.rw id' r' hr) hn;refine (I6 ?_).trans hcell;rw [add_block];exact (hO _ hlt (fun q hq=>by rw [hcol] at hq;injection hq with hq;injection hq with hq _;omega)).1
 refine h.change (fun i=>hget _ (by simp)) hX (fun id' r' hr=>?_) (fun b c hc=>?_) hO.fore hs os tp ou (fun id' r' _ _ hg=>by
  by_cases hid:id' = id
  ·subst hid;exact ⟨⟨r,hrow⟩,rfl⟩
  ·exact ⟨⟨r',by rwa [hget _ (by simpa using hid)] at hg⟩,rfl⟩) (fun b c hg=>.inl ⟨⟨c,by rwa [hget _ (by simp)] at hg⟩,rfl⟩)
 ·by_cases hid:id' = id
  ·subst hid;rw [St.get_cons_same] at hr;injection hr with hr;injection hr with hr;subst hr
   exact ho
  ·rw [hget _ (by simpa using hid)] at hr;exact (h.rw id' r' hr).move (hO.moves (by omega) []) hO.keeps
 ·rw [hget _ (by simp)] at hc;obtain ⟨cs',h3,h4,h5,h6⟩:=h.bx b c hc;have hlt:(m.β b).g<m.w.heap.size:=(A9.1 h6).1;obtain ⟨e1,e2⟩:=hO _ hlt (fun q hq=>by rw [h5] at hq;injection hq with hq;injection hq with hq _;omega);exact ⟨cs',All2.imp (fun l hm x hb=>hb.ext (hX.sub fun q hq=>⟨.b b,.b c,hc,E6.2 ⟨l,hm,hq⟩⟩)) h3,h4,e2.trans h5,e1.trans h6⟩
def A84:H9->H9->Option H9
 | [],q=>some q
 | a::p,b::q=>match Nat.beq a b with
  | true=>A84 p q
  | false=>none
 | _::_,[]=>none
theorem B76:∀ (p q:H9),A84 p (p++q)=some q
 | [],q=>rfl
 | a::p,q=>by simp only [C7,A84,A0e];exact B76 p q
theorem B5P:∀ {p q r:H9},A84 p q=some r->q=p++r
 | [],q,r,h=>by simp only [A84] at h;injection h with h
 | a::p,b::q,r,h=>by
  simp only [A84] at h;split at h
  ·rename_i hb;rw [A0 hb,B5P h];rfl
  ·cases h
 | _::_,[],r,h=>by simp [A84] at h
def A66(p:H9)(R:Nat)(Z:Col):Col:=fun b=>match Z b with
 | none=>none
 | some q=>match A84 p q with
  | some r=>some (R::r)
  | none=>some []
def B3l(p:H9)(R:Nat):Option H9->Option H9
 | some (r::q)=>match Nat.beq r R with
  | true=>some (p++q)
  | false=>none
 | _=>none
def B3m(n:Nat)(p:H9)(R:Nat)(Z Zc Z':Col):Col:=fun b=>match Zc b with
 | some (_::_)=>B3l p R (Z' b)
 | _=>match Nat.blt b n with
  | true=>Z b
  | false=>B3l p R (Z' b)
def C4Q:(ps:List PK)->List AV->Option (Ts (ins ps))
 | [],[]=>some ()
 | .val false (.int U) false::ps,.one (.int U' n)::vs=>match decide (U=U'),C4Q ps vs with
  | true,some y=>some (n,y)
  | _,_=>none
 | _,_=>none
theorem C1A{s:St}{m:Mem}{w:World}{Z:Col}{pls:Nat->Plc}:∀ {ps:List PK} {vs:List AV} {y:Ts (ins ps)} {us:List Value} (i:Nat),C4Q ps vs=some y->All2 (AVC s m) vs us->GI w Z->ArgsC w Z pls i ps y us
 | [],[],_,us,i,h,hv,hg=>by
  cases us with
  | nil=>exact ⟨rfl,hg⟩
  | cons _ _=>exact hv.elim
 | .val false (.int U) false::ps,.one (.int U' n)::vs,y,us,i,h,hv,hg=>by
  simp only [C4Q] at h;split at h
  ·rename_i y' hk hy;have hk:=A8 hk;subst hk;injection h with h;subst h
   cases us with
   | nil=>exact hv.elim
   | cons u us=>
    have hu:u=.int U n:=hv.1;subst hu;exact ⟨[.int U n],us,rfl,rfl,.inr rfl,C1A (i+1) hy hv.2 hg⟩
  ·cases h
def A85:(k:K)->k.T->Option Lf
 | .int U,n=>some (.int U n)
 | .bool,b=>some (.bool b)
 | .str,s=>some (.str s)
 | _,_=>none
theorem C5R{k:K}{x:k.T}{l:Lf}(h:A85 k x=some l){w:World}{Z:Col}{base:Nat}{cs:List Value}(hc:LvC w Z base k x cs):∃ v,cs = [v]/\∀ (s:St) (m:Mem),LfC s m l v:=by
 cases k with
 | int U=>simp only [A85] at h;injection h with h;subst h;exact ⟨_,hc,fun _ _=>rfl⟩
 | bool=>simp only [A85] at h;injection h with h;subst h;exact ⟨_,hc,fun _ _=>rfl⟩
 | fnc f=>simp [A85] at h
 | str=>simp only [A85] at h;injection h with h;subst h;exact ⟨_,hc,fun _ _=>rfl⟩
 | sl e k=>simp [A85] at h
 | rs e k=>simp [A85] at h
 | pa n k=>simp [A85] at h
 | pair a b=>simp [A85] at h
def C35(vs:List AV):Option (Nat×Nat×Nat×Nat×List AV):=match vs with
 | .one (.sub id q off ver)::vs=>some (id,q,off,ver,vs)
 | _=>none
def D17(Γ:List (Nat×Fn))(s:St)(f:Nat)(args:List Operand):Bool:=match B5N Γ f,B2d s args with
 | some ⟨.val false (.sl _ _) true::_,_,_⟩,some (vs,_)=>(C35 vs).isSome
 | _,_=>false
def C7K{R:Type}(Γ:List (Nat×Fn))(s:St)(d f:Nat)(args:List Operand)(U:Ke R):Option R:=
 match B5N Γ f,B2d s args with
 | some ⟨.val false (.sl e k) true::ps,[.val false kr],fn⟩,some (vs,rx)=>match C35 vs with
  | some (id,q,off,ver,vs')=>match s.getR id,s.getX q,C4Q ps vs' with
   | some r,some i,some y=>match Nat.beq r.ver ver,N9 r.k (rd r.k r.xs i) off with
    | true,some sl=>match Nat.beq sl.e e,A7I sl.k k sl.xs with
     | true,some xs=>B1 (fn (xs,y)) fun z=>match A8w r.k (rd r.k r.xs i) off k z.2.1,A85 kr z.1 with
      | some x',some l=>U ⟨rx ++ [(.r id,.r r),(.x q,.x i)],[(.t d,some (.t (.one l))),(.r id,some (.r ⟨r.e,r.k,r.xs.set i.toNat x',r.ver+1⟩))],[]⟩
      | _,_=>none
     | _,_=>none
    | _,_=>none
   | _,_,_=>none
  | none=>none
 | _,_=>none
theorem C7L{R:Type}{P:Program}{Γ:List (Nat×Fn)}(hΓ:A41 P Γ){s:St}{d f:Nat}(hf:Nat.blt f 1000000=true){args:List Operand}{U:Ke R}{r:R}(h:C7K Γ s d f args U=some r)(at':Array TypeId) :
  OutE P s (.call {callee:=.value (.func f),args:=args.toArray,argTypes:=at'}) d U r:=by
 unfold C7K at h;split at h
 ·rename_i e k ps kr fn vs rx hF hvs;split at h
  ·rename_i id q off ver vs' hsub;obtain rfl:vs=.one (.sub id q off ver)::vs':=by
    unfold C35 at hsub;split at hsub
    ·injection hsub with hsub;injection hsub with h1 h2;injection h2 with h2 h3;injection h3 with h3 h4;injection h4 with h4 h5
     subst h1;subst h2;subst h3;subst h4;subst h5;rfl
    ·cases hsub
   split at h
   ·rename_i row i y er eq ey;split at h
    ·rename_i sl ever esl;have ever:=A0 ever;split at h
     ·rename_i xs ee ecast;have ee:=A0 ee;obtain ⟨ek,rfl⟩:=S5 ecast;obtain ⟨se,sk,sxs⟩:=sl;simp only at ee ek esl;subst ee;subst ek;obtain ⟨z,hz,h⟩:=A14 h;split at h
      ·rename_i x' l hset hprim;have hread:Reads s [(Loc.r id,LV.r row),(Loc.x q,LV.x i)]:=by
        intro p hp;rcases B4.1 hp with rfl | hp
        ·exact St.getR_some.1 er
        ·rw [A6.1 hp];exact St.getX_some.1 eq
       obtain ⟨hent,hsound⟩:=B9H hΓ hf (B2A hF);refine ⟨_,h,Reads.app.2 ⟨A7L hvs,hread⟩,fun n o ho hdst hd w0 Z0 s' a m hr hrd hnew next Q hn=>?_⟩
       clear h
       obtain ⟨hrd1,hrd2⟩:=Reads.app.1 hrd;have hvals:=B3i hr hvs hrd1;have hrow:s'.get (.r id)=some (.r row):=hrd2 (Loc.r id,LV.r row) A5;have hxq:s'.get (.x q)=some (.x i):=hrd2 (Loc.x q,LV.x i) (B5 _ A5);generalize hus:args.map a.eval=us at hvals;cases us with
       | nil=>exact hvals.elim
       | cons v us=>
        have hv:LfC s' m (.sub id q off ver) v:=hvals.1;obtain ⟨hi0,hi1,hoff,hcell⟩:=(hv.2 row i hrow hxq).2 ever;obtain ⟨inner,hown,hcol,hels⟩:=hr.rw id row hrow;rcases hown.2 with ⟨_,hn0⟩ | ⟨g,cap,cur,fz,e0,_,hg,hfz,hnc,hcap,hcs,ht⟩
        ·omega
        ·have hcolg:=hcol g (by rw [e0];rfl);have hel:=hels i.toNat hi1;rw [<- A8l hi1] at hel;obtain ⟨v',hv',hosl⟩:=B3j hel esl;have hvv:v' = v:=by
          have hlt:off<row.k.sz:=hoff;have h1:inner[i.toNat*row.k.sz+off]? = some v':=by
           rw [F8 hlt,F3] at hv';exact hv'
          have h2:=S3 hown (g:=g) (by rw [e0];rfl) _ _ h1;rw [e0,O2] at hcell;rw [h2] at hcell;injection hcell
         subst hvv;generalize hp : [2*id] ++ [i.toNat]++M6 row.k off=p at hosl;have hp2:∃ p',p=2*id::i.toNat::p':=⟨M6 row.k off,by rw [<- hp];simp⟩
         let Zc:=A66 p (2*1000) m.Z
         have hm1:Moves m.w m.w m.Z Zc p [2*1000]:=fun b t hb _=>⟨rfl,by show A66 p (2*1000) m.Z b=_;simp only [A66,hb,B76];rfl⟩
         have hk1:Keeps m.w m.w m.Z Zc:=fun b hb _=>⟨rfl,by show A66 p (2*1000) m.Z b=_;simp only [A66,hb]⟩
         have hargs:ArgsC m.w Zc (fun _=>⟨0,0,[],[]⟩) 0 (.val false (.sl se sk) true::ps) (sxs,y) (v'::us):=
          ⟨[v'],us,rfl,⟨v',rfl,hosl.move hm1 hk1⟩,.inr rfl,C1A 1 ey hvals.2 (hr.gi.keep hk1)⟩
         have hcalls:=hsound (sxs,y) z hz m.w Zc _ _ hargs;have hrun:(execOp a.eval o).run P m.w=.ok (.enter f (v'::us).toArray) m.w:=by
          have he:=hent (args.map a.eval).toArray m.w;have:(execOp a.eval o)=callFunc f ((args.map a.eval).toArray):=by
           simp [execOp,ho,resolve,invoke,Act.eval,Deferred.ofValue]
          rw [this,<- hus];exact he
         simp only [Oper.wp,hrun,Oper.upon,hdst];refine hcalls.mono fun ex w' hpost=>?_
         obtain ⟨Z',rv,rfl,hk,hf,hl,hout⟩:=hpost;show next (a.put (some d) (pack rv)) w'
         obtain ⟨cs,rr,rfl,hres,_,hout2⟩:=hout;obtain ⟨rfl,hkept⟩:=hout2;obtain ⟨cs',r',hcs',hnew',_,_⟩:=hkept;obtain ⟨u,rfl,hnew'⟩:=hnew';have huv:u=v':=by
          simp only [toV] at hcs';injection hcs' with hcs' _
          exact hcs'.symm
         subst huv;obtain ⟨vr,rfl,hvr⟩:=C5R hprim hres
         let Z1:=B3m m.w.heap.size p (2*1000) m.Z Zc Z'
         have hZ1:∀ b,Z1 b=B3m m.w.heap.size p (2*1000) m.Z Zc Z' b:=fun _=>rfl
         have hback:∀ b t,Z' b=some (2*1000::t)->Z1 b=some (p++t):=by
          intro b t hb;rw [hZ1];unfold B3m;split
          ·rw [hb];simp [B3l]
          ·rename_i hne;split
           ·rename_i hbl;have hlt:b<m.w.heap.size:=L4.mp hbl;cases hc:Zc b with
            | none=>have:=(hk b hc hlt).2;rw [hb] at this;cases this
            | some qq=>
             cases qq with
             | nil=>have:=(hf b hc hlt).2;rw [hb] at this;cases this
             | cons r0 q0=>exact absurd hc (hne r0 q0)
           ·rw [hb];simp [B3l]
         have hnoneB:∀ b,Z' b=none->Z1 b=none:=by
          intro b hb;rw [hZ1];unfold B3m;split
          ·rw [hb];rfl
          ·rename_i hne;split
           ·rename_i hbl;have hlt:b<m.w.heap.size:=L4.mp hbl;cases hc:Zc b with
            | none=>
             have:A66 p (2*1000) m.Z b=none:=hc;unfold A66 at this;split at this
             ·assumption
             ·split at this<;>cases this
            | some qq=>
             cases qq with
             | nil=>have:=(hf b hc hlt).2;rw [hb] at this;cases this
             | cons r0 q0=>exact absurd hc (hne r0 q0)
           ·rw [hb];rfl
         have hkeep:Keeps m.w w' m.Z Z1:=by
          intro b hb hlt;have hc:Zc b=none:=(hk1 b hb hlt).2;obtain ⟨e1,e2⟩:=hk b hc hlt;exact ⟨e1,hnoneB b e2⟩
         have hoth:Others m.w w' m.Z Z1 p:=by
          intro b qq hb hne hlt;have hst:A84 p qq=none:=by
           cases hs:A84 p qq with
           | none=>rfl
           | some t=>exact absurd (B5P hs) (hne t)
          have hc:Zc b=some []:=by show A66 p (2*1000) m.Z b=_;simp only [A66,hb,hst]
          refine ⟨(hf b hc hlt).1,?_⟩;rw [hZ1];unfold B3m;rw [hc];simp only;rw [show Nat.blt b m.w.heap.size=true from L4.mpr hlt];exact hb
         have hO:Only m.w w' m.Z Z1 (2*id):=by
          intro b hlt hq;cases hb:m.Z b with
          | none=>exact ⟨(hkeep b hb hlt).1,(hkeep b hb hlt).2⟩
          | some qq=>
           obtain ⟨p',hp'⟩:=hp2;have:=hoth b qq hb (fun t ht=>hq (i.toNat::(p'++t)) (by rw [hb,ht,hp'];rfl)) hlt;exact ⟨this.1,this.2⟩
         have hmB:Moves w' w' Z' Z1 [2*1000] p:=fun b t hb _=>⟨rfl,hback b t hb⟩
         have hkB:Keeps w' w' Z' Z1:=fun b hb _=>⟨rfl,hnoneB b hb⟩
         have hnewO:OwL (Ow sk w' Z1) se sk.sz w' Z1 p z.2.1 u:=OwL.move hnew' hmB hkB;have hgsame:w'.heap[g]? = m.w.heap[g]?:=(hoth g [2*id] hcolg (fun t ht=>by obtain ⟨p',hp'⟩:=hp2;rw [hp'] at ht;simp at ht) (A9.1 hg).1).1;have hcolg1:Z1 g=some [2*id]:=(hoth g [2*id] hcolg (fun t ht=>by obtain ⟨p',hp'⟩:=hp2;rw [hp'] at ht;simp at ht) (A9.1 hg).1).2;have helsNew:∀ j (hj:j<(row.xs.set i.toNat x').length),Ow row.k w' Z1 ([2*id] ++ [j]) ((row.xs.set i.toNat x')[j]) ((inner.drop (j*row.k.sz)).take row.k.sz):=by
          intro j hj;have hj':j<row.xs.length:=by simpa using hj
          by_cases hji:j=i.toNat
          ·subst hji;rw [A42];exact B3k (sl:=⟨se,sk,sxs⟩) hel esl hv' (by rw [hp];exact hnewO) (by rw [hp];exact hoth) hkeep hset
          ·rw [A61 (by omega)];refine Ow.move (hels j hj') (hoth.moves fun t r hh=>?_) hkeep;obtain ⟨p',hp'⟩:=hp2;rw [hp'] at hh;simp at hh;exact hji hh.1
         have h2:=hr.updRowC (Z1:=Z1) hrow hO hl.size hl.os hl.tape hl.output (row:=⟨row.e,row.k,row.xs.set i.toNat x',row.ver+1⟩) rfl (by simp) (A4f _)
          ⟨inner,A8k (by simpa using hown) (fun g' hg'=>by
           have:g' = g:=by
            rw [e0] at hg';simp only [Value.ownBlock] at hg';injection hg' with hg';exact hg'.symm
           rw [this];exact hgsame),fun g' hg'=>by
           have:g' = g:=by
            rw [e0] at hg';simp only [Value.ownBlock] at hg';injection hg' with hg';exact hg'.symm
           rw [this];exact hcolg1,helsNew⟩
         have h3:=h2.put (d:=d) (v:=.one l) (x:=vr) hd (hvr _ _);exact hn _ _ h3
      ·cases h
     ·cases h
    ·cases h
   ·cases h
  ·cases h
 ·cases h
def D0h{R:Type}(Γ:List (Nat×Fn))(s:St)(d f:Nat)(args:List Operand)(U:Ke R):Option R:=
 match Nat.blt f 1000000 with
 | true=>C7K Γ s d f args U
 | false=>none
theorem C9E{R:Type}{P:Program}{Γ:List (Nat×Fn)}(hΓ:A41 P Γ){s:St}{d f:Nat}{args:List Operand}{U:Ke R}{r:R}(h:D0h Γ s d f args U=some r)(at':Array TypeId) :
  OutE P s (.call {callee:=.value (.func f),args:=args.toArray,argTypes:=at'}) d U r:=by
 unfold D0h at h;split at h
 ·rename_i hf;exact C7L hΓ hf h at'
 ·cases h
def D03(ts:List (Loc×LV))(id:Nat)(row:Row)(rd:Rds):Rds:=ts++(.r id,.r row)::rd.filter fun p=>!(ts.any fun t=>Loc.eqb t.1 p.1)
theorem C02{id:Nat}{row:Row}{l:Lf}{x:Loc}(h:x∈(l.fz id row).men):x∈l.men:=by
 cases l with
 | own i=>
  simp only [Lf.fz] at h;cases e:Nat.beq i id with
  | true=>rw [e] at h;simp [Lf.men] at h
  | false=>rw [e] at h;exact h
 | vw i lo hi=>
  simp only [Lf.fz] at h;cases e:Nat.beq i id with
  | true=>rw [e] at h;simp [Lf.men] at h
  | false=>rw [e] at h;exact h
 | _=>exact h
theorem C7M{id:Nat}{row:Row}{v:AV}{x:Loc}(h:x∈(v.mp (Lf.fz id row)).men):x∈v.men:=by
 cases v with
 | one l=>exact C02 h
 | agg ls=>
  simp only [AV.mp,AV.men,E6,D0] at h ⊢;obtain ⟨_,⟨l,hl,rfl⟩,hx⟩:=h;exact ⟨l,hl,C02 hx⟩
 | tup ps=>
  simp only [AV.mp,AV.men,E6,D0] at h ⊢;obtain ⟨_,⟨p,hp,rfl⟩,l',hl',hx⟩:=h;obtain ⟨l,hl,rfl⟩:=D0.1 hl';exact ⟨p,hp,l,hl,C02 hx⟩
 | und=>exact h
theorem C7N{id:Nat}{row:Row}{v:LV}{x:Loc}(h:x∈(v.mp (Lf.fz id row)).men):x∈v.men:=by
 cases v with
 | t v=>exact C7M h
 | b c=>
  simp only [LV.mp,LV.men,E6,D0] at h ⊢;obtain ⟨_,⟨l,hl,rfl⟩,hx⟩:=h;exact ⟨l,hl,C02 hx⟩
 | r _=>exact h
 | x _=>exact h
theorem C9F{id:Nat}{row:Row}{s s':St}{ts:List (Loc×LV)}{l:Loc}(he:∃ t∈ts,l=t.1):St.get (Ev.frz ts id row++s') l=St.get (Ev.frz ts id row++s) l:=by
 unfold Ev.frz
 induction ts with
 | nil=>obtain ⟨t,hm,_⟩:=he;cases hm
 | cons t ts ih=>
  simp only [G3,C7,roT];by_cases e:l=t.1
  ·subst e;rw [St.get_cons_same,St.get_cons_same]
  ·rw [St.get_cons_ne (R5 e),St.get_cons_ne (R5 e)];obtain ⟨t',hm,e'⟩:=he;rcases B4.1 hm with e2 | hm
   ·subst e2;exact absurd e' e
   ·exact ih ⟨t',hm,e'⟩
theorem OutG.frz{R:Type}{P:Program}{s:St}{op:Op}{d:Option Nat}{U:Ke R}{r:R}{ts:List (Loc×LV)}{id:Nat}{row:Row}(hT:∀ t∈ts,TB t)(ht:∀ t∈ts,s.get t.1=some t.2)(hr:s.getR id=some row)
  (h:OutG P (Ev.frz ts id row++s) op d (fun δ=>U ⟨D03 ts id row δ.rd,δ.wr++Ev.frz ts id row,δ.new⟩) r):OutG P s op d U r:=by
 obtain ⟨δ,h1,h2,h3⟩:=h;have hr:=St.getR_some.1 hr;have hTn:∀ t∈ts,t.1≠.r id:=fun t hm=>(hT t hm).ne id
 have hany:∀ {p:Loc×LV},(!(ts.any fun t=>Loc.eqb t.1 p.1))=true↔∀ t∈ts,p.1≠t.1:=by
  intro p;simp only [P9,Q0];exact ⟨fun h t hm e=>h t hm (Loc.eqb_iff.2 e.symm),fun h t hm e=>h t hm (Loc.eqb_iff.1 e).symm⟩
 refine ⟨_,h1,fun p hp=>?_,fun n o ho hd hlt=>?_⟩
 ·rcases C9.1 hp with hp | hp
  ·exact ht p hp
  ·rcases B4.1 hp with e | hp
   ·subst e;exact hr
   ·obtain ⟨hp,hq⟩:=List.mem_filter.1 hp;have hg:=h2 p hp;have hn2:p.1≠.r id:=fun e=>by rw [e,B0t hTn] at hg;cases hg
    rwa [B6F (hany.1 hq) hn2] at hg
 ·intro w0 Z0 s' a m hrel hrd hnew next Q hn
  have ht':∀ t∈ts,s'.get t.1=some t.2:=fun t hm=>hrd t (E2 _ hm)
  have hr':=hrd (Loc.r id,LV.r row) (D3 _ A5);obtain ⟨Z',hrel'⟩:=hrel.frz hT ht' hr';have hsame:=fun l he=>C9F (id:=id) (row:=row) (s:=s) (s':=s') (ts:=ts) (l:=l) he
  refine h3 n o ho hd hlt w0 Z0 _ a ⟨m.w,Z',m.ρ,m.β⟩ hrel' (fun p hp=>?_) (fun l hl hlive=>hnew l hl ?_) next Q (fun a' m' hm=>hn a' m' (by rw [A7];exact hm))
  ·have hg:=h2 p hp;have hn2:p.1≠.r id:=fun e2=>by rw [e2,B0t hTn] at hg;cases hg
   by_cases e:∃ t∈ts,p.1=t.1
   ·rw [hsame _ e];exact hg
   ·have hne:∀ t∈ts,p.1≠t.1:=fun t hm h=>e ⟨t,hm,h⟩
    rw [B6F hne hn2];exact hrd p (D3 _ (B5 _ (List.mem_filter.2 ⟨hp,hany.2 hne⟩)))
  ·obtain ⟨l',lv,hg,hm⟩:=hlive;have hn2:l'≠.r id:=fun e2=>by rw [e2,B0t hTn] at hg;cases hg
   by_cases e:∃ t∈ts,l' = t.1
   ·obtain ⟨t,hmt,e3,hg2⟩:=C6v (id:=id) (row:=row) (s:=s') e;rw [hg2] at hg;injection hg with hg;subst hg
    exact ⟨t.1,t.2,ht' t hmt,C7N hm⟩
   ·rw [B6F (fun t hm h=>e ⟨t,hm,h⟩) hn2] at hg;exact ⟨l',lv,hg,hm⟩
def K.rsl:K->List Bool
 | .rs _ _=> [true]
 | .pair a b=>a.rsl++b.rsl
 | _=> [false]
def A3P(s:St):List Bool->List Lf->Option (Nat×Row)
 | true::bs,l::ls=>match l.rowOf s with
  | some p=>some p
  | none=>A3P s bs ls
 | _::bs,_::ls=>A3P s bs ls
 | _,_=>none
theorem A86{s:St}{id:Nat}{row:Row}:∀ {bs:List Bool} {ls:List Lf},A3P s bs ls=some (id,row)->s.getR id=some row:=by
 intro bs
 induction bs with
 | nil=>intro ls h;simp [A3P] at h
 | cons b bs ih=>
  intro ls h;cases ls with
  | nil=>simp [A3P] at h
  | cons l ls=>
   unfold A3P at h;split at h
   ·rename_i e1 e2;injection e1 with e11 e1;injection e2 with e21 e2;subst e1;subst e2
    split at h
    ·rename_i p hr;injection h with h
     subst h;exact Lf.rowOf_some hr
    ·exact ih h
   ·rename_i e1 e2;injection e1 with _ e1;injection e2 with _ e2;subst e1;subst e2
    exact ih h
   ·cases h
def B12(s:St):List PK->List Operand->Option (Nat×Row)
 | .val _ k _::ps,.tmp t::xs=>match (match s.getT t with
  | some (.one l)=>A3P s k.rsl [l]
  | some (.agg ls)=>A3P s k.rsl ls
  | _=>none) with
  | some r=>some r
  | none=>B12 s ps xs
 | .ptr k::ps,.tmp t::xs=>match (match s.getT t with
  | some (.one (.ptr b off))=>match s.getB b with
   | some c=>A3P s k.rsl (c.drop off)
   | none=>none
  | _=>none) with
  | some r=>some r
  | none=>B12 s ps xs
 | _::ps,_::xs=>B12 s ps xs
 | _,_=>none
theorem C1B{s:St}{id:Nat}{row:Row}:∀ {ps:List PK} {xs:List Operand},B12 s ps xs=some (id,row)->s.getR id=some row:=by
 intro ps xs h
 induction ps generalizing xs with
 | nil=>simp [B12] at h
 | cons p ps ih=>
  cases xs with
  | nil=>simp [B12] at h
  | cons x xs=>
   unfold B12 at h;split at h
   ·rename_i e1 e2;injection e1 with _ e1;injection e2 with _ e2;subst e1;subst e2
    split at h
    ·rename_i r hr;injection h with h;subst h
     split at hr
     ·exact A86 hr
     ·exact A86 hr
     ·cases hr
    ·exact ih h
   ·rename_i e1 e2;injection e1 with _ e1;injection e2 with _ e2;subst e1;subst e2
    split at h
    ·rename_i r hr;injection h with h;subst h
     split at hr
     ·split at hr
      ·exact A86 hr
      ·cases hr
     ·cases hr
    ·exact ih h
   ·rename_i e1 e2;injection e1 with _ e1;injection e2 with _ e2;subst e1;subst e2
    exact ih h
   ·cases h
def Fn.shares(F:Fn):Bool:=!(F.res.all (fun r=>r.k.noRs)&&B10 K.noRs F.ps)
def C4R(Γ:List (Nat×Fn))(s:St)(f:Nat)(args:List Operand):Option (Nat×Row):=match B5N Γ f with
 | some F=>match F.shares with
  | true=>B12 s F.ps args
  | false=>none
 | none=>none
def B77{R:Type}(cfg:Cfg)(Γ:List (Nat×Fn))(d:Option Nat)(f:Nat)(args:List Operand):Nat->St->Ke R->Option R
 | 0,s,U=>C4P cfg Γ s d f args U
 | n+1,s,U=>match C4R Γ s f args with
  | some (id,row)=>B77 cfg Γ d f args n (frz (B6v s id) id row++s) fun δ=>U ⟨D03 (B6v s id) id row δ.rd,δ.wr++frz (B6v s id) id row,δ.new⟩
  | none=>C4P cfg Γ s d f args U
theorem B4d{R:Type}{P:Program}{cfg:Cfg}{Γ:List (Nat×Fn)}(hΓ:A41 P Γ){d:Option Nat}{f:Nat}{args:List Operand}{r:R}(at':Array TypeId):∀ {n:Nat} {s:St} {U:Ke R},B77 cfg Γ d f args n s U=some r->
  OutG P s (.call {callee:=.value (.func f),args:=args.toArray,argTypes:=at'}) d U r
 | 0,s,U,h=>C18 hΓ h at'
 | n+1,s,U,h=>by
  unfold B77 at h;split at h
  ·rename_i id row hf;have:s.getR id=some row:=by
    unfold C4R at hf;split at hf
    ·split at hf
     ·exact C1B hf
     ·cases hf
    ·cases hf
   exact OutG.frz (fun t hm=>(B3c hm).1) (fun t hm=>(B3c hm).2) this (B4d hΓ at' h)
  ·exact C18 hΓ h at'
open Go.Lib (strCells strCells_length strCells_oneCell run_firstCells_string run_append_grow_string bytesWorld bytesCells bytesWorld_at_old bytesWorld_at_new)
def bytesOf(s:ByteArray):List Int:=s.data.toList.map fun b=>(b.toNat:Int)
theorem bytesOf_length(s:ByteArray):(bytesOf s).length=s.size:=by rw [bytesOf,N1,D4];rfl
theorem strCells_eq(s:ByteArray):strCells s=(bytesOf s).map (Value.int .u8):=by simp [strCells,bytesOf,List.map_map]
theorem B4e{P:Program}{w:World}{t u ty e:TypeId}{i:TypeInfo}(ht:P.underlying t=some (.slice e))(hu:P.underlying u=some .string)(hi:P.info? e=some i)(hs1:i.size=1)
  {g sLen sCap:Nat} {cur:Array Value} {fz:Nat×Nat} (hg:w.heap[g]? = some (.cells cur e fz)) (hfz:Thawed cur.size fz) (s:ByteArray)
  (hroom:sLen+s.size<=sCap) (hfit:sLen+s.size<=cur.size) :
  (Builtin.append_ #[t,u] ty #[.slice (some ⟨g,0,none⟩) sLen sCap,.string s]).run P w =
   .ok (.slice (some ⟨g,0,none⟩) (sLen+s.size) sCap) (w.setRow g (cur.toList.take sLen++strCells s++cur.toList.drop (sLen+s.size)).toArray):=by
 have hf:=run_firstCells_string (P:=P) w 1 s;have hst:=A0Q P g sLen e fz (strCells s) 0 cur w hg hfz (by simpa [strCells_length] using hfit) (strCells_oneCell s);simp only [J0,strCells_length] at hst;simp [Builtin.append_,F9 ht,F9 hu,sizeOf,typeInfo,hi,hs1,Builtin.lenOf,hroom,hf,R4,hst]
theorem C7O{P:Program}{w:World}{t u ty e:TypeId}{i:TypeInfo}(ht:P.underlying t=some (.slice e))(hu:P.underlying u=some .string)(hi:P.info? e=some i){z:Value}(hz:i.zero=some z)(hz1:z.cells.size=1)
  (hsize:i.size=1) (hby:i.bytes=1) {v:Value} {n:Nat} {xs:List Value} (hown:owns w 0 e 1 v n xs) (s:ByteArray)
  (h63:n+s.size<=maxLen) (hbytes:n+s.size<=140737488355328) :
  ∃ v' w',(Builtin.append_ #[t,u] ty #[v,.string s]).run P w=.ok v' w'/\owns w' 0 e 1 v' (n+s.size) (xs++strCells s)/\w.grownBy w' v.ownBlock/\(v'.ownBlock=v.ownBlock\/v'.ownBlock=some w.heap.size):=by
 have hsmall:n+s.size<=9223372036854775807:=by simp only [maxLen] at h63;omega
 have hxl:xs.length=n:=by simpa using hown.1
 have hlen:(xs++strCells s).length=(n+s.size)*1:=by rw [A3,hxl,strCells_length,A0P]
 rcases hown.2 with ⟨rfl,rfl⟩ | ⟨g,cap,cur,fz,rfl,hbg,hg,hfz,hnc,hcm,hcs,htake⟩
 ·have hx:xs = []:=F0 hxl;subst hx;by_cases hm:s.size=0
  ·have hn:strCells s = []:=F0 (by rw [strCells_length];exact hm);refine ⟨.slice none 0 0,w,?_,by rw [hm,hn];exact A3M w 0 e 1,⟨rfl,rfl,rfl,C6 _,fun _ _ _=>rfl⟩,.inl rfl⟩;have hf:=run_firstCells_string (P:=P) w 1 s;rw [hm] at hf;simp [Builtin.append_,F9 ht,F9 hu,sizeOf,typeInfo,hi,hsize,Builtin.lenOf,hm,hf]
  ·have hr:=run_append_nil_string (P:=P) w t u ty e i z ht hu hi hz s (by omega) (by omega) (by rw [hby];omega);have e1:(s.data.map fun b=>Value.int .u8 b.toNat)=(strCells s).toArray:=by
    apply Array.ext';simp [strCells]
   rw [e1] at hr;have hge:=A1L w s.size 0 e;have hcm':grownCap w s.size 0 e<=maxLen:=R3 w s.size 0 e (by omega);simp only [D9,F6];refine ⟨_,_,hr,A7E ⟨by simpa using hlen,.inr ⟨w.heap.size,_,_,rfl,G6 _,A0H w.drew _,hge,hcm',?_,?_⟩⟩,⟨rfl,rfl,rfl,by simp,fun k hk _=>heap_alloc_old (w:=w.drew) _ hk⟩,.inr rfl⟩
   ·simp only [S2,F7,U4,hz1,strCells_length];omega
   ·simp only [A0C];rw [show s.size*1=(strCells s).length by rw [strCells_length,A0P]];exact R7
 ·by_cases hroom:n+s.size<=cap
  ·have hcs':cur.size=cap:=by simpa using hcs
   have hr:=B4e (P:=P) (ty:=ty) ht hu hi hsize hg hfz.1 s hroom (by omega);have hsz2:(cur.toList.take n++strCells s++cur.toList.drop (n+s.size)).toArray.size=cur.size:=by
    simp only [F7,A3,B2,C5,D4,strCells_length];omega
   refine ⟨_,_,hr,⟨hlen,.inr ⟨g,cap,_,fz,rfl,hbg,O1 w g cur _ e _ hg,by rw [hsz2];exact hfz,hroom,hcm,by rw [hsz2];exact hcs,?_⟩⟩,⟨rfl,rfl,rfl,by simp,fun k _ hk=>T3 w g k _ (fun e=>hk (by simp [Value.ownBlock,e]))⟩,.inl rfl⟩;have ht':cur.toList.take n=xs:=by simpa using htake
   rw [ht',<- hlen];exact R7
  ·have holds:∀ j u,xs[j]? = some u->w.cell? ((⟨g,0,none⟩:Addr).add j)=some u:=S3 hown (g:=g) rfl;have hr:=run_append_grow_string (P:=P) w t u ty e i z ht hu hi hz ⟨g,0,none⟩ n cap xs (by rw [hsize];simpa using hxl) holds s (by omega) (by omega) (by rw [hby];exact A3o (by omega) (by omega));have hge:=A1L w (n+s.size) cap e;have hcm':grownCap w (n+s.size) cap e<=maxLen:=R3 w (n+s.size) cap e h63;refine ⟨_,_,hr,A7E ⟨hlen,.inr ⟨w.heap.size,_,_,rfl,G6 _,A0H w.drew _,hge,hcm',?_,?_⟩⟩,⟨rfl,rfl,rfl,by simp,fun k hk _=>heap_alloc_old (w:=w.drew) _ hk⟩,.inr rfl⟩
   ·simp only [S2,F7,U4,hz1,hxl,strCells_length];omega
   ·simp only [A0C,A7];rw [<- A7,<- hlen];exact R7
theorem A87{α:Type}{xs:List α}{i:Nat}(h:i<xs.length):(xs.drop (i*1)).take 1 = [xs[i]]:=by
 rw [A0P,I0 h];rfl
def C7P{R:Type}(cfg:Cfg)(s:St)(d t t':Nat)(x y:Operand)(U:Ke R):Option R:=
 match L1 s x,L1 s y,cfg.el t,A47 cfg t' with
 | some (.one lx,rx),some (.one (.str b),ry),some e,true=>match cfg.ty e with
  | some ti=>match M0 cfg s e ti lx,decide (ti.k=.int .u8),Nat.beq ti.bytes 1 with
   | some (o1,row,r1),true,true=>match A7I row.k (.int .u8) row.xs,Nat.beq row.e e with
    | some xs,true=>bif decide (xs.length+b.size<=140737488355328) then
       U ⟨rx++ry++r1,(.t d,some (.t (.one (.own d))))::(.r d,some (.r ⟨e,.int .u8,xs++bytesOf b,0⟩))::(oid o1).map (fun i=>(Loc.r i,(none:Option LV))),[.r d]⟩ else none
    | _,_=>none
   | _,_,_=>none
  | none=>none
 | _,_,_,_=>none
theorem C7Q{R:Type}{P:Program}{cfg:Cfg}(hc:J9 P cfg){s:St}{d t t':Nat}{x y:Operand}{U:Ke R}{r:R}(h:C7P cfg s d t t' x y U=some r) :
  OutE P s (.call {callee:=.builtin .append,args:=#[x,y],argTypes:=#[t,t']}) d U r:=by
 unfold C7P at h;split at h
 ·rename_i lx rx b ry e ex ey et hst;split at h
  ·rename_i ti eti;split at h
   ·rename_i o1 row r1 e1 hk8 hb1;have hk8:=A8 hk8;have hb1:=A0 hb1;split at h
    ·rename_i xs hcast hre0;have hre:=A0 hre0
     clear hre0
     obtain ⟨ek,hxs⟩:=S5 hcast;obtain ⟨re,rk,rxs,rver⟩:=row;simp only at ek hxs hre;subst ek;simp only at hxs;subst hre;subst hxs;obtain ⟨hby,h⟩:=G7 h;have hby:=A8 hby;refine ⟨_,h,Reads.app.2 ⟨Reads.app.2 ⟨B9 ex,B9 ey⟩,B5K e1⟩,fun n o ho hdst hd w0 Z0 s' a m hr hrd hnew next Q hn=>?_⟩
     have hrdA:=Reads.app.1 (Reads.app.1 hrd).1;obtain ⟨f,z,hi,hs,hb,hz,hzc,_⟩:=hc.info eti;have hsz1:f.size=1:=by rw [hs,hk8];rfl
     have hz1:z.cells.size=1:=by rw [<- D4,hzc,hk8];rfl
     have h1:=hr.drop (A5k d o1);have hids:(A5k d o1).map (·.1)=oid o1:=by cases o1<;>rfl
     rw [hids] at h1;have hk:=P6 m.w (A5k d o1) m.Z;have hdest:=C0r e1 hr (Reads.app.1 hrd).2 (D8 ex hr hrdA.1) d hk (fun id hid=>by
      subst hid;exact A5K (f:=fun q=>some (2*d::q)) (by simp [A5k,A0D]) (fun q=>rfl))
     have hyv:a.eval y=.string b:=D8 ey hr hrdA.2;obtain ⟨inner,hown,hcol,hels⟩:=hdest;obtain ⟨v',w',hrun,hown',hg,hblk⟩:=C7O (P:=P) (ty:=o.type) (hc.el et) (A34 hc hst) hi hz hz1 hsz1 (hb.trans hb1) hown b (by simp only [maxLen];omega) hby;have hrunO:(execOp a.eval o).run P m.w=.ok (.value v') w':=by
      simp [execOp,ho,hyv,resolve,invoke,builtin,C4];rw [hrun];rfl
     let Z1:=L0 (A5k d o1) m.Z
     let Z2:Col:=fun b=>if v'.ownBlock=some b then some [2*d] else Z1 b
     have hsame:∀ b,b<m.w.heap.size->Z1 b≠some [2*d]->w'.heap[b]? = m.w.heap[b]?/\Z2 b=Z1 b:=by
      intro b hb hne;have hvb:some b≠(a.eval x).ownBlock:=fun e=>hne (hcol b e.symm)
      refine ⟨hg.block b hb hvb,D6 fun e=>?_⟩;rcases hblk with h' | h'
      ·rw [h'] at e;exact hvb e.symm
      ·rw [h'] at e;injection e with e;omega
     have hO:Only m.w w' Z1 Z2 (2*d):=fun b hb hq=>hsame b hb (hq [])
     have hnl:¬ Live ((oid o1).map (fun i=>(Loc.r i,(none:Option LV)))++s') (.r d):=by
      rintro ⟨l',lv,hg',hm'⟩;refine hnew (.r d) A5 ⟨l',lv,?_,hm'⟩;by_cases hh:∃ i∈oid o1,l' = .r i
      ·obtain ⟨i,hi',rfl⟩:=hh;rw [A4i hi'] at hg';cases hg'
      ·rw [A8n fun i hi' e=>hh ⟨i,hi',e⟩] at hg';exact hg'
     have hinl:inner.length=xs.length:=by have:inner.length=xs.length*1:=hown.1;omega
     have h2:=h1.only (d:=d) hd hnl (row:=⟨re,.int .u8,xs++bytesOf b,0⟩) (v:=v') (w':=w') (Z':=Z2) hO hg.size hg.os hg.tape hg.output (by
      refine ⟨inner++strCells b,by rw [A3,bytesOf_length];exact hown',fun g hgb=>G0 hgb,fun i hi'=>?_⟩;have hlen2:(inner++strCells b).length=(xs++bytesOf b).length:=by rw [A3,A3,hinl,strCells_length,bytesOf_length]
      have hi2:i<(inner++strCells b).length:=by rw [hlen2];exact hi'
      show (((inner++strCells b).drop (i*1)).take 1) = [Value.int .u8 (xs++bytesOf b)[i]];rw [A87 hi2];by_cases hin:i<xs.length
      ·have e3:(xs++bytesOf b)[i]=xs[i]:=I8 hin;have e4:(inner++strCells b)[i]=inner[i]'(by omega):=I8 (by omega);have:=hels i hin;have this:(inner.drop (i*1)).take 1 = [Value.int .u8 xs[i]]:=this;rw [A87 (by omega)] at this;rw [e3,e4];exact this
      ·have hil:i-xs.length<(bytesOf b).length:=by
        have:=hi';simp only [A3] at this;omega
       have e3:(xs++bytesOf b)[i]=(bytesOf b)[i-xs.length]:=J6 (by omega);have e4:(inner++strCells b)[i]=(strCells b)[i-inner.length]'(by rw [strCells_length,<- bytesOf_length];omega):=J6 (by omega);rw [e3,e4];simp only [strCells_eq,List.getElem_map,hinl])
     have h3:=h2.put (v:=.one (.own d)) (x:=v') hd ⟨A5I hown',fun r _=>by simp [upd_same]⟩;simp only [Oper.wp,hrunO,Oper.upon,hdst];exact hn _ _ h3
    ·cases h
   ·cases h
  ·cases h
 ·cases h
def C36{R:Type}(cfg:Cfg)(s:St)(d a b:Nat)(x:Operand)(U:Ke R):Option R:=
 match L1 s x,A47 cfg a,cfg.el b with
 | some (.one (.str z),rx),true,some e=>match C2a cfg e with
  | some .u8=>bif decide (z.size<=9223372036854775807) then U ⟨rx,[(.t d,some (.t (.one (.own d)))),(.r d,some (.r ⟨e,.int .u8,bytesOf z,0⟩))],[.r d]⟩ else none
  | _=>none
 | _,_,_=>none
theorem C5S{R:Type}{P:Program}{cfg:Cfg}(hc:J9 P cfg){s:St}{d a b:Nat}{x:Operand}{U:Ke R}{r:R}(h:C36 cfg s d a b x U=some r):OutE P s (.convert a b x) d U r:=by
 unfold C36 at h;split at h
 ·rename_i z rx e ex hst et;split at h
  ·rename_i ek;obtain ⟨h63,h⟩:=G7 h;have h63:=A8 h63;refine ⟨_,h,B9 ex,fun n o ho hdst hd w0 Z0 s' ac m hr hrd hnew next Q hn=>?_⟩
   have hv:ac.eval x=.string z:=D8 ex hr hrd;have hrun:(execOp ac.eval o).run P m.w=.ok (.value (.slice (some ⟨m.w.heap.size,0,none⟩) z.size (grownCap m.w z.size 0 e))) (bytesWorld m.w e z):=by
    have:=Go.Lib.run_convert_string_bytes (P:=P) m.w a b e z (A34 hc hst) (hc.el et) (B6A hc ek);simp [execOp,ho,hv,this]
   have hcs:(bytesCells m.w e z).size=grownCap m.w z.size 0 e:=by
    have:=A1L m.w z.size 0 e;have e0:z.data.size=z.size:=rfl;simp only [bytesCells,S2,Array.size_map,Array.size_replicate,e0];omega
   have hct:(bytesCells m.w e z).toList.take z.size=strCells z:=by
    have e0:(z.data.map fun b=>Value.int .u8 b.toNat).toList=strCells z:=by simp [strCells]
    simp only [bytesCells,A0C,e0];rw [<- strCells_length z];exact R7
   have hnew':=bytesWorld_at_new m.w e z;have hown:owns (bytesWorld m.w e z) 0 e 1 (.slice (some ⟨m.w.heap.size,0,none⟩) z.size (grownCap m.w z.size 0 e)) z.size (strCells z):=by
    refine ⟨by rw [strCells_length,A0P],.inr ⟨_,_,_,_,rfl,G6 _,hnew',⟨.inr rfl,.inr rfl⟩,A1L m.w z.size 0 e,R3 m.w z.size 0 e (by simp only [maxLen];omega),by rw [hcs,A0P],by rw [A0P];exact hct⟩⟩
   have hsz:m.w.heap.size<=(bytesWorld m.w e z).heap.size:=by
    simp [bytesWorld,World.freeze]
   have hO:Only m.w (bytesWorld m.w e z) m.Z (upd m.Z m.w.heap.size (some [2*d])) (2*d):=fun b hb hq=>⟨bytesWorld_at_old m.w e z b hb,upd_ne _ (by omega) _⟩
   have h2:=hr.only (d:=d) hd (hnew _ A5) (row:=⟨e,.int .u8,bytesOf z,0⟩) (v:=.slice (some ⟨m.w.heap.size,0,none⟩) z.size (grownCap m.w z.size 0 e)) (w':=bytesWorld m.w e z) hO hsz (by simp [bytesWorld,World.freeze,World.alloc,World.drew,-World.alloc_eq,-World.drew_eq]) (by simp [bytesWorld,World.freeze,World.alloc,World.drew,-World.alloc_eq,-World.drew_eq]) (by simp [bytesWorld,World.freeze,World.alloc,World.drew,-World.alloc_eq,-World.drew_eq]) (by
    refine ⟨strCells z,by rw [bytesOf_length];exact hown,fun g hg=>?_,fun i hi'=>?_⟩
    ·simp only [Value.ownBlock,H5] at hg;subst hg;exact upd_same _ _ _
    ·show (((strCells z).drop (i*1)).take 1) = [Value.int .u8 (bytesOf z)[i]];rw [A87 (by rw [strCells_length,<- bytesOf_length];exact hi')];simp only [strCells_eq,List.getElem_map])
   have h3:=h2.put (v:=.one (.own d)) (x:=.slice (some ⟨m.w.heap.size,0,none⟩) z.size (grownCap m.w z.size 0 e)) hd ⟨rfl,fun r _=>by simp [upd_same]⟩;simp only [Oper.wp,hrun,Oper.upon,hdst];exact hn _ _ h3
  ·cases h
 ·cases h
end Go.Proofs.YthnfghmjipikhaaGreatDoor.Ev
namespace Go.Proofs.YthnfghmjipikhaaGreatDoor.Ev
theorem C37{k:K}(xs:List k.T):A7I k k xs=some xs:=by unfold A7I;rw [dif_pos rfl]
theorem B13:∀ {k:K} {x:k.T} {off:Nat} {sl:SL},N9 k x off=some sl->A8w k x off sl.k sl.xs=some x
 | .sl e k,xs,0,sl,h=>by
  simp only [N9] at h;injection h with h;subst h
  simp only [A8w];exact C37 xs
 | .sl e k,xs,_+1,sl,h=>by simp [N9] at h
 | .pair a b,x,j,sl,h=>by
  simp only [N9] at h;simp only [A8w];split at h
  ·simp only [B13 h]
  ·simp only [B13 h]
 | .int _,_,_,_,h=>by simp [N9] at h
 | .bool,_,_,_,h=>by simp [N9] at h
 | .fnc _,_,_,_,h=>by simp [N9] at h
 | .str,_,_,_,h=>by simp [N9] at h
 | .rs _ _,_,_,_,h=>by simp [N9] at h
 | .pa _ _,_,_,_,h=>by simp [N9] at h
theorem C7R{P:Program}{w:World}{t ty e:TypeId}{i:TypeInfo}{z:Value}{size bytes:Nat}(ht:P.underlying t=some (.slice e))(hi:P.info? e=some i)(hz:i.zero=some z)
  (hsize:i.size=size) (hby:i.bytes=bytes) (hzs:z.cells.size=size) (hsz:0<size) {v:Value} {n:Nat} {xs:List Value} (hown:owns w 0 e size v n xs)
  {A:Option Addr} {m c:Nat} {news:List Value} (hl:news.length=m*size) (hnews:∀ ad,A=some ad->∀ j u,news[j]? = some u->w.cell? (ad.add j)=some u) (hA:A=none->m=0) (h1:∀ u∈news,u.oneCell' = true)
  (h63:n+m<=maxLen) (hbytes:(n+m)*bytes<=140737488355328) :
  ∃ v' w',(Builtin.append_ #[t,t] ty #[v,.slice A m c]).run P w=.ok v' w'/\owns w' 0 e size v' (n+m) (xs++news)/\owns w' 0 e size v n xs/\w.grownBy w' v.ownBlock/\(v'.ownBlock=v.ownBlock\/v'.ownBlock=some w.heap.size):=by
 obtain ⟨v',w',hrun,ho,hg,hd⟩:=B9j (P:=P) (ty:=ty) (c:=c) ht hi hz hsize hby hzs hsz hown hl hnews hA h1 h63 hbytes;refine ⟨v',w',hrun,ho,?_,hg,hd⟩;subst hsize;subst hby;have hsmall:n+m<=9223372036854775807:=by simp only [maxLen] at h63;omega
 have hown0:=hown;rcases hown.2 with ⟨rfl,rfl⟩ | ⟨g,cap,cur,fz,rfl,hbg,hgb,hfz,hnc,hcm,hcs,htake⟩
 ·have:xs = []:=F0 (by simpa using hown.1);subst this;exact A3M _ _ _ _
 ·cases A with
  | none=>
   obtain rfl:=hA rfl;have:=C0q (P:=P) (ty:=ty) (c:=c) ht hi hown0;rw [hrun] at this;injection this with _ hw
   subst hw;exact hown0
  | some ad=>
   by_cases hroom:n+m<=cap
   ·have hfit:n*i.size+news.length<=cur.size:=by rw [hl,hcs,<- J7];exact E1 _ hroom
    have hr:=A1O (P:=P) w t ty e i ht hi g n cap cur fz hgb hfz.1 ad m c news hl (hnews ad rfl) h1 hroom hfit;rw [hrun] at hr;injection hr with _ hw
    subst hw;have hsz2:(cur.toList.take (n*i.size)++news++cur.toList.drop (n*i.size+news.length)).toArray.size=cur.size:=by
     simp only [F7,A3,B2,C5,D4];omega
    refine ⟨hown.1,.inr ⟨g,cap,_,fz,rfl,hbg,O1 w g cur _ e _ hgb,by rw [hsz2];exact hfz,hnc,hcm,by rw [hsz2];exact hcs,?_⟩⟩;have hlx:(cur.toList.take (n*i.size)).length=n*i.size:=by rw [htake];exact hown.1
    simp only [A7];rw [F2 (by omega),E8 (by omega)];exact htake
   ·have holds:∀ j u,xs[j]? = some u->w.cell? ((⟨g,0,none⟩:Addr).add j)=some u:=S3 hown (g:=g) rfl;have hr:=B0c (P:=P) w t ty e i z ht hi hz ⟨g,0,none⟩ n cap xs hown.1 holds ad m c news hl (hnews ad rfl) (by omega) (by omega) (A3o (by omega) hbytes);rw [hrun] at hr;injection hr with _ hw
    subst hw;exact A8k hown0 fun g' hg'=>by
     have:=(A9.1 hgb).1;have e1:g' = g:=by simp only [Value.ownBlock] at hg';injection hg' with hg';exact hg'.symm
     rw [e1];exact heap_alloc_old (w:=w.drew) _ this
def C7S{R:Type}(cfg:Cfg)(s:St)(d t t':Nat)(x y:Operand)(U:Ke R):Option R:=
 match L1 s x,L1 s y,cfg.el t,Nat.beq t t' with
 | some (.one (.sub id q off ver),rx),some (.one ly,ry),some e,true=>match cfg.ty e,s.getR id,s.getX q with
  | some ti,some r,some i=>match Nat.beq r.ver ver,N9 r.k (rd r.k r.xs i) off with
   | true,some sl=>match Nat.beq sl.e e,Nat.beq ti.k.sz sl.k.sz,sl.k.flat with
    | true,true,true=>match C2j cfg s t sl.k ly with
     | some (ys,r2,_)=>bif decide (sl.xs.length+ys.length<=9223372036854775807) then bif decide ((sl.xs.length+ys.length)*ti.bytes<=140737488355328) then
       U ⟨rx++ry++([(.r id,.r r),(.x q,.x i)]++r2),[(.t d,some (.t (.one (.ext id q off (r.ver+1) (M6 r.k off) sl.e sl.k (sl.xs++ys))))),(.r id,some (.r ⟨r.e,r.k,r.xs,r.ver+1⟩))],[]⟩ else none else none
     | none=>none
    | _,_,_=>none
   | _,_=>none
  | _,_,_=>none
 | _,_,_,_=>none
theorem C7T{R:Type}{P:Program}{cfg:Cfg}(hc:J9 P cfg){s:St}{d t t':Nat}{x y:Operand}{U:Ke R}{r:R}(h:C7S cfg s d t t' x y U=some r) :
  OutE P s (.call {callee:=.builtin .append,args:=#[x,y],argTypes:=#[t,t']}) d U r:=by
 unfold C7S at h;split at h
 ·rename_i id q off ver rx ly ry e ex ey et htt;have htt:=A0 htt;subst htt;split at h
  ·rename_i ti row i eti er eq;split at h
   ·rename_i sl ever esl;have ever:=A0 ever;split at h
    ·rename_i he hsz hflat;have he:=A0 he;have hsz:=A0 hsz;split at h
     ·rename_i ys r2 o2 e2;subst he;obtain ⟨h63,h⟩:=G7 h;obtain ⟨hby,h⟩:=G7 h;have h63:=A8 h63;have hby:=A8 hby;have hread:Reads s [(Loc.r id,LV.r row),(Loc.x q,LV.x i)]:=by
       intro p hp;rcases B4.1 hp with rfl | hp
       ·exact St.getR_some.1 er
       ·rw [A6.1 hp];exact St.getX_some.1 eq
      refine ⟨_,h,Reads.app.2 ⟨Reads.app.2 ⟨B9 ex,B9 ey⟩,Reads.app.2 ⟨hread,B6h e2⟩⟩,fun n o ho hdst hd w0 Z0 s' a m hr hrd hnew next Q hn=>?_⟩
      clear h
      have hrdA:=Reads.app.1 (Reads.app.1 hrd).1;obtain ⟨hrd2,hrd3⟩:=Reads.app.1 (Reads.app.1 hrd).2;have hrow:s'.get (.r id)=some (.r row):=hrd2 (Loc.r id,LV.r row) A5;have hxq:s'.get (.x q)=some (.x i):=hrd2 (Loc.x q,LV.x i) (B5 _ A5);have hv:LfC s' m (.sub id q off ver) (a.eval x):=D8 ex hr hrdA.1;generalize hxv:a.eval x=v at hv;obtain ⟨hi0,hi1,hoff,hcell⟩:=(hv.2 row i hrow hxq).2 ever;obtain ⟨inner,hown,hcol,hels⟩:=hr.rw id row hrow;rcases hown.2 with ⟨_,hn0⟩ | ⟨g,cap,cur,fz,e0,_,hg,hfz,hnc,hcap,hcs,ht⟩
      ·omega
      ·have hcolg:=hcol g (by rw [e0];rfl);have hel:=hels i.toNat hi1;rw [<- A8l hi1] at hel;obtain ⟨v',hv',hosl⟩:=B3j hel esl;have hvv:v' = v:=by
        have hlt:off<row.k.sz:=hoff;have h1:inner[i.toNat*row.k.sz+off]? = some v':=by
         rw [F8 hlt,F3] at hv';exact hv'
        have h2:=S3 hown (g:=g) (by rw [e0];rfl) _ _ h1;rw [e0,O2] at hcell;rw [h2] at hcell;injection hcell
       subst hvv;generalize hp : [2*id] ++ [i.toNat]++M6 row.k off=p at hosl;have hp2:p=2*id::i.toNat::M6 row.k off:=by rw [<- hp];simp
       obtain ⟨inner0,hown0,hcol0,hels0⟩:=hosl;have hsrc:=C47 e2 hr hrd3 (D8 ey hr hrdA.2) d sl.xs.length (Keeps.refl m.w m.Z) (fun id2 hid j=>by
        have:o2=none:=by
         unfold C2j at e2;rw [hflat] at e2;simp only at e2;split at e2
         ·split at e2
          ·injection e2 with e2;injection e2 with _ e2;injection e2 with _ e2;exact e2.symm
          ·cases e2
         ·cases e2
        rw [this] at hid;cases hid)
       obtain ⟨A,c,news,hyv,hnl,hcl,hA,hnew2⟩:=hsrc.cells;obtain ⟨f,z,hi,hs,hb,hz,hzc,_⟩:=hc.info eti;have hzs:z.cells.size=sl.k.sz:=by rw [<- D4,hzc,B6d,hsz]
       obtain ⟨u,w',hrun,hown',hold,hgr,hblk⟩:=C7R (P:=P) (ty:=o.type) (c:=c) (hc.el et) hi hz (hs.trans hsz) hb hzs sl.k.sz_pos hown0 hnl hcl (fun hA0=>by rw [hA hA0];rfl) hnew2.one (by simp only [maxLen];omega) hby;have hrunO:(execOp a.eval o).run P m.w=.ok (.value u) w':=by
        simp [execOp,ho,hyv,hxv,resolve,invoke,builtin,C4];rw [hrun];rfl
       let Z1:Col:=fun b=>if u.ownBlock=some b then some p else m.Z b
       have hsame:∀ b,b<m.w.heap.size->m.Z b≠some p->w'.heap[b]? = m.w.heap[b]?/\Z1 b=m.Z b:=by
        intro b hb hne;have hvb:some b≠v'.ownBlock:=fun e=>hne (hcol0 b e.symm)
        refine ⟨hgr.block b hb hvb,D6 fun e=>?_⟩;rcases hblk with h' | h'
        ·rw [h'] at e;exact hvb e.symm
        ·rw [h'] at e;injection e with e;omega
       have hkeep:Keeps m.w w' m.Z Z1:=fun b hb hlt=>by
        obtain ⟨g1,g2⟩:=hsame b hlt (by rw [hb];simp);exact ⟨g1,g2.trans hb⟩
       have hoth:Others m.w w' m.Z Z1 p:=fun b qq hb hne hlt=>by
        obtain ⟨g1,g2⟩:=hsame b hlt (by rw [hb];intro e;injection e with e;exact hne [] (by rw [e];simp));exact ⟨g1,g2.trans hb⟩
       have hO:Only m.w w' m.Z Z1 (2*id):=fun b hlt hq=>hsame b hlt (by rw [hp2];exact hq _)
       have hcolu:∀ b,v'.ownBlock=some b->Z1 b=some p:=fun b hb=>by
        show (if u.ownBlock=some b then some p else m.Z b)=some p;split
        ·rfl
        ·exact hcol0 b hb
       have hflatm:∀ {pp pp':H9} {y:sl.k.T} {ds:List Value},Ow sl.k m.w m.Z pp y ds->Ow sl.k w' Z1 pp' y ds:=fun hy=>B24 hflat hy hkeep
       have hinl:=hown0.1;have holdO:OwL (Ow sl.k w' Z1) sl.e sl.k.sz w' Z1 p sl.xs v':=⟨inner0,hold,hcolu,fun j hj=>hflatm (hels0 j hj)⟩;have hnewO:OwL (Ow sl.k w' Z1) sl.e sl.k.sz w' Z1 p (sl.xs++ys) u:=by
        refine ⟨inner0++news,by rw [A3];exact hown',fun b hb=>G0 hb,fun j hj=>?_⟩;by_cases hin:j<sl.xs.length
        ·have e3:(sl.xs++ys)[j]=sl.xs[j]:=I8 hin;have hle:j*sl.k.sz+sl.k.sz<=inner0.length:=by rw [hinl,<- G2];exact E1 _ hin
         have e4:((inner0++news).drop (j*sl.k.sz)).take sl.k.sz=(inner0.drop (j*sl.k.sz)).take sl.k.sz:=by
          rw [J3 (by omega),F2 (by rw [C5];omega)]
         simp only [e3,e4];exact hflatm (hels0 j hin)
        ·have hil:j-sl.xs.length<ys.length:=by
          have:=hj;simp only [A3] at this;omega
         have e3:(sl.xs++ys)[j]=ys[j-sl.xs.length]:=J6 (by omega);have e4:((inner0++news).drop (j*sl.k.sz)).take sl.k.sz=(news.drop ((j-sl.xs.length)*sl.k.sz)).take sl.k.sz:=by
          have hq:j*sl.k.sz=inner0.length+(j-sl.xs.length)*sl.k.sz:=by
           rw [hinl,<- J7];congr 1;omega
          rw [hq,<- L6,A0L]
         simp only [e3,e4];exact hflatm (hnew2.get (j-sl.xs.length) hil)
       have hpne:∀ (j:Nat),j≠i.toNat->∀ t r,([2*id] ++ [j])++t≠p++r:=fun j hj t r hh=>by
        rw [hp2] at hh;simp at hh;exact hj hh.1
       have helsNew:∀ j (hj:j<row.xs.length),Ow row.k w' Z1 ([2*id] ++ [j]) (row.xs[j]) ((inner.drop (j*row.k.sz)).take row.k.sz):=by
        intro j hj;by_cases hji:j=i.toNat
        ·subst hji;have:=B3k hel esl hv' (by rw [hp];exact holdO) (by rw [hp];exact hoth) hkeep (B13 esl);rw [A8l hi1] at this;exact this
        ·exact Ow.move (hels j hj) (hoth.moves fun t r=>hpne j hji t r) hkeep
       have hgsame:=hsame g (A9.1 hg).1 (by rw [hcolg,hp2];simp);have h2:=hr.updRowC (Z1:=Z1) hrow hO hgr.size hgr.os hgr.tape hgr.output (row:=⟨row.e,row.k,row.xs,row.ver+1⟩) rfl rfl (A4f _)
        ⟨inner,A8k hown (fun g' hg'=>by
         have:g' = g:=by
          rw [e0] at hg';simp only [Value.ownBlock] at hg';injection hg' with hg';exact hg'.symm
         rw [this];exact hgsame.1),fun g' hg'=>by
         have:g' = g:=by
          rw [e0] at hg';simp only [Value.ownBlock] at hg';injection hg' with hg';exact hg'.symm
         rw [this];exact hgsame.2.trans hcolg,helsNew⟩
       have h3:=h2.put (d:=d) (v:=.one (.ext id q off (row.ver+1) (M6 row.k off) sl.e sl.k (sl.xs++ys))) (x:=u) hd ⟨A5I hown',fun r2 i2 hr2 hi2=>by
        rw [St.get_cons_same] at hr2;injection hr2 with hr2;injection hr2 with hr2;subst hr2
        rw [St.get_cons_ne (by simp),hxq] at hi2;injection hi2 with hi2;injection hi2 with hi2;subst hi2
        refine ⟨C6 _,fun _=>⟨hi0,hi1,?_⟩⟩;have e9 : [2*id]++(i.toNat::M6 row.k off)=p:=by rw [hp2];rfl
        rw [e9];exact hnewO⟩
       simp only [Oper.wp,hrunO,Oper.upon,hdst];exact hn _ _ h3
     ·cases h
    ·cases h
   ·cases h
  ·cases h
 ·cases h
theorem B78:∀ {k:K} {x x':k.T} {off:Nat} {sl:SL} {w w':World} {Z Z':Col} {P:H9} {cs:List Value} {ys:List sl.k.T} {v:Value},Ow k w Z P x cs->N9 k x off=some sl->
  OwL (Ow sl.k w' Z') sl.e sl.k.sz w' Z' (P++M6 k off) ys v->(∀ q,Moves w w' Z Z' (P++q) (P++q))->Keeps w w' Z Z'->A8w k x off sl.k ys=some x'->
  off<k.sz/\Ow k w' Z' P x' (cs.take off ++ [v]++cs.drop (off+1))
 | .sl e k,xs,x',0,sl,w,w',Z,Z',P,cs,ys,v,h,hg,ho,hm,hk,hs=>by
  simp only [N9] at hg;injection hg with hg;subst hg
  obtain ⟨v0,rfl,_⟩:=h;simp only [A8w] at hs;obtain ⟨ek,rfl⟩:=S5 hs;exact ⟨T7,_,rfl,by simpa [M6] using ho⟩
 | .sl e k,xs,x',_+1,sl,w,w',Z,Z',P,cs,ys,v,h,hg,ho,hm,hk,hs=>by simp [N9] at hg
 | .pair a b,x,x',j,sl,w,w',Z,Z',P,cs,ys,v,h,hg,ho,hm,hk,hs=>by
  obtain ⟨c0,c1,rfl,h0,h1⟩:=h;have hl:=h0.len;have hl1:=h1.len;have hm0:∀ q,Moves w w' Z Z' (P ++ [0]++q) (P ++ [0]++q):=fun q=>by rw [A7];exact hm _
  have hm1:∀ q,Moves w w' Z Z' (P ++ [1]++q) (P ++ [1]++q):=fun q=>by rw [A7];exact hm _
  simp only [N9] at hg;simp only [A8w] at hs;split at hg
  ·rename_i hb;have hlt:j<a.sz:=by simpa [L4] using hb
   rw [hb] at hs;simp only at hs;split at hs
   ·rename_i z hz;injection hs with hs;subst hs
    have e:P++M6 (.pair a b) j=P ++ [0]++M6 a j:=by simp [M6,hb]
    rw [e] at ho;obtain ⟨g1,g2⟩:=B78 h0 hg ho hm0 hk hz;refine ⟨by simp only [K.sz];omega,c0.take j ++ [v]++c0.drop (j+1),c1,?_,g2,Ow.move h1 (by simpa using hm1 []) hk⟩;rw [F2 (by omega),J3 (by omega),A7,A7,A7]
   ·cases hs
  ·rename_i hb;have hlt:¬ j<a.sz:=fun hh=>by rw [show Nat.blt j a.sz=true from L4.mpr hh] at hb;cases hb
   rw [show Nat.blt j a.sz=false by cases h9:Nat.blt j a.sz with
    | true=>exact absurd (L4.mp h9) hlt
    | false=>rfl] at hs
   simp only at hs;split at hs
   ·rename_i z hz;injection hs with hs;subst hs
    have e:P++M6 (.pair a b) j=P ++ [1]++M6 b (j-a.sz):=by simp [M6,hb]
    rw [e] at ho;obtain ⟨g1,g2⟩:=B78 h1 hg ho hm1 hk hz;refine ⟨by simp only [K.sz];omega,c0,c1.take (j-a.sz) ++ [v]++c1.drop (j-a.sz+1),?_,Ow.move h0 (by simpa using hm0 []) hk,g2⟩;rw [List.take_append,A4d,E8 (by omega),I5 (by omega),hl,show j+1-a.sz=j-a.sz+1 by omega];simp
   ·cases hs
 | .int _,_,_,_,_,_,_,_,_,_,_,_,_,_,hg,_,_,_,_=>by simp [N9] at hg
 | .bool,_,_,_,_,_,_,_,_,_,_,_,_,_,hg,_,_,_,_=>by simp [N9] at hg
 | .fnc _,_,_,_,_,_,_,_,_,_,_,_,_,_,hg,_,_,_,_=>by simp [N9] at hg
 | .str,_,_,_,_,_,_,_,_,_,_,_,_,_,hg,_,_,_,_=>by simp [N9] at hg
 | .rs _ _,_,_,_,_,_,_,_,_,_,_,_,_,_,hg,_,_,_,_=>by simp [N9] at hg
 | .pa _ _,_,_,_,_,_,_,_,_,_,_,_,_,_,hg,_,_,_,_=>by simp [N9] at hg
def C7U{R:Type}(s:St)(q q':Nat)(i:Int)(k:Option R):Option R:=match Nat.beq q q' with
 | true=>k
 | false=>match s.getX q' with
  | some j=>bif decide (i=j) then k else none
  | none=>none
theorem C38{R:Type}{s:St}{q q':Nat}{i:Int}{k:Option R}{r:R}(h:C7U s q q' i k=some r)(hi:s.getX q=some i):k=some r/\s.getX q' = some i:=by
 unfold C7U at h;split at h
 ·rename_i e;have e:=A0 e;subst e;exact ⟨h,hi⟩
 ·split at h
  ·rename_i j ej;by_cases e:i=j
   ·rw [A0I e] at h;exact ⟨h,by rw [e];exact ej⟩
   ·rw [Q5 e] at h;cases h
  ·cases h
def C03{R:Type}(cfg:Cfg)(s:St)(t:Nat)(x y:Operand)(U:Ke R):Option R:=
 match L1 s x,L1 s y,cfg.ty t with
 | some (.one (.ept id q off),rx),some (.one (.ext id' q' off' ver p e k zs),ry),some ti=>match s.getR id,s.getX q,Nat.beq id id',Nat.beq off off',Nat.beq ti.k.sz 1 with
  | some r,some i,true,true,true=>match Nat.beq r.ver ver,N9 r.k (rd r.k r.xs i) off with
   | true,some sl=>match decide (p=M6 r.k off),Nat.beq sl.e e,A7I k sl.k zs with
    | true,true,some zs'=>match A8w r.k (rd r.k r.xs i) off sl.k zs' with
     | some x'=>C7U s q q' i (U ⟨rx++ry ++ [(.r id,.r r),(.x q,.x i),(.x q',.x i)],[(.r id,some (.r ⟨r.e,r.k,r.xs.set i.toNat x',r.ver+1⟩))],[]⟩)
     | none=>none
    | _,_,_=>none
   | _,_=>none
  | _,_,_,_,_=>none
 | _,_,_=>none
theorem C39{R:Type}{P:Program}{cfg:Cfg}(hc:J9 P cfg){s:St}{t:Nat}{x y:Operand}{U:Ke R}{r:R}(h:C03 cfg s t x y U=some r):OutS P s (.store t x y) U r:=by
 unfold C03 at h;split at h
 ·rename_i id q off rx id' q' off' ver p e k zs ry ti ex ey et;split at h
  ·rename_i row i er eq e1 e3 e4;have e1:=A0 e1;have e3:=A0 e3;have e4:=A0 e4;subst e1;subst e3;split at h
   ·rename_i sl ever esl;have ever:=A0 ever;split at h
    ·rename_i zs' ep ee ecast;have ep:=A8 ep;have ee:=A0 ee;obtain ⟨ek,rfl⟩:=S5 ecast;subst ek;split at h
     ·rename_i x' hset;obtain ⟨h,eq2⟩:=C38 h eq;have hread:Reads s [(Loc.r id,LV.r row),(Loc.x q,LV.x i),(Loc.x q',LV.x i)]:=by
       intro p hp;rcases B4.1 hp with rfl | hp
       ·exact St.getR_some.1 er
       ·rcases B4.1 hp with rfl | hp
        ·exact St.getX_some.1 eq
        ·rw [A6.1 hp];exact St.getX_some.1 eq2
      refine ⟨_,h,Reads.app.2 ⟨Reads.app.2 ⟨B9 ex,B9 ey⟩,hread⟩,fun n o ho hdst w0 Z0 s' a m hr hrd hnew next Q hn=>?_⟩
      clear h
      have hrdA:=Reads.app.1 (Reads.app.1 hrd).1;have hrd2:=(Reads.app.1 hrd).2;have hrow:s'.get (.r id)=some (.r row):=hrd2 (Loc.r id,LV.r row) A5;have hix:s'.get (.x q)=some (.x i):=hrd2 (Loc.x q,LV.x i) (B5 _ A5);have hix2:s'.get (.x q')=some (.x i):=hrd2 (Loc.x q',LV.x i) (B5 _ (B5 _ A5));obtain ⟨hx1,hx2,hx⟩:=(D8 ex hr hrdA.1).2 row i hrow hix;have hy:LfC s' m (.ext id q' off ver p e sl.k zs) (a.eval y):=D8 ey hr hrdA.2;generalize hyv:a.eval y=v at hy;obtain ⟨hone,hy2⟩:=hy;obtain ⟨_,hy3⟩:=hy2 row i hrow hix2;obtain ⟨_,_,hol⟩:=hy3 ever;obtain ⟨inner,hown,hcol,hels⟩:=hr.rw id row hrow;rcases hown.2 with ⟨_,hn0⟩ | ⟨g,cap,cur,fz,e0,_,hg,hfz,hnc,hcap,hcs,ht⟩
      ·omega
      ·have hcolg:=hcol g (by rw [e0];rfl);have hinl:=hown.1;have hi2:i.toNat*row.k.sz+row.k.sz<=inner.length:=by rw [hinl,<- G2];exact E1 _ hx2
       have how:=hels i.toNat hx2;rw [<- A8l hx2] at how
       let w':=m.w.setRow g (cur.toList.take (i.toNat*row.k.sz+off) ++ [v]++cur.toList.drop (i.toNat*row.k.sz+off + [v].length)).toArray
       have hb':∀ b,b≠g->w'.heap[b]? = m.w.heap[b]?:=fun b hb=>T3 m.w g b _ hb
       have hk':Keeps m.w w' m.Z m.Z:=fun b hb hlt=>⟨hb' b (fun e=>by rw [e,hcolg] at hb;cases hb),hb⟩
       have hmv:∀ p,p≠ []->Moves m.w w' m.Z m.Z (2*id::p) (2*id::p):=by
        intro p hp b q' hb hlt;refine ⟨hb' b fun e=>?_,hb⟩;rw [e,hcolg] at hb;injection hb with hb
        simp [hp] at hb
       have hol':OwL (Ow sl.k w' m.Z) sl.e sl.k.sz w' m.Z ([2*id] ++ [i.toNat]++M6 row.k off) zs v:=by
        obtain ⟨v0,e9,h9⟩:=Ow.move (k:=.sl e sl.k) (cs:= [v]) ⟨v,rfl,hol⟩ (by
         have:=hmv (i.toNat::p) (by simp);exact this) hk'
        injection e9 with e9;subst e9
        rw [ee,<- ep];simpa using h9
       obtain ⟨hoff,hnew'⟩:=B78 how esl hol' (fun qq=>by
        have:=hmv (i.toNat::qq) (by simp);simpa using this) hk' hset
       have hcurl:cur.toList.length=cap*row.k.sz:=by rw [D4];exact hcs
       have hcapl:row.xs.length*row.k.sz<=cap*row.k.sz:=E1 _ hnc;have hcells:v.cells = [v].toArray:=by cases v<;>first | rfl | simp [Value.oneCell'] at hone
       have hst:=A9Q (P:=P) hc et (o:=i.toNat*row.k.sz+off) hcells (by simpa using e4.symm) hg hfz.1 (by rw [<- D4,hcurl];simp only [G5];omega) (by simpa using hone);rw [e0,O2,add_plain,D9] at hx;have hrun':(execOp a.eval o).run P m.w=.ok .skip w':=by
        simp [execOp,ho,hx,hyv,Instr.storeAt,Instr.sureAddr,C4];rw [hst];rfl
       have h2:=hr.updRow (w':=w') hrow (row:=⟨row.e,row.k,row.xs.set i.toNat x',row.ver+1⟩) (by
         intro b hb hq;have hbg:b≠g:=fun e=>hq [] (by rw [e];exact hcolg)
         exact ⟨hb' b hbg,rfl⟩) (by simp [w']) rfl rfl rfl rfl (by simp) (by simp) (by
        refine ⟨inner.take (i.toNat*row.k.sz+off) ++ [v]++inner.drop (i.toNat*row.k.sz+off + [v].length),⟨?_,.inr ⟨g,cap,_,fz,?_,G6 _,O1 m.w g cur _ row.e _ hg,?_,?_,hcap,?_,?_⟩⟩,fun g' hg'=>?_,fun j hj=>?_⟩
        ·simp only [A3,B2,C5,V4,G5];omega
        ·simpa using e0
        ·rw [show (cur.toList.take (i.toNat*row.k.sz+off) ++ [v]++cur.toList.drop (i.toNat*row.k.sz+off + [v].length)).toArray.size=cur.size by
          simp only [F7,A3,B2,C5,G5];omega]
         exact hfz
        ·simpa using hnc
        ·simp only [F7,A3,B2,C5,G5];omega
        ·simp only [V4];rw [<- ht];exact C0s (o:=i.toNat*row.k.sz+off) (V:= [v]) (by have:=ht▸hinl;simp only [G5];omega) (by rw [hcurl];exact hcapl)
        ·have:g' = g:=by
          rw [e0] at hg';simp only [Value.ownBlock] at hg';injection hg' with hg';exact hg'.symm
         subst this;exact hcolg
        ·simp only [V4] at hj;by_cases hji:j=i.toNat
         ·subst hji;have e5:(row.xs.set i.toNat x')[i.toNat]'(by simpa using hj)=x':=A42 _;simp only [e5];have e6:=C48 (L:=inner) (V:= [v]) (off:=off) (by simp only [G5];omega) hi2;simp only [spl] at e6;rw [e6];exact hnew'
         ·have e5:(row.xs.set i.toNat x')[j]'(by simpa using hj)=row.xs[j]:=A61 (R5 hji) _;simp only [e5];have e6:=B95 (L:=inner) (V:= [v]) (off:=off) (j:=j) (by simp only [G5];omega) hi2 hji;simp only [spl] at e6;rw [e6];exact (hels j hj).move (hmv [j] (by simp)) hk')
       simp only [Oper.wp,hrun',Oper.upon,hdst];exact hn _ _ h2
     ·cases h
    ·cases h
   ·cases h
  ·cases h
 ·cases h
def D18(s:St)(x:Operand):Bool:=match L1 s x with
 | some (.one (.sub _ _ _ _),_)=>true
 | _=>false
def D19(s:St)(x:Operand):Bool:=match L1 s x with
 | some (.one (.ext _ _ _ _ _ _ _ _),_)=>true
 | _=>false
def mvF(d hi lo hi2:Nat):H9->Option H9
 | []=>some [2*d]
 | j::q=>match Nat.blt j hi with
  | true=>some (2*d::j::q)
  | false=>match Nat.ble lo j with
   | true=>some (2*d::(hi+(j-lo))::q)
   | false=>none
def D1A(s:St)(x y:Operand):Bool:=match L1 s x,L1 s y with
 | some (.one (.vw id 0 _),_),some (.one (.vw id' _ _),_)=>match s.getR id with
  | some r=>Nat.beq id id'&&!r.k.flat
  | none=>false
 | _,_=>false
def C7V{R:Type}(cfg:Cfg)(s:St)(d t t':Nat)(x y:Operand)(U:Ke R):Option R:=
 match L1 s x,L1 s y,cfg.el t,Nat.beq t t' with
 | some (.one (.vw id 0 hi),rx),some (.one (.vw id' lo hi2),ry),some e,true=>match cfg.ty e,s.getR id,Nat.beq id id' with
  | some ti,some r,true=>match Nat.beq r.e e,Nat.beq ti.k.sz r.k.sz with
   | true,true=>bif decide (0<r.xs.length) then bif decide (hi<=lo) then
     U ⟨rx++ry ++ [(.r id,.r r)],[(.t d,some (.t (.one (.own d)))),(.r d,some (.r ⟨r.e,r.k,r.xs.take hi++(r.xs.take hi2).drop lo,0⟩)),(.r id,none)],[.r d]⟩ else none else none
   | _,_=>none
  | _,_,_=>none
 | _,_,_,_=>none
theorem C7W{α:Type}{L:List α}{a n i sz:Nat}(h:(i+1)*sz<=n):(((L.drop a).take n).drop (i*sz)).take sz=(L.drop (a+i*sz)).take sz:=by
 rw [A0K,M9,L6]
 congr 1
 rw [G2] at h;omega
theorem C7a{R:Type}{P:Program}{cfg:Cfg}(hc:J9 P cfg){s:St}{d t t':Nat}{x y:Operand}{U:Ke R}{r:R}(h:C7V cfg s d t t' x y U=some r) :
  OutE P s (.call {callee:=.builtin .append,args:=#[x,y],argTypes:=#[t,t']}) d U r:=by
 unfold C7V at h;split at h
 ·rename_i id hi rx id' lo hi2 ry e ex ey et htt;have htt:=A0 htt;subst htt;split at h
  ·rename_i ti row eti er eid;have eid:=A0 eid;subst eid;split at h
   ·rename_i he hsz;have he:=A0 he;have hsz:=A0 hsz;subst he;obtain ⟨h0,h⟩:=G7 h;obtain ⟨hhl,h⟩:=G7 h;have h0:=A8 h0;have hhl:=A8 hhl;refine ⟨_,h,Reads.app.2 ⟨Reads.app.2 ⟨B9 ex,B9 ey⟩,fun p hp=>by rw [A6.1 hp];exact St.getR_some.1 er⟩,fun n o ho hdst hd w0 Z0 s' a m hr hrd hnew next Q hn=>?_⟩
    clear h
    have hrdA:=Reads.app.1 (Reads.app.1 hrd).1;have hrow:s'.get (.r id)=some (.r row):=(Reads.app.1 hrd).2 (Loc.r id,LV.r row) A5;have hx:LfC s' m (.vw id 0 hi) (a.eval x):=D8 ex hr hrdA.1;have hy:LfC s' m (.vw id lo hi2) (a.eval y):=D8 ey hr hrdA.2;obtain ⟨_,hhi,hxv⟩:=hx.2 row hrow;obtain ⟨hlh,hhi2,hyv⟩:=hy.2 row hrow;obtain ⟨f,z,hi',hs,hb,hz,hzc,_⟩:=hc.info eti;obtain ⟨inner,hown,hcol,hels⟩:=hr.rw id row hrow;rcases hown.2 with ⟨_,hn0⟩ | ⟨g,cap,cur,fz,e0,_,hg,hfz,hnc,hcap,hcs,ht⟩
    ·omega
    ·have hcolg:=hcol g (by rw [e0];rfl);have hgl:=(A9.1 hg).1;have hinl:=hown.1;have hk0:=row.k.sz_pos;have hsz':f.size=row.k.sz:=hs.trans hsz;have hml:hi2*row.k.sz<=inner.length:=by rw [hinl];exact E1 _ hhi2
     have hhl2:hi*row.k.sz<=inner.length:=by rw [hinl];exact E1 _ hhi
     generalize hnews:(inner.drop (lo*row.k.sz)).take ((hi2-lo)*row.k.sz)=news;have hnl:news.length=(hi2-lo)*row.k.sz:=by
      rw [<- hnews,B2,C5,A5h];omega
     have hnc2:∀ j u,news[j]? = some u->inner[lo*row.k.sz+j]? = some u:=by
      intro j u hu;rw [<- hnews,L3] at hu;split at hu
      ·rwa [F3] at hu
      ·cases hu
     have hcells:=S3 hown (g:=g) (by rw [e0];rfl);have hnmem:∀ u∈news,u∈inner:=fun u hu=>by
      rw [<- hnews] at hu;exact R8 (A1M hu)
     have hone:∀ u∈inner,u.oneCell' = true:=by
      intro u hu;obtain ⟨j,hj,rfl⟩:=A5i.1 hu;have hq:j / row.k.sz<row.xs.length:=(U8 hk0).2 (by rw [<- hinl];exact hj);have:=(hels _ hq).one;refine this _ (A45.2 ⟨j % row.k.sz,?_⟩);rw [F8 (B0Q _ hk0),F3,A6S,A60];exact C0 hj
     have hxv':a.eval x=.slice (some ⟨g,0,none⟩) hi cap:=by
      rw [hxv,e0];simp only [cutV,Nat.sub_zero,A0d,L7];split
      ·rfl
      ·rw [add_plain]
     have hyv':∃ A:Addr,a.eval y=.slice (some A) (hi2-lo) (cap-lo)/\∀ j u,news[j]? = some u->m.w.cell? (A.add j)=some u:=by
      rw [hyv,e0];by_cases hcl:cap=lo
      ·refine ⟨⟨g,0,none⟩,by simp [cutV,hcl],fun j u hu=>?_⟩;have:news = []:=F0 (by rw [hnl,show hi2-lo=0 by omega,A0d]);rw [this] at hu;simp at hu
      ·refine ⟨⟨g,lo*row.k.sz,none⟩,by simp [cutV,hcl,add_plain],fun j u hu=>?_⟩;have:=hcells _ _ (hnc2 j u hu);rw [add_plain] at this ⊢;rw [D9] at this;exact this
     obtain ⟨A,hyA,hAc⟩:=hyv';have hcurl:cur.toList.length=cap*row.k.sz:=by rw [D4];exact hcs
     have hfit:hi*row.k.sz+news.length<=cur.size:=by
      rw [hnl,hcs,<- J7];exact E1 _ (by omega)
     have hrun:=A1O (P:=P) m.w t o.type row.e f (hc.el et) hi' g hi cap cur fz hg hfz.1 A (hi2-lo) (cap-lo) news (by rw [hsz'];exact hnl) hAc (fun u hu=>hone u (hnmem u hu)) (by omega) (by rw [hsz'];exact hfit);rw [hsz'] at hrun;have hrunO:(execOp a.eval o).run P m.w=.ok (.value (.slice (some ⟨g,0,none⟩) (hi+(hi2-lo)) cap)) (m.w.setRow g (cur.toList.take (hi*row.k.sz)++news++cur.toList.drop (hi*row.k.sz+news.length)).toArray):=by
      simp [execOp,ho,hxv',hyA,resolve,invoke,builtin,C4,-List.append_assoc];rw [hrun];rfl
     let w':=m.w.setRow g (cur.toList.take (hi*row.k.sz)++news++cur.toList.drop (hi*row.k.sz+news.length)).toArray
     have hb':∀ b,b≠g->w'.heap[b]? = m.w.heap[b]?:=fun b hb=>T3 m.w g b _ hb
     have h1:=hr.drop [(id,mvF d hi lo hi2)]
     let Z1:=L0 [(id,mvF d hi lo hi2)] m.Z
     have hZg:Z1 g=some [2*d]:=by
      show L0 [(id,mvF d hi lo hi2)] m.Z g=_;simp [L0,hcolg,A0D,mvF]
     have hO:Only m.w w' Z1 Z1 (2*d):=fun b hb hq=>⟨hb' b (fun e=>hq [] (by rw [e];exact hZg)),rfl⟩
     have hnl':¬ Live ([(id,mvF d hi lo hi2)].map (·.1) |>.map (fun i=>(Loc.r i,(none:Option LV))) |>.append s') (.r d):=by
      rintro ⟨l',lv,hg',hm'⟩;refine hnew (.r d) A5 ⟨l',lv,?_,hm'⟩;by_cases hh:l' = .r id
      ·subst hh;have:St.get ([(Loc.r id,(none:Option LV))]++s') (.r id)=none:=St.get_cons_same _ _ _;have hg2:St.get ([(Loc.r id,(none:Option LV))]++s') (.r id)=some lv:=hg';rw [this] at hg2;cases hg2
      ·have hg2:St.get ([(Loc.r id,(none:Option LV))]++s') l' = some lv:=hg'
       rwa [A0v,St.get_cons_ne (R5 hh)] at hg2
     have hkeep:Keeps m.w w' m.Z Z1:=fun b hb hlt=>⟨hb' b (fun e=>by rw [e,hcolg] at hb;cases hb),(P6 m.w _ m.Z b hb hlt).2⟩
     have hmv:∀ j j',mvF d hi lo hi2 (j :: [])=some [2*d,j']->(∀ q,mvF d hi lo hi2 (j::q)=some (2*d::j'::q))->Moves m.w w' m.Z Z1 ([2*id] ++ [j]) ([2*d] ++ [j']):=by
      intro j j' _ hq b q hb hlt;have hb2:m.Z b=some (2*id::j::q):=hb;refine ⟨hb' b (fun e=>by rw [e,hcolg] at hb2;injection hb2 with hb2;injection hb2 with _ hb2;cases hb2),?_⟩;show L0 [(id,mvF d hi lo hi2)] m.Z b=_;simp only [L0,hb2,A0D,Q7,hq];rfl
     have hlen:(row.xs.take hi++(row.xs.take hi2).drop lo).length=hi+(hi2-lo):=by
      simp only [A3,B2,C5];omega
     have hsz2:(cur.toList.take (hi*row.k.sz)++news++cur.toList.drop (hi*row.k.sz+news.length)).toArray.size=cur.size:=by
      simp only [F7,A3,B2,C5,D4];omega
     have htk:cur.toList.take (hi*row.k.sz)=inner.take (hi*row.k.sz):=by
      rw [<- ht,M9,P2 (E1 _ hhi)]
     have h2:=h1.only (d:=d) hd hnl' (row:=⟨row.e,row.k,row.xs.take hi++(row.xs.take hi2).drop lo,0⟩) (v:=.slice (some ⟨g,0,none⟩) (hi+(hi2-lo)) cap) (w':=w') (Z':=Z1) hO (by simp [w']) rfl rfl rfl (by
      refine ⟨inner.take (hi*row.k.sz)++news,⟨?_,.inr ⟨g,cap,_,fz,?_,G6 _,O1 m.w g cur _ row.e _ hg,by rw [hsz2];exact hfz,?_,hcap,by rw [hsz2];exact hcs,?_⟩⟩,fun g' hg'=>?_,fun j hj=>?_⟩
      ·simp only [hlen,A3,B2,hnl,J7];omega
      ·simp only [hlen]
      ·simp only [hlen];omega
      ·simp only [hlen,htk];have:(inner.take (hi*row.k.sz)++news).length=(hi+(hi2-lo))*row.k.sz:=by
        simp only [A3,B2,hnl,J7];omega
       rw [<- this];exact R7
      ·simp only [Value.ownBlock,H5] at hg';subst hg';exact hZg
      ·rw [hlen] at hj;have htl:(inner.take (hi*row.k.sz)).length=hi*row.k.sz:=by rw [B2];omega
       by_cases hjh:j<hi
       ·have e1:(row.xs.take hi++(row.xs.take hi2).drop lo)[j]'(by rw [hlen];exact hj)=row.xs[j]'(by omega):=by
         rw [I8 (by rw [B2];omega),A3u]
        have hle:j*row.k.sz+row.k.sz<=hi*row.k.sz:=by rw [<- G2];exact E1 _ hjh
        have e2:((inner.take (hi*row.k.sz)++news).drop (j*row.k.sz)).take row.k.sz=(inner.drop (j*row.k.sz)).take row.k.sz:=by
         rw [J3 (by omega),F2 (by rw [C5];omega),A0K,M9]
         congr 1
         omega
        simp only [e1,e2];exact (hels j (by omega)).move (hmv j j (by simp [mvF,A0S.2 hjh]) (fun q=>by simp [mvF,A0S.2 hjh])) hkeep
       ·have hq:hi+(lo+(j-hi)-lo)=j:=by omega
        have e1:(row.xs.take hi++(row.xs.take hi2).drop lo)[j]'(by rw [hlen];exact hj)=row.xs[lo+(j-hi)]'(by omega):=by
         rw [J6 (by rw [B2];omega),A3v,A3u]
         congr 1
         rw [B2];omega
        have e2:((inner.take (hi*row.k.sz)++news).drop (j*row.k.sz)).take row.k.sz=(inner.drop ((lo+(j-hi))*row.k.sz)).take row.k.sz:=by
         have:j*row.k.sz=(inner.take (hi*row.k.sz)).length+(j-hi)*row.k.sz:=by
          rw [htl,<- J7];congr 1;omega
         rw [this,<- L6,A0L,<- hnews,C7W (by exact E1 _ (by omega)),<- J7]
        simp only [e1,e2];have hnb:Nat.blt (lo+(j-hi)) hi=false:=by
         cases e:Nat.blt (lo+(j-hi)) hi with
         | true=>have:=L4.mp e;omega
         | false=>rfl
        have hble:Nat.ble lo (lo+(j-hi))=true:=Nat.ble_eq.mpr (by omega);exact (hels (lo+(j-hi)) (by omega)).move (hmv (lo+(j-hi)) j (by simp only [mvF,hnb,hble,hq]) (fun q=>by simp only [mvF,hnb,hble,hq])) hkeep)
     have h3:=h2.put (d:=d) (v:=.one (.own d)) (x:=.slice (some ⟨g,0,none⟩) (hi+(hi2-lo)) cap) hd ⟨rfl,fun r _=>by simp [upd_same]⟩;simp only [Oper.wp,hrunO,Oper.upon,hdst];exact hn _ _ h3
   ·cases h
  ·cases h
 ·cases h
def C7b{R:Type}(s:St)(d:Nat)(F:C8c)(args:List Operand)(U:Ke R):Option R:=
 match args with
 | [x,y]=>match L1 s x,L1 s y with
  | some (.one (.ptr b off),rx),some (.one (.str id),ry)=>match s.getB b with
   | some c=>match c[off+F.l]? with
    | some (.own rid)=>match s.getR rid with
     | some row=>match A35 row.k F.k row.xs,Nat.beq row.k.sz F.k.sz with
      | some xs,true=>B1 (F.fn xs id) fun i=>bif decide (i<0) then U ⟨rx++(ry ++ [(.b b,.b c),(.r rid,.r row)]),[(.t d,some (.t (.tup [(true,zl F.k),(false,[.bool false])])))],[]⟩
        else U ⟨rx++(ry ++ [(.b b,.b c),(.r rid,.r row)]),[(.t d,some (.t (.tup [(true,leaves row.k (rd row.k row.xs i) (fun j=>.sub rid d j row.ver) 0),(false,[.bool true])]))),(.x d,some (.x i))],[.x d]⟩
      | _,_=>none
     | none=>none
    | _=>none
   | none=>none
  | _,_=>none
 | _=>none
theorem Rel.grow{n:Nat}{w0:World}{Z0:Gh}{s:St}{a:Act}{m:Mem}(h:Rel n w0 Z0 s a m){w':World}(hs:m.w.heap.size<=w'.heap.size)(os:w'.os=m.w.os)(tp:w'.tape=m.w.tape)(ou:w'.output=m.w.output)
  (hb:∀ b,b<m.w.heap.size->w'.heap[b]? = m.w.heap[b]?):Rel n w0 Z0 s a ⟨w',m.Z,m.ρ,m.β⟩:=by
 have hkeep:Keeps m.w w' m.Z m.Z:=fun b h1 h2=>⟨hb b h2,h1⟩
 have hmv:∀ p,Moves m.w w' m.Z m.Z p p:=fun p b q h1 h2=>⟨hb b h2,h1⟩
 have hcell:∀ (x:Addr) v,m.w.cell? x=some v->w'.cell? x=some v:=fun x v hv=>by
  have hlt:=A4g hv;rw [I6 (hb _ hlt)];exact hv
 have hX:Ext s m s ⟨w',m.Z,m.ρ,m.β⟩ (Live s):=⟨hkeep,fun id r' _ hr=>⟨r',hr,rfl,rfl,rfl,C6 _,fun _ _ j v hv=>hcell _ v hv,fun _=>hmv _⟩,fun b c' _ hc=>⟨c',hc,rfl⟩,fun q i _ hi=>hi⟩;refine h.change (fun _=>rfl) hX (fun id r hr=>?_) (fun b c hc=>?_) (fun b h1 h2=>⟨hb b h2,h1⟩) hs os tp ou (fun id r _ _ hg=>⟨⟨r,hg⟩,rfl⟩) (fun b c hg=>.inl ⟨⟨c,hg⟩,rfl⟩)
 ·obtain ⟨v,e,h1⟩:=Ow.move (k:=.sl r.e r.k) ⟨_,rfl,h.rw id r hr⟩ (hmv _) hkeep;injection e with e
  rw [<- e] at h1;exact h1
 ·obtain ⟨cs,h1,h2,h3,h4⟩:=h.bx b c hc;refine ⟨cs,All2.imp (fun l hl u hu=>hu.ext (hX.sub fun q hq=>⟨.b b,.b c,hc,E6.2 ⟨l,hl,hq⟩⟩)) h1,h2,h3,?_⟩;have hlt:=(A9.1 h4).1;exact (hb _ hlt).trans h4
theorem C7c{R:Type}{P:Program}{f:Nat}{F:C8c}(hF:(∀ args w,(callFunc f args).run P w=.ok (.enter f args) w)/\B92 P f F){s:St}{d:Nat}{args:List Operand}{U:Ke R}{r:R}(h:C7b s d F args U=some r)(at':Array TypeId) :
  OutG P s (.call {callee:=.value (.func f),args:=args.toArray,argTypes:=at'}) (some d) U r:=by
 obtain ⟨hent,hF⟩:=hF;unfold C7b at h;split at h
 ·rename_i x y;split at h
  ·rename_i b off rx id ry ex ey;split at h
   ·rename_i c ec;split at h
    ·rename_i rid el;split at h
     ·rename_i row er;split at h
      ·rename_i xs hcast hsz;obtain ⟨i,hi,h⟩:=A14 h;have hsz:=A0 hsz;have hreads:Reads s (rx++(ry ++ [(.b b,.b c),(.r rid,.r row)])):=Reads.app.2 ⟨B9 ex,Reads.app.2 ⟨B9 ey,fun p hp=>by
        simp only [B4,N7,A3q] at hp;rcases hp with rfl | rfl
        ·exact St.getB_some.1 ec
        ·exact St.getR_some.1 er⟩⟩
       have main:∀ (w0:World) (Z0:Gh) (s':St) (a:Act) (m:Mem) (n:Nat) (o:Oper),o.op=.call {callee:=.value (.func f),args:= [x,y].toArray,argTypes:=at'}->o.dst=some d->Rel n w0 Z0 s' a m->Reads s' (rx++(ry ++ [(.b b,.b c),(.r rid,.r row)]))->
         ∀ (next:Act->World->Prop) (Q:Exit->Act->World->Prop),(∀ (cs:List Value) w',Rel n w0 Z0 s' a ⟨w',m.Z,m.ρ,m.β⟩->(i<0->cs=zc F.k)->
          (0<=i->i.toNat<row.xs.length/\cs.length=row.k.sz/\∀ g cap,m.ρ rid=.slice (some ⟨g,0,none⟩) row.xs.length cap->∀ j u,cs[j]? = some u->w'.cell? ⟨g,i.toNat*row.k.sz+j,none⟩=some u)->
          next (a.put (some d) (.tuple #[.agg cs.toArray,.bool (decide (0<=i))])) w')->o.wp P a m.w next Q:=by
        intro w0 Z0 s' a m n o ho hdst hr hrd next Q hn
        obtain ⟨hrx,hrd2⟩:=Reads.app.1 hrd;obtain ⟨hry,hrd3⟩:=Reads.app.1 hrd2;have hb:=hrd3 (.b b,.b c) (by simp);have hrow:=hrd3 (.r rid,.r row) (by simp);have hx:=(D8 ex hr hrx).2 c hb;have hy:a.eval y=.string id:=D8 ey hr hry;obtain ⟨cs0,hcs,_,_,hg⟩:=hr.bx b c hb;obtain ⟨v,hv,hvo⟩:=hcs.get el;have hvr:v=m.ρ rid:=hvo.2 row hrow;have hown:=hr.rw rid row hrow;have hfree:Ro (.rs row.e row.k) m.w (fun _=>none) row.xs [m.ρ rid]:=hown.toFree (fun b q _ _=>⟨rfl,rfl⟩) (fun b _ _=>⟨rfl,rfl⟩);have hro:Ro (.rs row.e F.k) m.w (fun _=>none) xs [m.ρ rid]:=B0n hcast hfree;have hcell:m.w.cell? ⟨(m.β b).g,(m.β b).pre.length+off+F.l,none⟩=some v:=by
         rw [A1J m.w _ _ _ _ _ hg,A0u,A7,E5 (by omega)];have hlt:=(C3.1 hv).1;rw [E3 (by omega),<- hv]
         congr 1;omega
        have hlen:xs.length=row.xs.length:=by
         obtain ⟨A1,c1,e1,_⟩:=hfree;obtain ⟨A2,c2,e2,_⟩:=hro;rw [e1] at e2;injection e2 with e2
         injection e2 with _ e2
         exact e2.symm
        have hcalls:=hF xs id i hi m.w (m.β b).g ((m.β b).pre.length+off) v hcell (by rw [hvr];exact hro);have hrun:(execOp a.eval o).run P m.w=.ok (.enter f #[.pointer (some ⟨(m.β b).g,(m.β b).pre.length+off,none⟩),.string id]) m.w:=by
         have he:=hent #[a.eval x,a.eval y] m.w;have:execOp a.eval o=callFunc f #[a.eval x,a.eval y]:=by
          simp [execOp,ho,resolve,invoke,Act.eval,Deferred.ofValue]
         rw [this,he,hx,hy]
        simp only [Oper.wp,hrun,Oper.upon,hdst];refine hcalls.mono fun e w' hpost=>?_
        obtain ⟨cs,rfl,⟨g1,g2,g3,g4⟩,g5,g6,g7⟩:=hpost;show next (a.put (some d) _) w'
        refine hn cs w' (hr.grow g1 g2 g3 g4 g5) g6 fun h0=>?_
        obtain ⟨k1,k2,k3⟩:=g7 h0;refine ⟨by omega,by omega,fun g cap e j u hu=>?_⟩;have:=k3 ⟨g,0,none⟩ row.xs.length cap (by rw [hvr,e]) j u hu;rw [add_plain,D9,<- hsz] at this;have hlt:=A4g this;rw [I6 (g5 _ hlt)];exact this
       cases h0:decide (i<0) with
       | true=>
        rw [h0] at h;have h0:=A8 h0;refine ⟨_,h,hreads,fun n o ho hdst hlt w0 Z0 s' a m hr hrd hnew next Q hn=>main w0 Z0 s' a m n o ho hdst hr hrd next Q fun cs w' hr' hz _=>?_⟩
        have hz:=hz h0;subst hz;rw [Q5 (show ¬ 0<=i by omega)];refine hn _ ⟨w',m.Z,m.ρ,m.β⟩ (hr'.put (hlt d rfl) ⟨_,rfl,⟨zc F.k,rfl,B6c _ _ _⟩,⟨_,rfl,rfl⟩,trivial⟩)
       | false=>
        rw [h0] at h;have h0:¬ i<0:=A74 h0;refine ⟨_,h,hreads,fun n o ho hdst hlt w0 Z0 s' a m hr hrd hnew next Q hn=>main w0 Z0 s' a m n o ho hdst hr hrd next Q fun cs w' hr' _ hz=>?_⟩
        obtain ⟨k1,k2,k3⟩:=hz (by omega);have hrow:=(Reads.app.1 (Reads.app.1 hrd).2).2 (.r rid,.r row) (by simp);have hr2:=hr'.xw [(d,i)] (fun q hq=>by rw [A6.1 hq];exact hnew _ (by simp));have hrow2:St.get ((.x d,some (.x i))::s') (.r rid)=some (.r row):=(St.get_cons_ne (by simp) _ _).trans hrow;obtain ⟨g,cap,ds,hv0,_,how,hcell⟩:=B23 (hr2.rw rid row hrow2) k1;have hcd:cs=ds:=by
         apply A4c
         ·rw [k2,how.len]
         ·intro j h1 h2;have a1:=k3 g cap hv0 j _ (C0 h1);have a2:=hcell j _ (C0 h2);rw [a1] at a2;injection a2
        subst hcd;rw [A0I (show 0<=i by omega)];refine hn _ ⟨w',m.Z,m.ρ,m.β⟩ (hr2.put (hlt d rfl) ⟨_,rfl,⟨cs,rfl,?_⟩,⟨_,rfl,rfl⟩,trivial⟩);rw [A8l k1];refine B22 how fun j v hj=>⟨how.one v (I7 hj),fun r' i' hr1 hi1=>?_⟩
        have hr1:St.get ((.x d,some (.x i))::s') (.r rid)=some (.r r'):=hr1;have hi1:St.get ((.x d,some (.x i))::s') (.x d)=some (.x i'):=hi1;rw [hrow2] at hr1;rw [St.get_cons_same] at hi1;injection hr1 with hr1;injection hr1 with hr1;subst hr1
        injection hi1 with hi1;injection hi1 with hi1;subst hi1
        have hjl:=(C3.1 hj).1;rw [how.len] at hjl;refine ⟨C6 _,fun _=>⟨by omega,k1,by omega,?_⟩⟩;show w'.cell? ((A0R (m.ρ rid)).add _)=_;have hv1:m.ρ rid=.slice (some ⟨g,0,none⟩) row.xs.length cap:=hv0;rw [hv1,O2,add_plain,D9,D9];exact hcell j v hj
      ·cases h
     ·cases h
    ·cases h
   ·cases h
  ·cases h
 ·cases h
def C3A{R:Type}(s:St)(d g:Nat)(args:List Operand)(U:Ke R):Option R:=
 match args with
 | [x,y]=>match L1 s x,L1 s y with
  | some (.one (.ro e (.int .u8) xs),rx),some (.one (.int .i64 n),ry)=>bif decide (0<n) then U ⟨rx++ry,[(.t d,some (.t (.one (.chk g e (.int .u8) xs n))))],[]⟩ else none
  | _,_=>none
 | _=>none
theorem C5T{R:Type}{P:Program}{f g:Nat}(hF:(∀ args w,(callFunc f args).run P w=.ok (.enter f args) w)/\B65 P f g){s:St}{d:Nat}{args:List Operand}{U:Ke R}{r:R}(h:C3A s d g args U=some r)(at':Array TypeId) :
  OutG P s (.call {callee:=.value (.func f),args:=args.toArray,argTypes:=at'}) (some d) U r:=by
 obtain ⟨hent,hF⟩:=hF;unfold C3A at h;split at h
 ·rename_i x y;split at h
  ·rename_i e xs rx n ry ex ey;cases h0:decide (0<n) with
   | false=>rw [h0] at h;cases h
   | true=>
    rw [h0] at h;simp only [B6] at h;have h0:=A8 h0;refine ⟨_,h,Reads.app.2 ⟨B9 ex,B9 ey⟩,fun N o ho hdst hlt w0 Z0 s' a m hr hrd hnew next Q hn=>?_⟩
    obtain ⟨hrx,hry⟩:=Reads.app.1 hrd;have hx:Ro (.rs e (.int .u8)) m.w m.Z xs [a.eval x]:=D8 ex hr hrx;have hy:a.eval y=.int .i64 n:=D8 ey hr hry;obtain ⟨A,cap,eA,_⟩:=hx;injection eA with eA _
    have hx:Ro (.rs e (.int .u8)) m.w m.Z xs [.slice A xs.length cap]:=by rw [<- eA];exact D8 ex hr hrx
    have hrun:(execOp a.eval o).run P m.w=.ok (.enter f #[.slice A xs.length cap,.int .i64 n]) m.w:=by
     have he:=hent #[a.eval x,a.eval y] m.w;have:execOp a.eval o=callFunc f #[a.eval x,a.eval y]:=by
      simp [execOp,ho,resolve,invoke,Act.eval,Deferred.ofValue]
     rw [this,he,hy,eA]
    simp only [Oper.wp,hrun,Oper.upon,hdst];refine (hF.2 m.w A xs.length cap n h0).mono fun e' w' hpost=>?_
    obtain ⟨b1,b2,rfl,⟨g1,g2,g3,g4⟩,g5,l1,l2,c1,c2⟩:=hpost;show next (a.put (some d) _) w'
    have hsame:∀ b,b<m.w.heap.size->w'.heap[b]? = m.w.heap[b]?/\(if b<m.w.heap.size then m.Z b else none)=m.Z b:=fun b hb=>⟨g5 b hb,G0 hb⟩
    have hkeep:Keeps m.w w' m.Z (fun b=>if b<m.w.heap.size then m.Z b else none):=fun b h1 h2=>⟨g5 b h2,(G0 h2).trans h1⟩
    have hfore:Fore m.w w' m.Z (fun b=>if b<m.w.heap.size then m.Z b else none):=fun b h1 h2=>⟨g5 b h2,(G0 h2).trans h1⟩
    have hr':Rel N w0 Z0 s' a ⟨w',fun b=>if b<m.w.heap.size then m.Z b else none,m.ρ,m.β⟩:=
     hr.alien (ds:=a.defers) (fun b _ hb=>hsame b hb) (hr.fo.trans hfore hr.hs) g1 g2 g3 g4 (hr.df.fore hfore)
    refine hn _ ⟨w',fun b=>if b<m.w.heap.size then m.Z b else none,m.ρ,m.β⟩ (hr'.put (hlt d rfl) ⟨b1,b2,_,rfl,?_,?_,c1,c2,Ro.keep (k:=.rs e (.int .u8)) hx hkeep⟩)
    ·exact D6 (by omega)
    ·exact D6 (by omega)
  ·cases h
 ·cases h
def Cfg.ckOf(c:Cfg)(f:Nat):Option Nat:=match c.ck with
 | some (f',g)=>match Nat.beq f' f with
  | true=>some g
  | false=>none
 | none=>none
theorem C9G{c:Cfg}{f g:Nat}(h:c.ckOf f=some g):c.ck=some (f,g):=by
 unfold Cfg.ckOf at h;split at h
 ·rename_i f' g' e;split at h
  ·rename_i hb;injection h with h
   rw [e,A0 hb,h]
  ·cases h
 ·cases h
def kp{R:Type}(d:Nat)(U:Ke R):Kp R:=fun rds xw v=>U ⟨rds,(.t d,some (.t v))::xw.map (fun q=>(Loc.x q.1,some (LV.x q.2))),xw.map (fun q=>Loc.x q.1)⟩
theorem OutP.g{R:Type}{P:Program}{s:St}{op:Op}{d:Nat}{U:Ke R}{r:R}(h:OutP P s op (kp d U) r):OutG P s op (some d) U r:=by
 obtain ⟨rds,xw,v,h1,h2,h3⟩:=h;exact ⟨_,h1,h2,fun n o ho hd hlt=>(h3 n o ho).good hd (hlt d rfl)⟩
theorem OutE.g{R:Type}{P:Program}{s:St}{op:Op}{d:Nat}{U:Ke R}{r:R}(h:OutE P s op d U r):OutG P s op (some d) U r:=by
 obtain ⟨δ,h1,h2,h3⟩:=h;exact ⟨δ,h1,h2,fun n o ho hd hlt=>h3 n o ho hd (hlt d rfl)⟩
theorem OutS.g{R:Type}{P:Program}{s:St}{op:Op}{U:Ke R}{r:R}(h:OutS P s op U r):OutG P s op none U r:=by
 obtain ⟨δ,h1,h2,h3⟩:=h;exact ⟨δ,h1,h2,fun n o ho hd hlt=>h3 n o ho hd⟩
def C3B{R:Type}(cfg:Cfg)(Γ:List (Nat×Fn))(s:St)(c:Call)(d:Option Nat)(U:Ke R):Option R:=
 match c.callee,c.args.toList,c.argTypes.toList,d with
 | .builtin .len,[x],[t],some d=>D0Q cfg s t x (kp d U)
 | .builtin .min,[x,y],_,some d=>D0e s x y (kp d U)
 | .builtin .max,[x,y],_,some d=>D0f s x y (kp d U)
 | .builtin .append,[x,y],[t,t'],some d=>match Nat.beq t t',D18 s x with
  | true,false=>match D1A s x y with
   | false=>D0T cfg s d t t' x y U
   | true=>C7V cfg s d t t' x y U
  | true,true=>C7S cfg s d t t' x y U
  | false,_=>C7P cfg s d t t' x y U
 | .value (.func f),args,_,d=>match cfg.pk f,d with
  | some F,some d'=>C7b s d' F args U
  | _,_=>match cfg.ckOf f,d with
   | some g,some d'=>C3A s d' g args U
   | _,_=>match d,D17 Γ s f args with
    | some d',true=>D0h Γ s d' f args U
    | _,_=>B77 cfg Γ d f args 16 s U
 | .value (.tmp t),args,_,d=>match s.getT t with
  | some (.one (.fn f))=>match Nat.beq f 999999999 with
   | false=>B77 cfg Γ d f args 16 s fun δ=>U ⟨(.t t,.t (.one (.fn f)))::δ.rd,δ.wr,δ.new⟩
   | true=>none
  | _=>none
 | _,_,_,_=>none
theorem C5U{R:Type}{P:Program}{cfg:Cfg}(hc:J9 P cfg){Γ:List (Nat×Fn)}(hΓ:A41 P Γ){s:St}{c:Call}{d:Option Nat}{U:Ke R}{r:R}(h:C3B cfg Γ s c d U=some r):OutG P s (.call c) d U r:=by
 obtain ⟨callee,args,ats⟩:=c;unfold C3B at h;split at h
 ·rename_i e1 e2 e3;simp only at e1 e2 e3;subst e1;have e2:args=#[_]:=T9.1 e2;have e3:ats=#[_]:=T9.1 e3;subst e2;subst e3;exact (C8k hc h).g
 ·rename_i e1 e2;simp only at e1 e2;subst e1;have e2:args=#[_,_]:=T9.1 e2;subst e2;exact (C99 h _).g
 ·rename_i e1 e2;simp only at e1 e2;subst e1;have e2:args=#[_,_]:=T9.1 e2;subst e2;exact (C9A h _).g
 ·rename_i e1 e2 e3;simp only at e1 e2 e3;subst e1;have e2:args=#[_,_]:=T9.1 e2;have e3:ats=#[_,_]:=T9.1 e3;subst e2;subst e3;split at h
  ·split at h
   ·exact (C8p hc h).g
   ·exact (C7a hc h).g
  ·exact (C7T hc h).g
  ·exact (C7Q hc h).g
 ·rename_i f _ _ _ e1;simp only at e1;subst e1;split at h
  ·rename_i F d' e2;have:=C7c (hc.pk e2) h ats;simpa using this
  ·split at h
   ·rename_i g d' e3 _;have:=C5T (hc.ck (C9G e3)) h ats;simpa using this
   ·split at h
    ·have:=(C9E hΓ h ats).g;simpa using this
    ·have:=B4d hΓ ats h;simpa using this
 ·rename_i t e1;simp only at e1;subst e1;split at h
  ·rename_i f ht;split at h
   rotate_left
   ·cases h
   rename_i hff;have:=B4d hΓ ats h;simp only [R6] at this;obtain ⟨δ,h1,h2,h3⟩:=this;refine ⟨_,h1,fun p hp=>?_,fun n o ho hd hlt=>?_⟩
   ·rcases B4.1 hp with rfl | hp
    ·exact St.getT_some.1 ht
    ·exact h2 p hp
   ·intro w0 Z0 s' a m hr hrd hnew next Q hn
    have hv:a.tmps.getD t undef=.func (.func f) #[] #[]:=(hr.tm t _ (hrd _ A5)).trans (C9v hff);have hg:=h3 n {o with op:=.call {callee:=.value (.func f),args:=args,argTypes:=ats}} (by simp) hd hlt w0 Z0 s' a m hr (fun p hp=>hrd p (B5 _ hp)) hnew next Q hn
    have he:execOp a.eval o=execOp a.eval {o with op:=.call {callee:=.value (.func f),args:=args,argTypes:=ats}}:=by
     simp [execOp,ho,resolve,Act.eval,hv]
    unfold Oper.wp at hg ⊢;rw [he];exact hg
  ·cases h
 ·cases h
def C9H(cfg:Cfg)(Γ:List (Nat×Fn)):A79:=fun {R} s op d U=>match op,d with
 | .move x,some d=>C43 s x (kp d U)
 | .assign x,some d=>C43 s x (kp d U)
 | .pick c x y,some d=>C6O s c x y (kp d U)
 | .binOp .eql t x (.const (.slice none 0 0)) _,some d=>C01 cfg s false t x (kp d U)
 | .binOp .neq t x (.const (.slice none 0 0)) _,some d=>C01 cfg s true t x (kp d U)
 | .binOp op t x y _,some d=>D0M cfg s op t x y (kp d U)
 | .unOp op t x,some d=>pUn s op x (kp d U)
 | .convert a b x,some d=>match C2a cfg a,A47 cfg a,A47 cfg b with
  | none,false,false=>D0g cfg s d a b x U
  | none,true,false=>C36 cfg s d a b x U
  | _,_,_=>C6Q cfg s a b x (kp d U)
 | .build t ps,some d=>match cfg.ar t with
  | some _=>B9w cfg s t ps (kp d U)
  | none=>C32 cfg s t ps (kp d U)
 | .field t x f,some d=>C2b cfg s t x f (kp d U)
 | .extract x i,some d=>B6V s x i (kp d U)
 | .makeFunc (.func g) fs cs,some d=>D0O s g fs cs (kp d U)
 | .fieldAddr t x f,some d=>B2r cfg s t x f (kp d U)
 | .nilCheck x,some d=>D0P s x (kp d U)
 | .load t x,some d=>match cfg.pt.any (Nat.beq t) with
  | true=>C2d s x (kp d U)
  | false=>C6U cfg s t x (kp d U)
 | .index t x i,some d=>match cfg.ar t with
  | some _=>C00 cfg s t x i (kp d U)
  | none=>C2c cfg s t x i (kp d U)
 | .indexAddr t x i,some d=>match cfg.ar t with
  | some _=>B4T cfg s d t x i (kp d U)
  | none=>B2s cfg s d t x i (kp d U)
 | .slice t x lo hi mx,some d=>C2e cfg s t x lo hi mx (kp d U)
 | .box t x,some d=>D0R cfg s d t x U
 | .alloc t,some d=>match cfg.ar t with
  | some _=>B9i cfg d t U
  | none=>C2g cfg d t U
 | .makeSlice t l c,some d=>C6c cfg s d t l c U
 | .buildSlice t n ps,some d=>D0S cfg s d t n ps U
 | .store t x y,none=>match D19 s y with
  | false=>C2l cfg s t x y U
  | true=>C03 cfg s t x y U
 | .call c,d=>C3B cfg Γ s c d U
 | _,_=>none
theorem C4S{P:Program}{cfg:Cfg}(hc:J9 P cfg){Γ:List (Nat×Fn)}(hΓ:A41 P Γ):A49 P (C9H cfg Γ):=by
 intro R s op d U r h;unfold C9H at h;dsimp only at h;split at h
 ·exact (C0n h (.inl rfl)).g
 ·exact (C0n h (.inr rfl)).g
 ·exact (C6P h).g
 ·exact (B9L (neg:=false) hc h _).g
 ·exact (B9L (neg:=true) hc h _).g
 ·exact (C8h hc h _).g
 ·exact (D0N h _).g
 ·split at h
  ·exact (C9D hc h).g
  ·exact (C5S hc h).g
  ·exact (C6R hc h).g
 ·split at h
  ·exact (C33 hc h).g
  ·exact (C5O hc h).g
 ·exact (C51 hc h).g
 ·exact (C0o h).g
 ·exact (C8i h).g
 ·exact (B8H hc h).g
 ·exact (C8j h).g
 ·split at h
  ·rename_i e;exact (C53 (hc.pt e) h).g
  ·exact (C6V hc h).g
 ·split at h
  ·exact (C34 hc h).g
  ·exact (C52 hc h).g
 ·split at h
  ·exact (B9f hc h).g
  ·exact (B8I hc h).g
 ·exact (C54 hc h).g
 ·exact (C8m h).g
 ·split at h
  ·exact (C2h hc h).g
  ·exact (C55 hc h).g
 ·exact (C6e hc h).g
 ·exact (C8o hc h).g
 ·split at h
  ·exact (C56 hc h).g
  ·exact (C39 hc h).g
 ·exact C5U hc hΓ h
 ·cases h
def C4T(cfg:Cfg)(s:St):ResultVar->Option AV
 | .tmp t=>s.getT t
 | .cell a T=>match s.getT a,cfg.ty T with
  | some (.one (.ptr b off)),some ti=>match s.getB b with
   | some c=>match Nat.beq ((c.drop off).take ti.k.sz).length ti.k.sz with
    | true=>A5j ti.agg ((c.drop off).take ti.k.sz)
    | false=>none
   | none=>none
  | _,_=>none
def B4f(tmps:Array Value):ResultVar->Sem Value
 | .tmp t=>pure (tmps.getD t undef)
 | .cell a t=>do loadVar t (<- asAddr (tmps.getD a undef))
theorem C7d{P:Program}{cfg:Cfg}(hc:J9 P cfg){s:St}{rv:ResultVar}{v:AV}(h:C4T cfg s rv=some v){n:Nat}{w0:World}{Z0:Gh}{a:Act}{m:Mem}(hr:Rel n w0 Z0 s a m) :
  ∃ val,(B4f a.tmps rv).run P m.w=.ok val m.w/\AVC s m v val:=by
 cases rv with
 | tmp t=>
  simp only [C4T] at h;exact ⟨_,rfl,hr.tm t v (St.getT_some.1 h)⟩
 | cell x T=>
  simp only [C4T] at h;split at h
  ·rename_i b off ti e1 et;split at h
   ·rename_i c ec;split at h
    ·rename_i el;have hb:=St.getB_some.1 ec;have hx:=(hr.tm x _ (St.getT_some.1 e1)).2 c hb;obtain ⟨cs,hcs,_,_,hg⟩:=hr.bx b c hb;obtain ⟨y,hy,hv⟩:=A7F (P:=P) hc et h (A0 el) ((hcs.drop off).take ti.k.sz) (ad:=⟨(m.β b).g,(m.β b).pre.length+off,none⟩) (fun j u hu=>by
      have hj:=(C3.1 hu).1;have hj':j<ti.k.sz:=by rw [B2] at hj;omega
      rw [F8 hj',F3] at hu;rw [add_plain,A1J m.w _ _ _ _ _ hg];have hlt:=(C3.1 hu).1;rw [A0u,A7,E5 (by omega),E3 (by omega)];rw [<- hu];congr 1;omega)
     refine ⟨y,?_,hv⟩;simp only [B4f];rw [hx];simp [asAddr,C4,hy]
    ·cases h
   ·cases h
  ·cases h
def B4g(cfg:Cfg)(s:St):List ResultVar->Option (List AV)
 | []=>some []
 | rv::rvs=>match C4T cfg s rv,B4g cfg s rvs with
  | some v,some vs=>some (v::vs)
  | _,_=>none
theorem B9M{P:Program}{cfg:Cfg}(hc:J9 P cfg){s:St}{n:Nat}{w0:World}{Z0:Gh}{a:Act}{m:Mem}(hr:Rel n w0 Z0 s a m):∀ {rvs:List ResultVar} {vs:List AV},B4g cfg s rvs=some vs->
  ∃ vals,(rvs.mapM (B4f a.tmps)).run P m.w=.ok vals m.w/\All2 (AVC s m) vs vals
 | [],vs,h=>by
  simp only [B4g] at h;injection h with h;subst h
  exact ⟨[],by simp,trivial⟩
 | rv::rvs,vs,h=>by
  simp only [B4g] at h;split at h
  ·rename_i v vs' e1 e2;injection h with h;subst h
   obtain ⟨val,h1,h2⟩:=C7d hc e1 hr;obtain ⟨vals,h3,h4⟩:=B9M hc hr e2;exact ⟨val::vals,by simp [List.mapM_cons,C4,h1,h3],h2,h4⟩
  ·cases h
theorem B79{P:Program}{cfg:Cfg}(hc:J9 P cfg){s:St}{n:Nat}{w0:World}{Z0:Gh}{a:Act}{m:Mem}(hr:Rel n w0 Z0 s a m){fn:Func}{vs:List AV}(h:B4g cfg s fn.results.toList=some vs) :
  ∃ vals,(results fn a.tmps).run P m.w=.ok (pack vals) m.w/\All2 (AVC s m) vs vals:=by
 obtain ⟨vals,h1,h2⟩:=B9M hc hr h;refine ⟨vals,?_,h2⟩;have e:fn.results.mapM (B4f a.tmps)=List.toArray <$> fn.results.toList.mapM (B4f a.tmps):=Array.mapM_eq_mapM_toList;have hres:results fn a.tmps=(do
  let vs <- fn.results.mapM (B4f a.tmps)
  pure (if h:vs.size=1 then vs[0] else .tuple vs)):=by
  unfold results
  congr 1
 rw [hres,e];simp only [C4,map_eq_pure_bind,h1,H2];cases vals with
 | nil=>simp [pack]
 | cons v vals=>
  cases vals with
  | nil=>simp [pack]
  | cons v2 vals=>simp [pack]
def D1B(g:Bool)(ls:List Lf):AV:=match g with
 | true=>.agg ls
 | false=>match ls with
  | [l]=>.one l
  | ls=>.agg ls
def B7A:Nat->(ps:List PK)->Ts (ins ps)->St
 | _,[],_=> []
 | i,.val g k _::ps,x=>(.t i,some (.t (D1B g (leaves k x.1 Lf.own (pR i)))))::(B2b (U9 (pR i) k x.1)++B7A (i+1) ps x.2)
 | i,.ptr k::ps,x=>(.t i,some (.t (.one (.ptr (pB i) 0))))::(.b (pB i),some (.b (leaves k x.1 Lf.own (pR i))))::(B2b (U9 (pR i) k x.1)++B7A (i+1) ps x.2)
def B2e(w:World)(pls:Nat->Plc)(ps:List PK)(args:List Value)(i:Nat):List Value:=match ps[i]? with
 | some (.ptr _)=>(A1R w (pls i).g).drop (pls i).pre.length
 | _=>match args[i]? with
  | some v=>v.cells.toList
  | none=> []
def B0V(w:World)(Z:Col)(pls:Nat->Plc)(ps:List PK)(args:List Value):Mem:=
 ⟨w,Z,fun id=>(B2e w pls ps args ((id-1000) / 100)).getD ((id-1000) % 100) undef,fun b=>pls (b-1000)⟩
def C9I(m:Mem):Gh:=⟨m.Z,m.ρ,m.β,[]⟩
def D1e(s1:St)(m1:Mem)(args:List Value):Loc->LV->Prop
 | .t d,.t v=>∃ u,args[d]? = some u/\AVC s1 m1 v u
 | .r id,.r row=>OwL (Ow row.k m1.w m1.Z) row.e row.k.sz m1.w m1.Z [2*id] row.xs (m1.ρ id)
 | .b b,.b c=>BxC s1 m1 (m1.β b) b c
 | _,_=>False
theorem B7B(w:World)(Z:Col)(a:Nat):∀ n,Roots w Z Z (B2v a a n)
 | 0=>fun p hp=>(nomatch hp)
 | n+1=>fun p hp q=>by
  rcases B4.1 hp with e | hp
  ·subst e;exact fun b q' hb _=>⟨rfl,hb⟩
  ·exact B7B w Z a n p hp q
theorem B9N{w:World}{Z:Col}{base:Nat}{g:Bool}{k:K}{x:k.T}{cs:List Value}(h:LvC w Z base k x cs)(hg:g=true\/k.sz=1):(toV g cs).cells.toList=cs:=by
 cases g with
 | true=>simp [toV,Value.cells]
 | false=>
  have hn:k.sz=1:=hg.resolve_left (by simp);have hl:=h.len;rw [hn] at hl;obtain ⟨c,rfl⟩:∃ c,cs = [c]:=by
   cases cs with
   | nil=>simp at hl
   | cons c cs=>exact ⟨c,by simpa using hl⟩
  have h1:=h.one c (by simp);simp only [toV];cases c<;>first | rfl | (simp [Value.oneCell'] at h1)
theorem C9J{g:Bool}{ls:List Lf}{cs:List Value}{s:St}{m:Mem}{n:Nat}(h:All2 (LfC s m) ls cs)(hl:cs.length=n)(hg:g=true\/n=1):AVC s m (D1B g ls) (toV g cs):=by
 cases g with
 | true=>exact ⟨cs,rfl,h⟩
 | false=>
  have hn:n=1:=hg.resolve_left (by simp);subst hn;cases cs with
  | nil=>simp at hl
  | cons c cs=>
   have:cs = []:=F0 (by simpa using hl);subst this;cases ls with
   | nil=>exact h.elim
   | cons l ls=>
    have:ls = []:=by cases ls with
     | nil=>rfl
     | cons _ _=>exact h.2.elim
    subst this;exact h.1
theorem C7e{w:World}{Z:Col}{pls:Nat->Plc}{ps0:List PK}{args:List Value}{s1:St}(hsz:∀ p∈ps0,B3g p.k=true) :
  ∀ {ps:List PK} {i:Nat} {x:Ts (ins ps)} {vs:List Value},ArgsC w Z pls i ps x vs->(∀ idx p,ps[idx]? = some p->ps0[i+idx]? = some p)->(∀ idx v,vs[idx]? = some v->args[i+idx]? = some v)->
   (∀ l lv,(l,some lv)∈B7A i ps x->D1e s1 (B0V w Z pls ps0 args) args l lv)/\vs.length=ps.length
 | [],i,x,vs,h,_,_=>by
  obtain ⟨rfl,_⟩:=h;exact ⟨fun l lv hm=>(nomatch hm),rfl⟩
 | .val g k kp::ps,i,x,vs,h,hps,hvs=>by
  obtain ⟨cs,r,rfl,hl,hg,hrest⟩:=h;have hp0:=hps 0 _ rfl;have hv0:=hvs 0 _ rfl;rw [J0] at hp0 hv0;have hsz0:k.sz<=100:=D5 (hsz _ (I7 hp0));obtain ⟨f1,f2⟩:=C7e (s1:=s1) hsz hrest (fun idx p hp=>by
   have:=hps (idx+1) p (by simpa using hp)
   rwa [show i+(idx+1)=i+1+idx by omega] at this) (fun idx v hv=>by
   have:=hvs (idx+1) v (by simpa using hv)
   rwa [show i+(idx+1)=i+1+idx by omega] at this)
  have hac:B2e w pls ps0 args i=cs:=by
   simp only [B2e,hp0,hv0];exact B9N hl hg
  obtain ⟨e1,e2⟩:=A8v (s1:=s1) (m1:=B0V w Z pls ps0 args) (nb:=pR i) hl (.inr (Keeps.refl _ _)) (B7B _ _ _ _) rfl rfl fun c v hc hlk=>by
   have hlt:=(C3.1 hc).1;have hlen:=hl.len;show (B2e w pls ps0 args ((pR i+c-1000) / 100)).getD ((pR i+c-1000) % 100) undef=v;have h1:(pR i+c-1000) / 100=i:=by simp only [pR];omega
   have h2:(pR i+c-1000) % 100=c:=by simp only [pR];omega
   rw [h1,h2,hac,C2,hc];rfl
  refine ⟨fun l lv hm=>?_,by simp [f2]⟩;rcases B4.1 hm with e | hm
  ·injection e with e1' e2';injection e2' with e2';subst e1';subst e2'
   exact ⟨_,hv0,C9J e2 hl.len hg⟩
  ·rcases C9.1 hm with hm | hm
   ·have:=e1 l lv hm;obtain ⟨c,row,rfl,rfl,_⟩:=B29 hm;exact this
   ·exact f1 l lv hm
 | .ptr k::ps,i,x,vs,h,hps,hvs=>by
  obtain ⟨cs,r,rfl,⟨hheap,hcol⟩,hl,hrest⟩:=h;have hp0:=hps 0 _ rfl;have hv0:=hvs 0 _ rfl;rw [J0] at hp0 hv0;have hsz0:k.sz<=100:=D5 (hsz _ (I7 hp0));obtain ⟨f1,f2⟩:=C7e (s1:=s1) hsz hrest (fun idx p hp=>by
   have:=hps (idx+1) p (by simpa using hp)
   rwa [show i+(idx+1)=i+1+idx by omega] at this) (fun idx v hv=>by
   have:=hvs (idx+1) v (by simpa using hv)
   rwa [show i+(idx+1)=i+1+idx by omega] at this)
  have hac:B2e w pls ps0 args i=cs++(pls i).post:=by
   simp only [B2e,hp0,A1R,hheap];rw [A7,A0L]
  obtain ⟨e1,e2⟩:=A8v (s1:=s1) (m1:=B0V w Z pls ps0 args) (nb:=pR i) hl (.inr (Keeps.refl _ _)) (B7B _ _ _ _) rfl rfl fun c v hc hlk=>by
   have hlt:=(C3.1 hc).1;have hlen:=hl.len;show (B2e w pls ps0 args ((pR i+c-1000) / 100)).getD ((pR i+c-1000) % 100) undef=v;have h1:(pR i+c-1000) / 100=i:=by simp only [pR];omega
   have h2:(pR i+c-1000) % 100=c:=by simp only [pR];omega
   rw [h1,h2,hac,C2,E3 hlt,hc];rfl
  have hβ:(B0V w Z pls ps0 args).β (pB i)=pls i:=by
   show pls (pB i-1000)=pls i;rw [show pB i-1000=i by simp only [pB];omega]
  refine ⟨fun l lv hm=>?_,by simp [f2]⟩;rcases B4.1 hm with e | hm
  ·injection e with e1' e2';injection e2' with e2';subst e1';subst e2'
   exact ⟨_,hv0,rfl,fun c _=>by rw [hβ];rfl⟩
  ·rcases B4.1 hm with e | hm
   ·injection e with e1' e2';injection e2' with e2';subst e1';subst e2'
    show BxC s1 _ ((B0V w Z pls ps0 args).β (pB i)) (pB i) _;rw [hβ];exact ⟨cs,e2,hl.one,hcol,hheap⟩
   ·rcases C9.1 hm with hm | hm
    ·have:=e1 l lv hm;obtain ⟨c,row,rfl,rfl,_⟩:=B29 hm;exact this
    ·exact f1 l lv hm
theorem B7C{b:Nat}{v:Option LV}:∀ {ps:List PK} {i:Nat} {x:Ts (ins ps)},(Loc.b b,v)∈B7A i ps x->1000+i<=b/\b<1000+i+ps.length
 | [],_,_,h=>by cases h
 | .val g k kp::ps,i,x,h=>by
  simp only [B7A] at h;rcases B4.1 h with h | h
  ·cases h
  ·rcases C9.1 h with h | h
   ·simp only [B2b,D0] at h;obtain ⟨p,_,e⟩:=h;cases e
   ·have:=B7C h;simp only [G9];omega
 | .ptr k::ps,i,x,h=>by
  simp only [B7A] at h;rcases B4.1 h with h | h
  ·cases h
  ·rcases B4.1 h with h | h
   ·injection h with h _
    injection h with h
    subst h;simp only [G9,pB];omega
   ·rcases C9.1 h with h | h
    ·simp only [B2b,D0] at h;obtain ⟨p,_,e⟩:=h;cases e
    ·have:=B7C h;simp only [G9];omega
theorem B9O{w:World}{Z:Col}{pls:Nat->Plc}{ps:List PK}{x:Ts (ins ps)}{args:List Value}(h:ArgsC w Z pls 0 ps x args)(hsz:∀ p∈ps,B3g p.k=true){n:Nat}(hn:ps.length<=n)(hn2:n<=1000) :
  Rel n w (C9I (B0V w Z pls ps args)) (B7A 0 ps x) ⟨args.toArray++Array.replicate (n-args.toArray.size) undef,[]⟩ (B0V w Z pls ps args):=by
 obtain ⟨f1,f2⟩:=C7e (s1:=B7A 0 ps x) hsz h (fun idx p hp=>by rw [D9];exact hp) (fun idx v hv=>by rw [D9];exact hv);refine ⟨by simp;omega,DfOk.nil _ _ _,fun d v hg=>?_,fun id r hg=>f1 _ _ (get_mem hg),fun b c hg=>f1 _ _ (get_mem hg),Keeps.refl _ _,Fore.refl _ _,⟨hn2,h.gi⟩,fun _ _ _ _ _=>rfl,fun b c hg=>⟨fun _ _=>rfl,fun hb=>by have:=B7C (get_mem hg);omega⟩,C6 _,rfl,rfl,rfl⟩;obtain ⟨u,hu,hv⟩:=f1 _ _ (get_mem hg);have hlt:=(C3.1 hu).1;have:(args.toArray++Array.replicate (n-args.toArray.size) undef).getD d undef=u:=by
  rw [I4,Array.getElem?_append_left (by simpa using hlt)];simp [hu]
 show AVC _ _ v ((args.toArray++Array.replicate (n-args.toArray.size) undef).getD d undef);rw [this];exact hv
theorem A3Q{n:Nat}{P:Program}{w0:World}{Z0:Gh}{s:St}{fn:Func}{R:Ending->World->Prop}:∀ (ds:List Deferred) {a:Act} {m:Mem},a.defers=ds->Z0.al = []->Rel n w0 Z0 s a m->
  (∀ a' m',a'.tmps=a.tmps->Rel n w0 Z0 s a' m'->∃ v,(results fn a'.tmps).run P m'.w=.ok v m'.w/\R (.returned v) m'.w)->LeavesInM Fence.wide 3 P fn a.tmps R ds .returning m.w
 | [],a,m,e,_,h,hK=>by
  obtain ⟨v,h1,h2⟩:=hK a m rfl h;exact ⟨v,h1,h2⟩
 | d::ds,a,m,e,he,h,hK=>by
  have hdf:=h.df;rw [e,he] at hdf;obtain ⟨D,e1,h1,h2,h3⟩:=hdf.1.2 d A5;subst e1;have hn:=List.nodup_cons.1 hdf.1.1;refine ⟨by simp,.inl ⟨D,m.w.putObj D (.deferred none),rfl,run_takeDeferred h3,?_⟩⟩;have h':=h.turn (o':=.deferred none) (ds:=ds) h2 h1 ⟨⟨hn.2,fun d' hd'=>by
   obtain ⟨D',e',g1,g2,g3⟩:=hdf.1.2 d' (B5 _ hd');exact ⟨D',e',g1,g2,(I3 (fun hh=>hn.1 (by rw [<- hh,<- e'];exact hd'))).trans g3⟩⟩,fun p hp=>by rw [he] at hp;cases hp⟩
  exact A3Q ds (a:={a with defers:=ds}) rfl he h' fun a' m' ht hr=>hK a' m' ht hr
def K.rsOnly:K->Bool
 | .sl _ _=>false
 | .pair a b=>a.rsOnly&&b.rsOnly
 | _=>true
theorem Ow.ofRo:∀ {k:K} {w:World} {Z:Col} {p:H9} {x:k.T} {cs:List Value},k.rsOnly=true->Ro k w Z x cs->Ow k w Z p x cs
 | .int _,_,_,_,_,_,_,h=>h
 | .bool,_,_,_,_,_,_,h=>h
 | .fnc _,_,_,_,_,_,_,h=>h
 | .str,_,_,_,_,_,_,h=>h
 | .rs _ _,_,_,_,_,_,_,h=>h
 | .pa _ _,_,_,_,_,_,_,h=>h
 | .sl _ _,_,_,_,_,_,hk,_=>by cases hk
 | .pair a b,_,_,_,_,_,hk,h=>by
  simp only [K.rsOnly,B3] at hk;obtain ⟨c0,c1,rfl,h0,h1⟩:=h;exact ⟨c0,c1,rfl,Ow.ofRo hk.1 h0,Ow.ofRo hk.2 h1⟩
theorem OwL.heq{α β:Type}(e:α=β){R:H9->α->List Value->Prop}{R':H9->β->List Value->Prop}{e0 sz sz':Nat}(hs:sz=sz'){w:World}{Z Z':Col}{p p':H9}{xs:List α}{ys:List β}{v:Value}
  (h:OwL R e0 sz w Z p xs v) (hx:HEq xs ys) (hc:∀ g,Z g=some p->Z' g=some p') (hR:∀ i x y ds,HEq x y->R (p ++ [i]) x ds->R' (p' ++ [i]) y ds):OwL R' e0 sz' w Z' p' ys v:=by
 cases e;cases hx;cases hs;obtain ⟨inner,ho,h1,h2⟩:=h;exact ⟨inner,ho,fun g hg=>hc g (h1 g hg),fun i hi=>hR i _ _ _ B6O (h2 i hi)⟩
@[reducible] def L5(id:Nat):Nat:=900000000+id
def Lf.rn(id:Nat):Lf->Lf
 | .own i=>match Nat.beq i id with
  | true=>.own (L5 id)
  | false=>.own i
 | l=>l
def AV.rn(id:Nat):AV->AV
 | .one l=>.one (l.rn id)
 | .agg ls=>.agg (ls.map (Lf.rn id))
 | v=>v
theorem Lf.rn_ok{s s1:St}{m m1:Mem}{id:Nat}(hown:∀ u,LfC s m (.own id) u->LfC s1 m1 (.own (L5 id)) u){l:Lf}{u:Value}(h0:LfC s m l u)(h1:LfC s1 m1 l u):LfC s1 m1 (l.rn id) u:=by
 cases l with
 | own i=>
  simp only [Lf.rn];cases e:Nat.beq i id with
  | true=>
   rw [A0 e] at h0;exact hown u h0
  | false=>exact h1
 | _=>exact h1
theorem All2.rn{s s1:St}{m m1:Mem}{id:Nat}(hown:∀ u,LfC s m (.own id) u->LfC s1 m1 (.own (L5 id)) u):∀ {ls:List Lf} {cs:List Value},All2 (LfC s m) ls cs->All2 (LfC s1 m1) ls cs->All2 (LfC s1 m1) (ls.map (Lf.rn id)) cs
 | [],[],_,_=>trivial
 | _::_,_::_,h0,h1=>⟨Lf.rn_ok hown h0.1 h1.1,All2.rn hown h0.2 h1.2⟩
theorem AVC.rn{s s1:St}{m m1:Mem}{id:Nat}(hown:∀ u,LfC s m (.own id) u->LfC s1 m1 (.own (L5 id)) u){v:AV}{x:Value}(h0:AVC s m v x)(h1:AVC s1 m1 v x):AVC s1 m1 (v.rn id) x:=by
 cases v with
 | one l=>exact Lf.rn_ok hown h0 h1
 | agg ls=>
  obtain ⟨cs,rfl,h0⟩:=h0;obtain ⟨ds,e,h1⟩:=h1;injection e with e
  obtain rfl:=C4F e;exact ⟨cs,rfl,All2.rn hown h0 h1⟩
 | tup ps=>exact h1
 | und=>exact h1
def B5Q(id e:Nat)(k:K)(ys:List k.T)(s:St):St:=(.r (L5 id),some (.r ⟨e,k,ys,0⟩))::(.r id,none)::s
theorem B9P{id e:Nat}{k:K}{ys:List k.T}{s:St}{l:Loc}(h:∀ i,l≠.r i):(B5Q id e k ys s).get l=s.get l:=by
 unfold B5Q;rw [St.get_cons_ne (R5 (h _)),St.get_cons_ne (R5 (h _))]
theorem Rel.thin0{n:Nat}{w0:World}{Z0:Gh}{s:St}{a:Act}{m:Mem}(h:Rel n w0 Z0 s a m){id:Nat}{row:Row}{k:K}{ys:List k.T}(hk:k.rsOnly=true)(hc:A35 row.k k row.xs=some ys)
  (hr:s.get (.r id)=some (.r row)) (hf:fresh s (.r (L5 id))=true):∃ Z' ρ',Rel n w0 Z0 (B5Q id row.e k ys s) a ⟨m.w,Z',ρ',m.β⟩/\∀ u,LfC s m (.own id) u->LfC (B5Q id row.e k ys s) ⟨m.w,Z',ρ',m.β⟩ (.own (L5 id)) u:=by
 obtain ⟨hsim,hx⟩:=S6 hc
 let f:H9->Option H9:=fun q=>match q with
  | []=>some [2*L5 id]
  | _::_=>none
 have hl:A0D [(id,f)] (2*id)=some f:=by simp [A0D]
 have h1:Rel n w0 Z0 ((.r id,none)::s) a ⟨m.w,L0 [(id,f)] m.Z,m.ρ,m.β⟩:=h.drop [(id,f)];have hnl:¬ Live ((.r id,none)::s) (.r (L5 id)):=by
  rintro ⟨l',lv,hg,hm⟩;by_cases e:l' = .r id
  ·subst e;rw [St.get_cons_same] at hg;cases hg
  ·rw [St.get_cons_ne (R5 e)] at hg;exact A6a hf ⟨l',lv,hg,hm⟩
 have hne:∀ {l:Loc},l≠.r (L5 id)->St.get ((.r (L5 id),some (.r ⟨row.e,k,ys,0⟩))::(.r id,none)::s) l=St.get ((.r id,none)::s) l:=fun hl=>St.get_cons_ne (R5 hl) _ _
 have hX:Ext ((.r id,none)::s) ⟨m.w,L0 [(id,f)] m.Z,m.ρ,m.β⟩ ((.r (L5 id),some (.r ⟨row.e,k,ys,0⟩))::(.r id,none)::s) ⟨m.w,L0 [(id,f)] m.Z,fun i=>if i=L5 id then m.ρ id else m.ρ i,m.β⟩ (Live ((.r id,none)::s)):=by
  refine ⟨Keeps.refl _ _,fun id' r' hL hr'=>?_,fun b c' _ hc'=>⟨c',by rwa [hne (by simp)] at hc',rfl⟩,fun q i _ hi=>by rwa [hne (by simp)] at hi⟩;have hid:id'≠L5 id:=fun e=>hnl (e▸hL)
  refine ⟨r',by rwa [hne (by simpa using hid)] at hr',?_,rfl,rfl,C6 _,fun _ _ _ _ hc=>hc,fun _=>Moves.refl _ _ _⟩;show (if id' = L5 id then m.ρ id else m.ρ id')=m.ρ id';rw [D6 hid]
 have h2:Rel n w0 Z0 ((.r (L5 id),some (.r ⟨row.e,k,ys,0⟩))::(.r id,none)::s) a ⟨m.w,L0 [(id,f)] m.Z,fun i=>if i=L5 id then m.ρ id else m.ρ i,m.β⟩:=by
  refine h1.change (fun d=>hne (by simp)) hX (fun id' r' hg=>?_) (fun b c hg=>?_) (Fore.refl _ _) (C6 _) rfl rfl rfl (fun id' r' g1 g2 hg=>?_) (fun b c hg=>.inl ⟨⟨c,by rwa [hne (by simp)] at hg⟩,rfl⟩)
  ·by_cases hid:id' = L5 id
   ·subst hid;rw [St.get_cons_same] at hg;injection hg with hg;injection hg with hg;subst hg
    show OwL (Ow k m.w (L0 [(id,f)] m.Z)) row.e k.sz m.w (L0 [(id,f)] m.Z) [2*L5 id] ys (if L5 id=L5 id then m.ρ id else m.ρ (L5 id));rw [G0 rfl];refine OwL.heq (K.sim_T hsim) (K.sim_sz hsim) (h.rw id row hr) hx (fun g hg=>by simp only [L0,hg,hl];rfl) (fun i x y ds hxy hds=>Ow.ofRo hk (Ro.sim hsim hxy (Ow.free hds ?_ (P6 _ _ _))));exact B0m (p:= [i]) hl fun q=>rfl
   ·rw [hne (by simpa using hid)] at hg;show OwL (Ow r'.k m.w (L0 [(id,f)] m.Z)) r'.e r'.k.sz m.w (L0 [(id,f)] m.Z) [2*id'] r'.xs (if id' = L5 id then m.ρ id else m.ρ id');rw [D6 hid];exact h1.rw id' r' hg
  ·rw [hne (by simp)] at hg;obtain ⟨cs,g1,g2,g3,g4⟩:=h1.bx b c hg;exact ⟨cs,All2.imp (fun l hm x hb=>hb.ext (hX.sub fun q hq=>⟨.b b,.b c,hg,E6.2 ⟨l,hm,hq⟩⟩)) g1,g2,g3,g4⟩
  ·have hid:id'≠L5 id:=by simp only [L5];omega
   refine ⟨⟨r',by rwa [hne (by simpa using hid)] at hg⟩,?_⟩;show (if id' = L5 id then m.ρ id else m.ρ id')=m.ρ id';rw [D6 hid]
 have hown:∀ u,LfC s m (.own id) u->LfC ((.r (L5 id),some (.r ⟨row.e,k,ys,0⟩))::(.r id,none)::s) ⟨m.w,L0 [(id,f)] m.Z,fun i=>if i=L5 id then m.ρ id else m.ρ i,m.β⟩ (.own (L5 id)) u:=fun u hu=>by
  have hu:u.oneCell' = true/\∀ r,s.get (.r id)=some (.r r)->u=m.ρ id:=hu;show u.oneCell' = true/\∀ r',St.get ((.r (L5 id),some (.r ⟨row.e,k,ys,0⟩))::(.r id,none)::s) (.r (L5 id))=some (.r r')->u=(if L5 id=L5 id then m.ρ id else m.ρ (L5 id));refine ⟨hu.1,fun _ _=>?_⟩;rw [G0 rfl];exact hu.2 row hr
 exact ⟨_,_,h2,hown⟩
theorem Rel.thin{n:Nat}{w0:World}{Z0:Gh}{s:St}{a:Act}{m:Mem}(h:Rel n w0 Z0 s a m){t id:Nat}{v:AV}{row:Row}{k:K}{ys:List k.T}(hk:k.rsOnly=true)(hc:A35 row.k k row.xs=some ys)
  (ht:s.get (.t t)=some (.t v)) (hr:s.get (.r id)=some (.r row)) (hf:fresh s (.r (L5 id))=true):∃ Z' ρ',Rel n w0 Z0 ((.t t,some (.t (v.rn id)))::B5Q id row.e k ys s) a ⟨m.w,Z',ρ',m.β⟩:=by
 obtain ⟨Z',ρ',h2,hown⟩:=h.thin0 hk hc hr hf;exact ⟨Z',ρ',h2.retell (d:=t) (v:=v.rn id) (AVC.rn hown (h.tm t v ht) (h2.tm t v ((B9P (by simp)).trans ht)))⟩
theorem Rel.thinB{n:Nat}{w0:World}{Z0:Gh}{s:St}{a:Act}{m:Mem}(h:Rel n w0 Z0 s a m){b id:Nat}{c:List Lf}{row:Row}{k:K}{ys:List k.T}(hk:k.rsOnly=true)(hc:A35 row.k k row.xs=some ys)
  (hb:s.get (.b b)=some (.b c)) (hr:s.get (.r id)=some (.r row)) (hf:fresh s (.r (L5 id))=true):∃ Z' ρ',Rel n w0 Z0 ((.b b,some (.b (c.map (Lf.rn id))))::B5Q id row.e k ys s) a ⟨m.w,Z',ρ',m.β⟩:=by
 obtain ⟨Z',ρ',h2,hown⟩:=h.thin0 hk hc hr hf;obtain ⟨ds,d1,_,_,d4⟩:=h.bx b c hb;refine ⟨Z',ρ',(h2.retellB (b:=b) (c:=c) (c':=c.map (Lf.rn id)) ((B9P (by simp)).trans hb) fun cs hcs h1=>?_).1⟩;have hcs2:BoxIs m b cs:=hcs;have:cs=ds:=BoxIs.inj hcs2 d4;subst this;exact All2.rn hown d1 h1
def K.same:K->K->Bool
 | .int a,.int b=>decide (a=b)
 | .bool,.bool=>true
 | .fnc a,.fnc b=>Nat.beq a b
 | .str,.str=>true
 | .sl e k,.sl e' k'=>Nat.beq e e'&&k.same k'
 | .rs e k,.rs e' k'=>Nat.beq e e'&&k.same k'
 | .pa e k,.pa e' k'=>Nat.beq e e'&&k.same k'
 | .pair a b,.pair a' b'=>a.same a'&&b.same b'
 | _,_=>false
def B7D(s:St):K->List Lf->Option (Nat×K)×List Lf
 | .pair a b,ls=>match B7D s a ls with
  | (some r,_)=>(some r,[])
  | (none,ls')=>B7D s b ls'
 | .sl _ k,.own id::ls=>match s.getR id with
  | some row=>match k.rsOnly&&!(row.k.same k) with
   | true=>(some (id,k),ls)
   | false=>(none,ls)
  | none=>(none,ls)
 | _,_::ls=>(none,ls)
 | _,[]=>(none,[])
def D1C(s:St)(k:K):AV->Option (Nat×K)
 | .one l=>(B7D s k [l]).1
 | .agg ls=>(B7D s k ls).1
 | _=>none
def B6I(t:Nat)(k:K):Nat->St->St
 | 0,s=>s
 | n+1,s=>match s.getT t with
  | some v=>match D1C s k v with
   | some (id,k')=>match s.getR id with
    | some row=>match k'.rsOnly&&fresh s (.r (L5 id)) with
     | true=>match A35 row.k k' row.xs with
      | some ys=>B6I t k n ((.t t,some (.t (v.rn id)))::B5Q id row.e k' ys s)
      | none=>s
     | false=>s
    | none=>s
   | none=>s
  | none=>s
theorem C3C{n:Nat}{w0:World}{Z0:Gh}{a:Act}{w:World}{β:Nat->Plc}{t:Nat}{k:K}:∀ {f:Nat} {s:St} {Z:Col} {ρ:Nat->Value},Rel n w0 Z0 s a ⟨w,Z,ρ,β⟩->∃ Z' ρ',Rel n w0 Z0 (B6I t k f s) a ⟨w,Z',ρ',β⟩:=by
 intro f
 induction f with
 | zero=>intro s Z ρ h;exact ⟨Z,ρ,h⟩
 | succ f ih=>
  intro s Z ρ h;unfold B6I;split
  ·rename_i v ht;split
   ·rename_i id k' _;split
    ·rename_i row hr;split
     ·rename_i hb;simp only [B3] at hb;split
      ·rename_i ys hc;obtain ⟨Z',ρ',h2⟩:=h.thin hb.1 hc (St.getT_some.1 ht) (St.getR_some.1 hr) hb.2;exact ih h2
      ·exact ⟨Z,ρ,h⟩
     ·exact ⟨Z,ρ,h⟩
    ·exact ⟨Z,ρ,h⟩
   ·exact ⟨Z,ρ,h⟩
  ·exact ⟨Z,ρ,h⟩
def B14(b off:Nat)(k:K):Nat->St->St
 | 0,s=>s
 | n+1,s=>match s.getB b with
  | some c=>match (B7D s k (c.drop off)).1 with
   | some (id,k')=>match s.getR id with
    | some row=>match k'.rsOnly&&fresh s (.r (L5 id)) with
     | true=>match A35 row.k k' row.xs with
      | some ys=>B14 b off k n ((.b b,some (.b (c.map (Lf.rn id))))::B5Q id row.e k' ys s)
      | none=>s
     | false=>s
    | none=>s
   | none=>s
  | none=>s
theorem C1C{n:Nat}{w0:World}{Z0:Gh}{a:Act}{w:World}{β:Nat->Plc}{b off:Nat}{k:K}:∀ {f:Nat} {s:St} {Z:Col} {ρ:Nat->Value},Rel n w0 Z0 s a ⟨w,Z,ρ,β⟩->∃ Z' ρ',Rel n w0 Z0 (B14 b off k f s) a ⟨w,Z',ρ',β⟩:=by
 intro f
 induction f with
 | zero=>intro s Z ρ h;exact ⟨Z,ρ,h⟩
 | succ f ih=>
  intro s Z ρ h;unfold B14;split
  ·rename_i c hcb;split
   ·rename_i id k' _;split
    ·rename_i row hr;split
     ·rename_i hb;simp only [B3] at hb;split
      ·rename_i ys hc;obtain ⟨Z',ρ',h2⟩:=h.thinB hb.1 hc (St.getB_some.1 hcb) (St.getR_some.1 hr) hb.2;exact ih h2
      ·exact ⟨Z,ρ,h⟩
     ·exact ⟨Z,ρ,h⟩
    ·exact ⟨Z,ρ,h⟩
   ·exact ⟨Z,ρ,h⟩
  ·exact ⟨Z,ρ,h⟩
def C04(k:K)(s:St):ResultVar->St
 | .tmp t=>B6I t k 8 s
 | .cell a _=>match s.getT a with
  | some (.one (.ptr b off))=>B14 b off k 8 s
  | _=>s
def B3n:List RK->List ResultVar->St->St
 | .val _ k::res,rv::rvs,s=>B3n res rvs (C04 k s rv)
 | .new _::res,_::rvs,s=>B3n res rvs s
 | _,_,s=>s
theorem B7E{n:Nat}{w0:World}{Z0:Gh}{a:Act}{w:World}{β:Nat->Plc}:∀ {res:List RK} {rvs:List ResultVar} {s:St} {Z:Col} {ρ:Nat->Value},Rel n w0 Z0 s a ⟨w,Z,ρ,β⟩->∃ Z' ρ',Rel n w0 Z0 (B3n res rvs s) a ⟨w,Z',ρ',β⟩:=by
 intro res
 induction res with
 | nil=>intro rvs s Z ρ h;cases rvs<;>exact ⟨Z,ρ,h⟩
 | cons r res ih=>
  intro rvs s Z ρ h;cases rvs with
  | nil=>
   have e:B3n (r::res) [] s=s:=by cases r<;>rfl
   rw [e];exact ⟨Z,ρ,h⟩
  | cons rv rvs=>
   cases r with
   | new k=>exact ih h
   | val g k=>
    have key:∃ Z' ρ',Rel n w0 Z0 (C04 k s rv) a ⟨w,Z',ρ',β⟩:=by
     cases rv with
     | tmp t=>exact C3C (t:=t) (k:=k) (f:=8) h
     | cell a' T=>
      have e:C04 k s (.cell a' T)=(match s.getT a' with
       | some (.one (.ptr b off))=>B14 b off k 8 s
       | _=>s):=rfl
      rw [e];split
      ·exact C1C h
      ·exact ⟨Z,ρ,h⟩
    obtain ⟨Z',ρ',h2⟩:=key;exact ih h2
def B5R(cfg:Cfg)(s:St):Nat->(ps:List PK)->Ts (ins ps)->Option (Ts (kk ps)×List Hd×List Nat×List Bx)
 | _,[],_=>some ((),[],[],[])
 | i,.val g k true::ps,x=>match gv cfg s true (pR i) k (leaves k x.1 Lf.own (pR i)) with
  | some (y,[],hd,bo,_)=>match B5R cfg s (i+1) ps x.2 with
   | some (z,hd',bo',bx)=>some ((y,z),hd++hd',bo++bo',bx)
   | none=>none
  | _=>none
 | i,.val g k false::ps,x=>B5R cfg s (i+1) ps x.2
 | i,.ptr k::ps,x=>match s.getB (pB i) with
  | some c=>match gv cfg s false (pR i) k c with
   | some (y,[],hd,bo,_)=>match B5R cfg s (i+1) ps x.2 with
    | some (z,hd',bo',bx)=>some ((y,z),hd++hd',bo++bo',⟨pB i,0,k.sz,i⟩::bx)
    | none=>none
   | _=>none
  | none=>none
def D04(b:Nat):Bool:=Nat.blt b 1000||Nat.ble 4096 b
def B31(cfg:Cfg)(s:St):Nat->(res:List RK)->(ps:List PK)->List AV->Ts (kk ps)->Option (Ts (outs res ps)×List Hd×List Nat×List Bx)
 | _,[],_,[],y=>some (y,[],[],[])
 | j,.val g k::res,ps,v::vs,y=>match avG g k v with
  | some ls=>match gv cfg s false (rR j) k ls with
   | some (x,[],hd,bo,_)=>match B31 cfg s (j+1) res ps vs y with
    | some (z,hd',bo',bx')=>some ((x,z),hd++hd',bo++bo',bx')
    | none=>none
   | _=>none
  | none=>none
 | j,.new k::res,ps,.one (.ptr b 0)::vs,y=>match s.getB b,D04 b with
  | some c,true=>match gv cfg s false (rR j) k c with
   | some (x,[],hd,bo,_)=>match B31 cfg s (j+1) res ps vs y with
    | some (z,hd',bo',bx')=>some ((x,z),hd++hd',bo++bo',⟨b,0,k.sz,4000+j⟩::bx')
    | none=>none
   | _=>none
  | _,_=>none
 | _,_,_,_,_=>none
def C3D(hd:List Hd)(bo:List Nat)(bx:List Bx):Bool:=
 nodupB ((A8u hd bx).map (·.1))&&bo.all fun b=>hd.all fun h=>!(Nat.beq h.id b)
def C3E(cfg:Cfg)(rvs:List ResultVar)(res:List RK)(ps:List PK)(x:Ts (ins ps))(s:St):Option (Ts (outs res ps)):=
 match B4g cfg s rvs with
 | some vs=>match B5R cfg s 0 ps x with
  | some (y,hd2,bo2,bx)=>match B31 cfg s 0 res ps vs y with
   | some (z,hd1,bo1,bx1)=>match C3D (hd1++hd2) (bo1++bo2) (bx1++bx) with
    | true=>some z
    | false=>none
   | none=>none
  | none=>none
 | none=>none
def B9Q(cfg:Cfg)(rvs:List ResultVar)(res:List RK)(ps:List PK)(x:Ts (ins ps))(s:St):Option (Ts (outs res ps)):=C3E cfg rvs res ps x (B3n res rvs s)
theorem B15{w:World}{Z:Col}{s:St}{m:Mem}(hk:Keeps w m.w Z m.Z):∀ {k:K} {base nb:Nat} {x:k.T} {cs:List Value},LvC w Z base k x cs->
  (∀ j v,cs[j]? = some v->(N2 k j).isSome=true->LfC s m (.own (nb+j)) v)->All2 (LfC s m) (leaves k x Lf.own nb) cs
 | .int _,_,_,_,_,h,_=>by simp only [LvC] at h;subst h;exact ⟨rfl,trivial⟩
 | .bool,_,_,_,_,h,_=>by simp only [LvC] at h;subst h;exact ⟨rfl,trivial⟩
 | .fnc _,_,_,_,_,h,_=>by simp only [LvC] at h;subst h;exact ⟨rfl,trivial⟩
 | .str,_,_,_,_,h,_=>by simp only [LvC] at h;subst h;exact ⟨rfl,trivial⟩
 | .pa n k,base,nb,xs,cs,h,_=>by
  have h':Ro (.pa n k) w Z xs cs:=h;have h2:=h'.keep hk;rcases h with ⟨rfl,rfl⟩ | ⟨A,rfl,_⟩<;>exact ⟨h2,trivial⟩
 | .rs e k,base,nb,xs,cs,h,_=>by
  have h':Ro (.rs e k) w Z xs cs:=h;have h2:=h'.keep hk;obtain ⟨A,c,rfl,_⟩:=h;exact ⟨h2,trivial⟩
 | .sl e k,base,nb,xs,cs,h,hm=>by
  obtain ⟨v,rfl,h⟩:=h;exact ⟨hm 0 v rfl rfl,trivial⟩
 | .pair a b,base,nb,x,cs,h,hm=>by
  obtain ⟨c0,c1,rfl,h0,h1⟩:=h;refine All2.app (B15 hk h0 fun j v hv hl=>?_) (B15 hk h1 fun j v hv hl=>?_)
  ·have hj:j<a.sz:=by rw [<- h0.len];exact (C3.1 hv).1
   refine hm j v ?_ (by rw [A6f hj];exact hl);rw [E3 (by rw [h0.len];exact hj)];exact hv
  ·rw [L9];refine hm (a.sz+j) v ?_ (by rw [A5M];exact hl);rw [E5 (by rw [h0.len];omega),h0.len,M7];exact hv
theorem B16{cfg:Cfg}{w:World}{Z:Col}{pls:Nat->Plc}{ps0:List PK}{args:List Value}(hsz:∀ p∈ps0,B3g p.k=true){s:St}{n:Nat}{a:Act}{m:Mem}(hr:Rel n w (C9I (B0V w Z pls ps0 args)) s a m){Z':Col}(hk:Keeps m.w m.w m.Z Z') :
  ∀ {ps:List PK} {i:Nat} {x:Ts (ins ps)} {vs:List Value} {y:Ts (kk ps)} {hd:List Hd} {bo:List Nat} {bx:List Bx},B5R cfg s i ps x=some (y,hd,bo,bx)->ArgsC w Z pls i ps x vs->
   (∀ idx p,ps[idx]? = some p->ps0[i+idx]? = some p)->(∀ idx v,vs[idx]? = some v->args[i+idx]? = some v)->i+ps.length<=16->CalOk m Z' hd bo->(∀ z∈bx,Moves m.w m.w m.Z Z' [2*z.b+1] [2*pB z.i+1])->B5L m.w Z' pls i ps y vs
 | [],i,x,vs,y,hd,bo,bx,h,ha,_,_,_,_,_=>ha.1
 | .val g k false::ps,i,x,vs,y,hd,bo,bx,h,ha,hps,hvs,hi,hc,hbx=>by
  obtain ⟨cs,r,rfl,hl,hg,hrest⟩:=ha;simp only [B5R] at h;exact ⟨_,r,rfl,B16 hsz hr hk h hrest (fun idx p hp=>by
   have:=hps (idx+1) p (by simpa using hp)
   rwa [show i+(idx+1)=i+1+idx by omega] at this) (fun idx v hv=>by
   have:=hvs (idx+1) v (by simpa using hv)
   rwa [show i+(idx+1)=i+1+idx by omega] at this) (by simp at hi;omega) hc hbx⟩
 | .val g k true::ps,i,x,vs,y,hd,bo,bx,h,ha,hps,hvs,hi,hc,hbx=>by
  obtain ⟨cs,r,rfl,hl,hg,hrest⟩:=ha;simp only [B5R] at h;split at h
  ·rename_i y1 hd1 bo1 rd1 e1;split at h
   ·rename_i z hd2 bo2 bx2 e2;injection h with h;injection h with h1 h;injection h with h2 h;injection h with h3 h4;subst h1;subst h2;subst h3;subst h4
    have hp0:=hps 0 _ rfl;have hv0:=hvs 0 _ rfl;rw [J0] at hp0 hv0;have hsz0:k.sz<=100:=D5 (hsz _ (I7 hp0));have hac:B2e w pls ps0 args i=cs:=by
     simp only [B2e,hp0,hv0];exact B9N hl hg
    have hlv:=B15 (s:=s) (m:=m) hr.kp (nb:=pR i) hl fun j v hv hlk=>by
     have hlt:=(C3.1 hv).1;have hlen:=hl.len;refine ⟨hl.one v (I7 hv),fun rr hrr=>?_⟩;rw [hr.gr (pR i+j) rr (by simp only [pR];omega) (by simp only [pR];simp at hi;omega) hrr];show v=(B2e w pls ps0 args ((pR i+j-1000) / 100)).getD ((pR i+j-1000) % 100) undef;have h1:(pR i+j-1000) / 100=i:=by simp only [pR];omega
     have h2:(pR i+j-1000) % 100=j:=by simp only [pR];omega
     rw [h1,h2,hac,C2,hv];rfl
    obtain ⟨v0,v1,ev,hl',hrest'⟩:=B5M hr hk e1 (A5L e1) hc.left hlv;have:v1 = []:=by cases v1 with
     | nil=>rfl
     | cons _ _=>exact hrest'.elim
    subst this;rw [F4] at ev;subst ev;exact ⟨cs,r,rfl,hl',hg,B16 hsz hr hk e2 hrest (fun idx p hp=>by
     have:=hps (idx+1) p (by simpa using hp)
     rwa [show i+(idx+1)=i+1+idx by omega] at this) (fun idx v hv=>by
     have:=hvs (idx+1) v (by simpa using hv)
     rwa [show i+(idx+1)=i+1+idx by omega] at this) (by simp at hi;omega) hc.right hbx⟩
   ·cases h
  ·cases h
 | .ptr k::ps,i,x,vs,y,hd,bo,bx,h,ha,hps,hvs,hi,hc,hbx=>by
  obtain ⟨cs0,r,rfl,_,_,hrest⟩:=ha;simp only [B5R] at h;split at h
  ·rename_i c hcb;split at h
   ·rename_i y1 hd1 bo1 rd1 e1;split at h
    ·rename_i z hd2 bo2 bx2 e2;injection h with h;injection h with h1 h;injection h with h2 h;injection h with h3 h4;subst h1;subst h2;subst h3;subst h4
     have hgb:=St.getB_some.1 hcb;obtain ⟨cs,hcs,hone,hcol,hg⟩:=hr.bx _ c hgb;have hβ:m.β (pB i)=pls i:=by
      rw [(hr.gb (pB i) c hgb).1 (by simp only [pB];omega) (by simp only [pB];simp at hi;omega)];show pls (pB i-1000)=pls i;rw [show pB i-1000=i by simp only [pB];omega]
     rw [hβ] at hcol hg;obtain ⟨v0,v1,ev,hl',hrest'⟩:=B5M hr hk e1 (A5L e1) hc.left hcs;have:v1 = []:=by cases v1 with
      | nil=>rfl
      | cons _ _=>exact hrest'.elim
     subst this;rw [F4] at ev;subst ev;have hlt:(pls i).g<m.w.heap.size:=(A9.1 hg).1;refine ⟨cs,_,r,rfl,⟨hg,(hbx _ A5 (pls i).g [] hcol hlt).2⟩,hl',B16 hsz hr hk e2 hrest (fun idx p hp=>by
      have:=hps (idx+1) p (by simpa using hp)
      rwa [show i+(idx+1)=i+1+idx by omega] at this) (fun idx v hv=>by
      have:=hvs (idx+1) v (by simpa using hv)
      rwa [show i+(idx+1)=i+1+idx by omega] at this) (by simp at hi;omega) hc.right (fun z hz=>hbx z (B5 _ hz))⟩
    ·cases h
   ·cases h
  ·cases h
theorem B6J{cfg:Cfg}{s:St}{n:Nat}{w0:World}{Z0:Gh}{a:Act}{m:Mem}(hr:Rel n w0 Z0 s a m){Z':Col}(hk:Keeps m.w m.w m.Z Z'){pls:Nat->Plc}{args:List Value} :
  ∀ {res:List RK} {ps:List PK} {j:Nat} {vs:List AV} {y:Ts (kk ps)} {z:Ts (outs res ps)} {hd:List Hd} {bo:List Nat} {bx:List Bx},B31 cfg s j res ps vs y=some (z,hd,bo,bx)->CalOk m Z' hd bo->B5L m.w Z' pls 0 ps y args->
   (∀ z∈bx,Moves m.w m.w m.Z Z' [2*z.b+1] [2*pB z.i+1])->∀ {vals:List Value},All2 (AVC s m) vs vals->B8J m.w Z' pls ps args j res z vals
 | [],ps,j,vs,y,z,hd,bo,bx,h,_,hkept,_,vals,hv=>by
  cases vs with
  | cons _ _=>simp [B31] at h
  | nil=>
   simp only [B31] at h;injection h with h;injection h with h1 _;subst h1
   cases vals with
   | nil=>exact ⟨rfl,hkept⟩
   | cons _ _=>exact hv.elim
 | .new k::res,ps,j,vs,y,z,hd,bo,bx,h,hc,hkept,hbx,vals,hv=>by
  cases vs with
  | nil=>simp [B31] at h
  | cons v vs=>
   cases vals with
   | nil=>exact hv.elim
   | cons u vals=>
    cases v with
    | tup _=>simp [B31] at h
    | agg _=>simp [B31] at h
    | und=>simp [B31] at h
    | one l=>
     cases l with
     | ptr b off=>
      cases off with
      | succ _=>simp [B31] at h
      | zero=>
       simp only [B31] at h;split at h
       ·rename_i c hcb hob;split at h
        ·rename_i x1 hd1 bo1 rd1 e1;split at h
         ·rename_i z2 hd2 bo2 bx2 e2;injection h with h;injection h with h1 h;injection h with h2 h;injection h with h3 h4;subst h1;subst h2;subst h3;subst h4
          have hgb:=St.getB_some.1 hcb;obtain ⟨cs,hcs,hone,hcol,hg⟩:=hr.bx _ c hgb;have hob':¬ (1000<=b/\b<4096):=by
           simp only [D04,I9] at hob;rcases hob with hob | hob
           ·have:=L4.mp hob;omega
           ·have:=D5 hob;omega
          obtain ⟨hpre,hpost⟩:=(hr.gb b c hgb).2 hob';have hu:u=.pointer (some ⟨(m.β b).g,0,none⟩):=by
           have:=hv.1.2 c hgb;rw [hpre] at this;simpa using this
          obtain ⟨v0,v1,ev,hl',hrest'⟩:=B5M hr hk e1 (A5L e1) hc.left hcs;have:v1 = []:=by cases v1 with
           | nil=>rfl
           | cons _ _=>exact hrest'.elim
          subst this;rw [F4] at ev;subst ev;rw [hpre,hpost] at hg;have hlt:(m.β b).g<m.w.heap.size:=(A9.1 hg).1;have hmv:=(hbx _ A5 (m.β b).g [] hcol hlt).2;refine ⟨(m.β b).g,(m.β b).t,cs,vals,by rw [hu],⟨hg,?_⟩,hl',B6J hr hk e2 hc.right hkept (fun z hz=>hbx z (B5 _ hz)) hv.2⟩;rw [F4] at hmv;rw [hmv];simp only [pB,rB]
          congr 2
          omega
         ·cases h
        ·cases h
       ·cases h
     | _=>simp [B31] at h
 | .val g k::res,ps,j,vs,y,z,hd,bo,bx,h,hc,hkept,hbx,vals,hv=>by
  cases vs with
  | nil=>simp [B31] at h
  | cons v vs=>
   cases vals with
   | nil=>exact hv.elim
   | cons u vals=>
    simp only [B31] at h;split at h
    ·rename_i ls els;split at h
     ·rename_i x1 hd1 bo1 rd1 e1;split at h
      ·rename_i z2 hd2 bo2 bx2 e2;injection h with h;injection h with h1 h;injection h with h2 h;injection h with h3 h4;subst h1;subst h2;subst h3;subst h4
       obtain ⟨cs,rfl,hcs,hg⟩:=C2u els hv.1;obtain ⟨v0,v1,ev,hl',hrest'⟩:=B5M hr hk e1 (A5L e1) hc.left hcs;have:v1 = []:=by cases v1 with
        | nil=>rfl
        | cons _ _=>exact hrest'.elim
       subst this;rw [F4] at ev;subst ev;exact ⟨cs,vals,rfl,hl',hg,B6J hr hk e2 hc.right hkept hbx hv.2⟩
      ·cases h
     ·cases h
    ·cases h
noncomputable def C5V(cfg:Cfg)(Γ:List (Nat×Fn))(An:Nat->Option Jn)(n:Nat)(rvs:List ResultVar)(c:Code)(ps:List PK)(res:List RK):Fn:=
 ⟨ps,res,fun x=>ev (C9H cfg Γ) cfg.ck n An c 1 (B7A 0 ps x) (Ts (outs res ps)) fun e s=>match e with
  | .exit _=>none
  | _=>B9Q cfg rvs res ps x s⟩
theorem C7f{P:Program}(hm:P.follows .mixedOrders=true){cfg:Cfg}(hc:J9 P cfg){Γ:List (Nat×Fn)}(hΓ:A41 P Γ){f:Nat}{fn:Func}{c:Code}(hf:P.funcs[f]? = some fn)(hb:fn.body=some c){An:Nat->Option Jn}
  {ps:List PK} {res:List RK} (hn:ps.length<=fn.ntmps) (hn2:fn.ntmps<=1000) (hp:ps.length<=16) (hsz:∀ p∈ps,B3g p.k=true):A0O P f (C5V cfg Γ An fn.ntmps fn.results.toList c ps res):=by
 intro x y hy w Z pls args hargs;have hent:=B9O hargs hsz hn hn2;refine B0R.1 (B2W (F:=Fence.wide) (n:=3) hf hb trivial (wpIn_wide.2 ?_));refine D02 hm (C4S hc hΓ) (fun f g e=>(hc.ck e).2.1) c 1 (B7A 0 ps x) _ _ y hy w _ _ (B0V w Z pls ps args) _ hent fun e s a0 m0 hk hs hr0=>?_
 have key:∀ (a:Act) (m:Mem),a.tmps=a0.tmps->Rel fn.ntmps w (C9I (B0V w Z pls ps args)) s a m->B9Q cfg fn.results.toList res ps x s=some y->∃ v,(results fn a.tmps).run P m.w=.ok v m.w/\∃ Z' vals,Ending.returned v=.returned (pack vals)/\Keeps w m.w Z Z'/\Fore w m.w Z Z'/\Later w m.w/\B8J m.w Z' pls ps args 0 res y vals:=by
  intro a m ht hr0 h;obtain ⟨Zt,ρt,hr⟩:=B7E (res:=res) (rvs:=fn.results.toList) (w:=m.w) (β:=m.β) (Z:=m.Z) (ρ:=m.ρ) hr0;unfold B9Q C3E at h;split at h
  ·rename_i vs evs;split at h
   ·rename_i y1 hd2 bo2 bx e2;split at h
    ·rename_i z hd1 bo1 bx1 e1;split at h
     ·rename_i hok;injection h with h;subst h
      simp only [C3D,B3] at hok;obtain ⟨vals,hv1,hv2⟩:=B79 hc hr evs;have hcal:CalOk ⟨m.w,Zt,ρt,m.β⟩ (M5 (A8u (hd1++hd2) (bx1++bx)) ((bo1++bo2).map (2*·)) Zt) (hd1++hd2) (bo1++bo2):=by
       refine ⟨fun g hh p=>A36 m.w (T4 hok.1 (E2 _ (D0.2 ⟨g,hh,rfl⟩))) p,fun id hid=>B4W m.w (B3f fun hm=>?_) (D0.2 ⟨id,hid,rfl⟩) []⟩;obtain ⟨g,hh,e⟩:=D0.1 hm;injection e with e
       have:=C8.1 (C8.1 hok.2 id hid) g hh;rw [e,A0e] at this;cases this
      have hkp:=B4V m.w (A8u (hd1++hd2) (bx1++bx)) ((bo1++bo2).map (2*·)) Zt;have hkept:=B16 hsz hr hkp e2 hargs (fun idx p hp=>by rw [D9];exact hp) (fun idx v hv=>by rw [D9];exact hv) (by omega) hcal.right
       (fun z hz=>A36 m.w (T4 hok.1 (D3 _ (D0.2 ⟨z,D3 _ hz,rfl⟩))) [])
      have hout:=B6J hr hkp e1 hcal.left hkept (fun z hz=>A36 m.w (T4 hok.1 (D3 _ (D0.2 ⟨z,E2 _ hz,rfl⟩))) []) hv2;refine ⟨_,hv1,_,vals,rfl,hr.kp.trans hkp hr.hs,hr.fo.trans (fun b hb _=>⟨rfl,by have hb2:Zt b=some []:=hb;simp only [M5,hb2]⟩) hr.hs,⟨hr.hs,hr.os,hr.tp,hr.ou⟩,hout⟩
     ·cases h
    ·cases h
   ·cases h
  ·cases h
 cases e with
 | normal=>exact A3Q a0.defers rfl rfl hr0 fun a' m' ht hr=>key a' m' ht hr hk
 | ret=>exact A3Q a0.defers rfl rfl hr0 fun a' m' ht hr=>key a' m' ht hr hk
 | exit id=>cases hk
structure V7 (P:Program) (t:Nat) (i:TyI):Prop where
 info:∃ f z,P.info? t=some f/\f.size=i.k.sz/\f.bytes=i.bytes/\f.zero=some z/\z.cells.toList=zc i.k/\(i.agg=true->z=.agg z.cells)
 und:∃ d,P.underlying t=some d/\B2p d=i.agg/\(∀ U,i.k=.int U->d=.int U)/\(i.k=.bool->d=.bool)/\(i.k=.str->d=.string)/\
  (i.agg=true->∃ fs,d=.struct fs/\fs.size=i.flds.length/\∀ (j:Nat) f,i.flds[j]? = some f->∃ fd,fs[j]? = some fd/\B6U P fd f)
def A90{α:Type}:List (Nat×α)->Nat->Option α
 | [],_=>none
 | (t,i)::l,d=>match Nat.beq t d with
  | true=>some i
  | false=>A90 l d
theorem A3A{α:Type}:∀ {l:List (Nat×α)} {t:Nat} {i:α},A90 l t=some i->(t,i)∈l
 | (t0,i0)::l,t,i,h=>by
  simp only [A90] at h;split at h
  ·rename_i hb;injection h with h;subst h;rw [A0 hb];exact A5
  ·exact B5 _ (A3A h)
def C9K(tys:List (Nat×TyI))(els:List (Nat×Nat)):Cfg:=⟨A90 tys,A90 els,fun _=>none,none,[],fun _=>none,fun _=>none⟩
theorem C9L{P:Program}{tys:List (Nat×TyI)}{els:List (Nat×Nat)}(h:∀ p∈tys,V7 P p.1 p.2)(he:∀ p∈els,P.underlying p.1=some (.slice p.2)):J9 P (C9K tys els) where
 pk:=fun h=>by cases h
 ck:=fun h=>by cases h
 pt:=fun h=>by cases h
 eq:=fun h=>by cases h
 ar:=fun h=>by cases h
 info:=fun {t i} ht=>(h _ (A3A ht)).info
 agg:=fun {t i} ht=>let ⟨d,h1,h2,_⟩:=(h _ (A3A ht)).und;⟨d,h1,h2⟩
 st:=fun {t i} ht ha=>by
  obtain ⟨d,h1,h2,_,_,_,h6⟩:=(h _ (A3A ht)).und;obtain ⟨fs,rfl,h7⟩:=h6 ha;exact ⟨fs,h1,h7⟩
 int:=fun {t i U} ht hk=>let ⟨d,h1,_,h3,_⟩:=(h _ (A3A ht)).und;by rw [h1,h3 U hk]
 bool:=fun {t i} ht hk=>let ⟨d,h1,_,_,h4,_⟩:=(h _ (A3A ht)).und;by rw [h1,h4 hk]
 str:=fun {t i} ht hk=>let ⟨d,h1,_,_,_,h5,_⟩:=(h _ (A3A ht)).und;by rw [h1,h5 hk]
 el:=fun {t e} ht=>he _ (A3A ht)
theorem C7g{P:Program}{t:Nat}{f:TypeInfo}{U:IntKind}{b:Nat}(h1:P.info? t=some f)(h2:f.size=1)(h3:f.bytes=b)(h4:f.zero=some (.int U 0))(h5:P.underlying t=some (.int U)):V7 P t ⟨false,.int U,b,[]⟩:=
 ⟨⟨f,_,h1,h2,h3,h4,rfl,fun h=>by cases h⟩,_,h5,rfl,fun U' h=>by injection h with h;rw [h],fun h=>by (cases h),fun h=>by (cases h),fun h=>by cases h⟩
theorem C5W{P:Program}{t:Nat}{f:TypeInfo}{b:Nat}(h1:P.info? t=some f)(h2:f.size=1)(h3:f.bytes=b)(h4:f.zero=some (.bool false))(h5:P.underlying t=some .bool):V7 P t ⟨false,.bool,b,[]⟩:=
 ⟨⟨f,_,h1,h2,h3,h4,rfl,fun h=>by cases h⟩,_,h5,rfl,fun U' h=>by (cases h),fun h=>rfl,fun h=>by (cases h),fun h=>by cases h⟩
theorem C7h{P:Program}{t:Nat}{f:TypeInfo}{b:Nat}(h1:P.info? t=some f)(h2:f.size=1)(h3:f.bytes=b)(h4:f.zero=some (.string ⟨#[]⟩))(h5:P.underlying t=some .string):V7 P t ⟨false,.str,b,[]⟩:=
 ⟨⟨f,_,h1,h2,h3,h4,rfl,fun h=>by cases h⟩,_,h5,rfl,fun U' h=>by (cases h),fun h=>by (cases h),fun h=>rfl,fun h=>by cases h⟩
theorem C9M{P:Program}{t e:Nat}{k:K}{f:TypeInfo}{b:Nat}(h1:P.info? t=some f)(h2:f.size=1)(h3:f.bytes=b)(h4:f.zero=some (.slice none 0 0))(h5:P.underlying t=some (.slice e)):V7 P t ⟨false,.sl e k,b,[]⟩:=
 ⟨⟨f,_,h1,h2,h3,h4,rfl,fun h=>by cases h⟩,_,h5,rfl,fun U' h=>by (cases h),fun h=>by (cases h),fun h=>by (cases h),fun h=>by cases h⟩
def A6h(k:IntKind)(x y:Int):Int:=k.wrap ((BitVec.ofInt k.bits x &&& BitVec.ofInt k.bits y).toNat:Int)
def bOr(k:IntKind)(x y:Int):Int:=k.wrap ((BitVec.ofInt k.bits x ||| BitVec.ofInt k.bits y).toNat:Int)
def A10(k:IntKind)(x y:Int):Int:=k.wrap ((BitVec.ofInt k.bits x &&& ~~~ (BitVec.ofInt k.bits y)).toNat:Int)
theorem C5a{P:Program}(hm:P.follows .mixedOrders=true){cfg:Cfg}(hc:J9 P cfg){Γ:List (Nat×Fn)}(hΓ:A41 P Γ){f:Nat}{fn:Func}{c:Code}(hf:P.funcs[f]? = some fn)(hb:fn.body=some c){An:Nat->Option Jn}
  {ps:List PK} {res:List RK} (hn:ps.length<=fn.ntmps) (hn2:fn.ntmps<=1000) (hp:ps.length<=16) (hsz:∀ p∈ps,B3g p.k=true) {g:Ts (ins ps)->Option (Ts (outs res ps))}
  (e:∀ x,(C5V cfg Γ An fn.ntmps fn.results.toList c ps res).fn x=g x):A0O P f ⟨ps,res,g⟩:=by
 have h:=C7f hm hc hΓ hf hb (An:=An) (res:=res) hn hn2 hp hsz;rw [show g=(C5V cfg Γ An fn.ntmps fn.results.toList c ps res).fn from (funext e).symm];exact h
theorem D7{P:Program}:A41 P []:=fun p hp=>by cases hp
theorem C7i{P:Program}{g:Nat}{F:Fn}{Γ:List (Nat×Fn)}(h1:Enters P g)(h2:A0O P g F)(h:A41 P Γ)(h0:Nat.blt g 1000000=true):A41 P ((g,F)::Γ):=fun p hp=>by
 rcases B4.1 hp with rfl | hp
 ·exact .inl ⟨h0,h1,h2⟩
 ·exact h p hp
def okN(ps:List PK)(n:Nat):Bool:=Nat.ble ps.length n&&Nat.ble n 1000&&Nat.ble ps.length 16&&ps.all fun p=>B3g p.k
theorem sm{P:Program}(hm:P.follows .mixedOrders=true){cfg:Cfg}(hc:J9 P cfg){Γ:List (Nat×Fn)}(hΓ:A41 P Γ){f:Nat}{fn:Func}{c:Code}(hf:P.funcs[f]? = some fn)(hb:fn.body=some c){An:Nat->Option Jn}
  {ps:List PK} {res:List RK} (h:okN ps fn.ntmps=true) {g:Ts (ins ps)->Option (Ts (outs res ps))}
  (e:∀ x,(C5V cfg Γ An fn.ntmps fn.results.toList c ps res).fn x=g x):A0O P f ⟨ps,res,g⟩:=by
 simp only [okN,B3] at h;exact C5a hm hc hΓ hf hb (D5 h.1.1.1) (D5 h.1.1.2) (D5 h.1.2) (fun p hp=>C8.1 h.2 p hp) e
theorem tc{P:Program}{g:Nat}{F:Fn}{Γ:List (Nat×Fn)}(h1:Enters P g)(h2:A0O P g F)(h:A41 P Γ)(h0:Nat.blt g 1000000=true:=by rfl):A41 P ((g,F)::Γ):=C7i h1 h2 h h0
def lt:Nat->Nat->List Loc->List Loc
 | _,0,l=>l
 | a,n+1,l=>.t a::lt (a+1) n l
def lx:Nat->Nat->List Loc->List Loc
 | _,0,l=>l
 | a,n+1,l=>.x a::lx (a+1) n l
def C05(P:Program):List Field->List (Nat×Nat×Bool)->Prop
 | [],[]=>True
 | fd::fs,f::l=>B6U P fd f/\C05 P fs l
 | _,_=>False
theorem B7F{P:Program}:∀ {fs:List Field} {l:List (Nat×Nat×Bool)},C05 P fs l->fs.length=l.length/\∀ (j:Nat) f,l[j]? = some f->∃ fd,fs[j]? = some fd/\B6U P fd f
 | [],[],_=>⟨rfl,fun j f h=>by simp at h⟩
 | fd::fs,f::l,h=>by
  have ⟨h1,h2⟩:=B7F h.2;refine ⟨by simp [h1],fun j g hj=>?_⟩;cases j with
  | zero=>simp only [A9L,H5] at hj;subst hj;exact ⟨fd,rfl,h.1⟩
  | succ j=>exact h2 j g (by simpa using hj)
 | [],_::_,h=>h.elim
 | _::_,[],h=>h.elim
def K.prim:K->Bool
 | .int _=>true
 | .bool=>true
 | .str=>true
 | _=>false
theorem C9N{P:Program}{t:Nat}{f:TypeInfo}{fs:Array Field}{k:K}{b:Nat}{fl:List (Nat×Nat×Bool)}(h1:P.info? t=some f)(h2:f.size=k.sz)(h3:f.bytes=b)
  (h4:f.zero=some (.agg (zc k).toArray)) (h5:P.underlying t=some (.struct fs)) (h7:C05 P fs.toList fl) (hk:k.prim=false):V7 P t ⟨true,k,b,fl⟩:=by
 have ⟨g1,g2⟩:=B7F h7;refine ⟨⟨f,_,h1,h2,h3,h4,by simp [Value.cells],fun _=>by simp [Value.cells]⟩,_,h5,rfl,fun U h=>?_,fun h=>?_,fun h=>?_,fun _=>⟨fs,rfl,by simpa using g1,fun j f hj=>?_⟩⟩
 ·simp only at h;rw [h] at hk;cases hk
 ·simp only at h;rw [h] at hk;cases hk
 ·simp only at h;rw [h] at hk;cases hk
 ·obtain ⟨fd,a,b⟩:=g2 j f hj;exact ⟨fd,by simpa using a,b⟩
theorem C9O{P:Program}{t e:Nat}{k:K}{f:TypeInfo}{b:Nat}(h1:P.info? t=some f)(h2:f.size=1)(h3:f.bytes=b)(h4:f.zero=some (.slice none 0 0))(h5:P.underlying t=some (.slice e)):V7 P t ⟨false,.rs e k,b,[]⟩:=
 ⟨⟨f,_,h1,h2,h3,h4,rfl,fun h=>by cases h⟩,_,h5,rfl,fun U' h=>by (cases h),fun h=>by (cases h),fun h=>by (cases h),fun h=>by cases h⟩
def D05(P:Program):List (Nat×TyI)->Prop
 | []=>True
 | p::l=>V7 P p.1 p.2/\D05 P l
def D06(P:Program):List (Nat×Nat)->Prop
 | []=>True
 | p::l=>P.underlying p.1=some (.slice p.2)/\D06 P l
theorem C4U{P:Program}{tys:List (Nat×TyI)}{els:List (Nat×Nat)}(h:D05 P tys)(he:D06 P els):J9 P (C9K tys els):=by
 refine C9L ?_ ?_
 ·clear he
  induction tys with
  | nil=>intro p hp;cases hp
  | cons q l ih=>
   intro p hp;rcases B4.1 hp with rfl | hp
   ·exact h.1
   ·exact ih h.2 p hp
 ·clear h
  induction els with
  | nil=>intro p hp;cases hp
  | cons q l ih=>
   intro p hp;rcases B4.1 hp with rfl | hp
   ·exact he.1
   ·exact ih he.2 p hp
def Cfg.withCk(c:Cfg)(f g:Nat):Cfg:=⟨c.ty,c.el,c.pk,some (f,g),c.pt,c.eq,c.ar⟩
theorem C5b{P:Program}{c:Cfg}{f g:Nat}(hc:J9 P c)(he:∀ args w,(callFunc f args).run P w=.ok (.enter f args) w)(hF:B65 P f g):J9 P (c.withCk f g) where
 info:=hc.info
 agg:=hc.agg
 st:=hc.st
 int:=hc.int
 bool:=hc.bool
 str:=hc.str
 el:=hc.el
 ar:=hc.ar
 eq:=hc.eq
 pt:=hc.pt
 pk:=hc.pk
 ck:=fun {f' g'} h=>by
  simp only [Cfg.withCk] at h;injection h with h
  injection h with h1 h2
  subst h1;subst h2;exact ⟨he,hF⟩
def Cfg.withEq(c:Cfg)(l:List (Nat×Nat)):Cfg:=⟨c.ty,c.el,c.pk,c.ck,c.pt,A90 l,c.ar⟩
theorem B7G{P:Program}:∀ {l:List (Nat×Nat)},C6K P l->∀ {t n},A90 l t=some n->B91 P t n
 | [],_,_,_,h=>by cases h
 | p::l,h,t,n,e=>by
  simp only [A90] at e;split at e
  ·rename_i hb;injection e with e;rw [<- A0 hb,<- e];exact h.1
  ·exact B7G h.2 e
theorem B9R{P:Program}{c:Cfg}{l:List (Nat×Nat)}(hc:J9 P c)(h:C6K P l):J9 P (c.withEq l) where
 info:=hc.info
 agg:=hc.agg
 st:=hc.st
 int:=hc.int
 bool:=hc.bool
 str:=hc.str
 el:=hc.el
 ar:=hc.ar
 pk:=hc.pk
 ck:=hc.ck
 pt:=hc.pt
 eq:=fun e=>B7G h e
def Cfg.withAr(c:Cfg)(l:List (Nat×Nat×Nat)):Cfg:=⟨c.ty,c.el,c.pk,c.ck,c.pt,c.eq,A90 l⟩
def C7j(P:Program)(ty:Nat->Option TyI):List (Nat×Nat×Nat)->Prop
 | []=>True
 | p::l=>C6L P ty p.1 p.2.1 p.2.2/\C7j P ty l
theorem B7H{P:Program}{ty:Nat->Option TyI}:∀ {l:List (Nat×Nat×Nat)},C7j P ty l->∀ {t n e},A90 l t=some (n,e)->C6L P ty t n e
 | [],_,_,_,_,h=>by cases h
 | p::l,h,t,n,e,he=>by
  simp only [A90] at he;split at he
  ·rename_i hb;injection he with he
   have h1:=h.1;rw [A0 hb,he] at h1;exact h1
  ·exact B7H h.2 he
theorem C9P{P:Program}{ty:Nat->Option TyI}{t n e:Nat}{f:TypeInfo}{ti:TyI}(h1:P.underlying t=some (.array n e))(h2:P.info? t=some f)(h3:ty e=some ti)(h4:f.zero=some (.agg (List.replicate n (zc ti.k)).flatten.toArray)):C6L P ty t n e:=
 ⟨h1,f,_,h2,h4,fun ti' h=>by rw [h3] at h;injection h with h;subst h;rfl⟩
theorem B2B{P:Program}{c:Cfg}{l:List (Nat×Nat×Nat)}(hc:J9 P c)(h:C7j P c.ty l):J9 P (c.withAr l) where
 info:=hc.info
 agg:=hc.agg
 st:=hc.st
 int:=hc.int
 bool:=hc.bool
 str:=hc.str
 el:=hc.el
 pk:=hc.pk
 ck:=hc.ck
 pt:=hc.pt
 eq:=hc.eq
 ar:=fun e=>B7H h e
open Go.ChangeShapes Go.WideShapes Go.ChangeAt Go.RowKit
mutual
inductive KOf (P:Program):K->TypeId->Prop
 | int {U:IntKind} {t:TypeId}:P.underlying t=some (.int U)->KOf P (.int U) t
 | bool {t:TypeId}:P.underlying t=some .bool->KOf P .bool t
 | str {t:TypeId}:P.underlying t=some .string->KOf P .str t
 | sl {e:Nat} {k:K} {t:TypeId}:P.underlying t=some (.slice e)->P.cellsOf e=k.sz->KOf P k e->KOf P (.sl e k) t
 | rs {e:Nat} {k:K} {t:TypeId}:P.underlying t=some (.slice e)->P.cellsOf e=k.sz->KOf P k e->KOf P (.rs e k) t
 | st {k:K} {t:TypeId} {fs:Array Field}:P.underlying t=some (.struct fs)->P.cellsOf t=k.sz->KFs P k fs.toList 0->KOf P k t
inductive KFs (P:Program):K->List Field->Nat->Prop
 | one {k:K} {fd:Field} {o:Nat}:fd.offset=o->P.cellsOf fd.type=k.sz->KOf P k fd.type->KFs P k [fd] o
 | cons {a b:K} {fd:Field} {fs:List Field} {o:Nat}:fd.offset=o->P.cellsOf fd.type=a.sz->KOf P a fd.type->KFs P b fs (o+a.sz)->KFs P (.pair a b) (fd::fs) o
end
def Wf:(k:K)->k.T->Prop
 | .int U,n=>(Lit.int U n).wf=true
 | .bool,_=>True
 | .fnc _,_=>True
 | .str,s=>s.size<=maxLen
 | .sl _ k,xs=>xs.length<=maxLen/\∀ x∈xs,Wf k x
 | .rs _ k,xs=>xs.length<=maxLen/\∀ x∈xs,Wf k x
 | .pa _ k,xs=>∀ x∈xs,Wf k x
 | .pair a b,x=>Wf a x.1/\Wf b x.2
theorem C9Q{α:Type}{Q:Nat->α->Prop}{n:Nat}(h:∀ i,i<n->∃ x,Q i x):∃ xs:List α,xs.length=n/\∀ i (hi:i<xs.length),Q i xs[i]:=by
 refine ⟨List.ofFn fun i:Fin n=>(h i.1 i.2).choose,by simp,fun i hi=>?_⟩;simp only [List.getElem_ofFn];exact (h i (by simpa using hi)).choose_spec
theorem B5S{H:Type}{enc:TypeId×Value->H}{P:Program}{w:World}{held:Bool}{spare:Nat->Bool}{k:K}{t e:TypeId}(hu:P.underlying t=some (.slice e))(hc:P.cellsOf e=k.sz)
  (ih:∀ fuel cs x,DataW.trod enc P w 0 spare held fuel e cs=some x->∃ x:k.T,Ro k w A40 x cs/\Wf k x)
  {fuel:Nat} {cs:List Value} {x:DataW H×List MemPlace} (h:DataW.trod enc P w 0 spare held fuel t cs=some x) :
  ∃ xs:List k.T,RoL (Ro k w A40) k.sz w A40 xs cs/\xs.length<=maxLen/\∀ x∈xs,Wf k x:=by
 rcases DataW.trod_slice hu h with ⟨rfl,_⟩ | ⟨a,len,cap,elems,rest,n,_,rfl,_,hb,hl,hm,hlen,hel,_,_⟩
 ·exact ⟨[],⟨none,0,rfl,by simp,G6 _,fun h=>by simp at h⟩,by simp,fun x hx=>by cases hx⟩
 ·have hx:∀ i,i<len->∃ x:k.T,Wf k x/\∃ ds,ds.length=k.sz/\Ro k w A40 x ds/\∀ j u,ds[j]? = some u->w.cell? (a.add (i*k.sz+j))=some u:=by
   intro i hi;have hy:=hel i hi;rw [C0 (by omega)] at hy;simp only [Option.bind_eq_some_iff] at hy;obtain ⟨ds,h3,h4⟩:=hy;obtain ⟨x,hx,hw⟩:=ih n ds _ h4;obtain ⟨g1,g2,g3⟩:=World.cells?_some h3;refine ⟨x,hw,ds,g2.trans hc,hx,fun j u hu'=>?_⟩;have hj:j<ds.length:=(C3.1 hu').1;have:=g3 j (by omega);rw [Addr.add_add,hc] at this;rw [this,hu']
  obtain ⟨xs,hlen',hq⟩:=C9Q hx;subst hlen';refine ⟨xs,⟨some a,cap,rfl,hl,hm,fun _=>⟨a,rfl,rfl,fun i hi=>?_⟩⟩,by omega,fun x hx=>?_⟩
  ·obtain ⟨_,ds,q1,q2,q3⟩:=hq i hi;exact ⟨ds,q1,q2,q3⟩
  ·obtain ⟨i,hi,rfl⟩:=List.getElem_of_mem hx;exact (hq i hi).1
mutual
theorem B2C{H:Type}{enc:TypeId×Value->H}{P:Program}{w:World}{held:Bool}{spare:Nat->Bool}:∀ {k:K} {t:TypeId},KOf P k t->∀ (fuel:Nat) (cs:List Value) (x:DataW H×List MemPlace),
  DataW.trod enc P w 0 spare held fuel t cs=some x->∃ x:k.T,Ro k w A40 x cs/\Wf k x
 | _,_,.int hu,fuel,cs,x,h=>by
  obtain ⟨n,rfl,_,hw⟩:=DataW.trod_int hu h;exact ⟨n,rfl,hw⟩
 | _,_,.bool hu,fuel,cs,x,h=>by
  obtain ⟨n,rfl,_⟩:=DataW.trod_bool hu h;exact ⟨n,rfl,trivial⟩
 | _,_,.str hu,fuel,cs,x,h=>by
  obtain ⟨n,rfl,_,hw⟩:=DataW.trod_string hu h;exact ⟨n,rfl,hw⟩
 | _,_,.sl hu hc hk,fuel,cs,x,h=>by
  obtain ⟨xs,h1,h2⟩:=B5S hu hc (fun fuel cs x h=>B2C hk fuel cs x h) h;exact ⟨xs,h1,h2⟩
 | _,_,.rs hu hc hk,fuel,cs,x,h=>by
  obtain ⟨xs,h1,h2⟩:=B5S hu hc (fun fuel cs x h=>B2C hk fuel cs x h) h;exact ⟨xs,h1,h2⟩
 | k,t,.st (fs:=fs) hu hc hk,fuel,cs,x,h=>by
  obtain ⟨xs,n,_,_,hl,hlen,hf⟩:=DataW.trod_struct hu h;have:=C4V hk n cs xs (by omega) (by simpa using hlen) (fun i f hi=>hf i f (by simpa using hi));simpa using this
theorem C4V{H:Type}{enc:TypeId×Value->H}{P:Program}{w:World}{held:Bool}{spare:Nat->Bool}:∀ {k:K} {fs:List Field} {o:Nat},KFs P k fs o->∀ (fuel:Nat) (cs:List Value) (xs:List (DataW H×List MemPlace)),
  cs.length=o+k.sz->xs.length=fs.length->(∀ (i:Nat) f,fs[i]? = some f->DataW.trod enc P w 0 spare held fuel f.type ((cs.drop f.offset).take (P.cellsOf f.type))=xs[i]?)->∃ x:k.T,Ro k w A40 x (cs.drop o)/\Wf k x
 | k,_,_,.one (fd:=fd) (o:=o) ho hc hk,fuel,cs,xs,hl,hx0,h=>by
  have hy:=h 0 fd rfl;rw [C0 (by simp [hx0])] at hy;obtain ⟨x,hx,hw⟩:=B2C hk fuel _ _ hy;refine ⟨x,?_,hw⟩;rw [ho,hc,E8 (by simp only [C5];omega)] at hx;exact hx
 | _,_,_,.cons (a:=a) (b:=b) (fd:=fd) (fs:=fs) (o:=o) ho hc hk hs,fuel,cs,xs,hl,hx0,h=>by
  have hl':cs.length=o+(a.sz+b.sz):=hl;have hy:=h 0 fd rfl;rw [C0 (by simp [hx0])] at hy;obtain ⟨x,hx,hw⟩:=B2C hk fuel _ _ hy;obtain ⟨x2,hx2,hw2⟩:=C4V hs fuel cs xs.tail (by omega) (by simp [hx0]) (fun i f hi=>by
   have:=h (i+1) f (by simpa using hi);rw [this];cases xs<;>simp)
  refine ⟨(x,x2),⟨_,_,?_,hx,hx2⟩,hw,hw2⟩;rw [ho,hc,<- L6,M2]
end
def K.low:K->Bool
 | .sl _ _=>false
 | .pair a b=>a.low&&b.low
 | _=>true
theorem C4W{w:World}{Z:Col}:∀ {k:K} (base:Nat) {x:k.T} {cs:List Value},k.low=true->Ro k w Z x cs->LvC w Z base k x cs
 | .int _,_,_,_,_,h=>h
 | .bool,_,_,_,_,h=>h
 | .fnc _,_,_,_,_,h=>h
 | .str,_,_,_,_,h=>h
 | .sl _ _,_,_,_,hl,_=>by cases hl
 | .rs _ _,_,_,_,_,h=>h
 | .pa _ _,_,_,_,_,h=>h
 | .pair a b,base,x,cs,hl,h=>by
  simp only [K.low,B3] at hl;obtain ⟨c0,c1,h1,h2,h3⟩:=h;exact ⟨c0,c1,h1,C4W base hl.1 h2,C4W _ hl.2 h3⟩
inductive PsOf (P:Program):List PK->List TypeId->Prop
 | nil:PsOf P [] []
 | st {k:K} {t:TypeId} {fs:Array Field} {ps:List PK} {ts:List TypeId}:P.underlying t=some (.struct fs)->KOf P k t->k.low=true->PsOf P ps ts->PsOf P (.val true k false::ps) (t::ts)
 | one {k:K} {t:TypeId} {ps:List PK} {ts:List TypeId}:KOf P k t->(∀ fs,P.underlying t≠some (.struct fs))->k.low=true->k.sz=1->PsOf P ps ts->PsOf P (.val false k false::ps) (t::ts)
def B5T:(ps:List PK)->Ts (ins ps)->Prop
 | [],_=>True
 | .val _ k _::ps,x=>Wf k x.1/\B5T ps x.2
 | .ptr k::ps,x=>Wf k x.1/\B5T ps x.2
theorem C1D{P:Program}{w:World}{base:Nat}{t:TypeId}{fs:Array Field}(hu:P.underlying t=some (.struct fs)){v:Value}(ho:Value.okWide P w .any base t v):∃ cs:Array Value,v=.agg cs:=by
 obtain ⟨cs,h,_⟩:=okWide_struct hu ho;exact ⟨cs,h⟩
theorem C3F{P:Program}{w:World}{base:Nat}{k:K}{t:TypeId}(h:KOf P k t)(hn:∀ fs,P.underlying t≠some (.struct fs)){v:Value}(ho:Value.okWide P w .any base t v):v.cells.toList = [v]:=by
 cases h with
 | int hu=>obtain ⟨n,rfl⟩:=okWide_int hu ho;rfl
 | bool hu=>obtain ⟨n,rfl⟩:=okWide_bool hu ho;rfl
 | str hu=>obtain ⟨n,rfl⟩:=okWide_string hu ho;rfl
 | sl hu=>obtain ⟨a,l,c,rfl⟩:=okWide_slice hu ho;rfl
 | rs hu=>obtain ⟨a,l,c,rfl⟩:=okWide_slice hu ho;rfl
 | st hu=>exact absurd hu (hn _)
theorem C9R{H:Type}{enc:TypeId×Value->H}{P:Program}{W:World}{held:Bool}{spare:Nat->Bool}{base:Nat}(pls:Nat->Plc):∀ {ps:List PK} {ts:List TypeId},PsOf P ps ts->∀ (i:Nat) {vs:List Value} {ds:List (DataW H)} {pp:List MemPlace},
  DataW.TrodAll enc P W 0 spare held ts vs ds pp->(∀ (j:Nat) t v,ts[j]? = some t->vs[j]? = some v->Value.okWide P W .any base t v)->
  GI W A40->∃ x:Ts (ins ps),ArgsC W A40 pls i ps x vs/\B5T ps x:=by
 intro ps ts h
 induction h with
 | nil=>
  intro i vs ds pp h _ hg;obtain ⟨rfl,_,_⟩:=trodAll_nil h;exact ⟨(),⟨rfl,hg⟩,trivial⟩
 | st hu hk hl _ ih=>
  intro i vs ds pp h hv hg;obtain ⟨v,vs,d,ds,p,q,rfl,rfl,rfl,h1,h2⟩:=trodAll_cons h;obtain ⟨x,hx,hw⟩:=ih (i+1) h2 (fun j t v a b=>hv (j+1) t v (by simpa using a) (by simpa using b)) hg;obtain ⟨fuel,h1⟩:=h1;obtain ⟨y,hy,hw'⟩:=B2C hk fuel _ _ h1;obtain ⟨cs,rfl⟩:=C1D hu (hv 0 _ _ rfl rfl);exact ⟨(y,x),⟨_,vs,by simp [toV,Value.cells],C4W _ hl hy,.inl rfl,hx⟩,hw',hw⟩
 | one hk hn hl hz _ ih=>
  intro i vs ds pp h hv hg;obtain ⟨v,vs,d,ds,p,q,rfl,rfl,rfl,h1,h2⟩:=trodAll_cons h;obtain ⟨x,hx,hw⟩:=ih (i+1) h2 (fun j t v a b=>hv (j+1) t v (by simpa using a) (by simpa using b)) hg;obtain ⟨fuel,h1⟩:=h1;have hc:=C3F hk hn (hv 0 _ _ rfl rfl);rw [hc] at h1;obtain ⟨y,hy,hw'⟩:=B2C hk fuel _ _ h1;exact ⟨(y,x),⟨_,vs,rfl,C4W _ hl hy,.inr hz,hx⟩,hw',hw⟩
theorem B2f{H:Type}{enc:TypeId×Value->H}{P:Program}(hl:laidOutB P=true){W W':World}(hb:Below W.heap.size W W'):∀ {ts:List TypeId} {vs:List Value} {ds:List (DataW H)} {pp:List MemPlace},
  (∀ t∈ts,P.readableRec t=true/\t<P.types.size)->DataW.TrodAll enc P W 0 (fun _=>true) true ts vs ds pp->DataW.TrodAll enc P W' 0 (fun b=>decide (b<W.heap.size)) true ts vs ds pp
 | [],_,_,_,_,h=>by
  obtain ⟨rfl,rfl,rfl⟩:=trodAll_nil h;exact trodAll_mk0
 | t::ts,_,_,_,hr,h=>by
  obtain ⟨v,vs,d,ds,p,q,rfl,rfl,rfl,h1,h2⟩:=trodAll_cons h;have hlt:∀ x∈p,x.block<W.heap.size:=by
   obtain ⟨m,hm⟩:=h1;exact DataW.trod_lt m _ _ _ hm
  exact ⟨p,q,Below.trod hl (hr t (by simp)).1 (hr t (by simp)).2 h1 hb hlt,B2f hl hb (fun t ht=>hr t (by simp [ht])) h2,rfl⟩
theorem C5c{P:Program}{f:Nat}{ps:List PK}{g:Ts (ins ps)->Option (Ts (outs [RK.val false .bool] ps))}(hS:A0O P f ⟨ps,[RK.val false .bool],g⟩)(hg:∀ x,B5T ps x->∃ y,g x=some (true,y))
  {ts:List TypeId} (hp:PsOf P ps ts) {H:Type} {enc:TypeId×Value->H} {W:World} {base:Nat} {args:Array Value} {ds:List (DataW H)} {pp:List MemPlace} {spare:Nat->Bool} {held:Bool}
  (hA:DataW.TrodAll enc P W 0 spare held ts args.toList ds pp) (hval:∀ (j:Nat) t v,ts[j]? = some t->args[j]? = some v->Value.okWide P W .any base t v) (hgi:GI W A40) :
  Calls P f args W fun e W'=>e=.returned (.bool true)/\Below W.heap.size W W':=by
 obtain ⟨x,hx,hw⟩:=C9R (fun _=>⟨0,0,[],[]⟩) hp 0 hA (fun j t v a b=>hval j t v a (by simpa using b)) hgi;obtain ⟨y,hy⟩:=hg x hw;have h:=hS x _ hy W A40 _ _ hx;simp only [R6] at h;refine h.mono fun e W' ⟨Z',vals,he,hk,hf,hl,ho⟩=>?_
 obtain ⟨cs,r,rfl,h1,_,h2,_⟩:=ho;cases h1;subst h2;refine ⟨he,hl.os,hl.tape,hl.output,hl.size,fun b hb=>(hk b rfl hb).1⟩
theorem B5U{H:Type}{enc:TypeId×Value->H}{P:Program}{W:World}{held:Bool}{spare:Nat->Bool}:∀ {ts:List TypeId} {vs:List Value} {ds:List (DataW H)} {pp:List MemPlace},
  DataW.TrodAll enc P W 0 spare held ts vs ds pp->ds.length=ts.length
 | [],_,_,_,h=>by
  obtain ⟨_,rfl,_⟩:=trodAll_nil h;rfl
 | t::ts,_,_,_,h=>by
  obtain ⟨v,vs,d,ds,p,q,rfl,rfl,rfl,h1,h2⟩:=trodAll_cons h;simp [B5U h2]
end Go.Proofs.YthnfghmjipikhaaGreatDoor.Ev
namespace Go.Proofs.YthnfghmjipikhaaGreatDoor.Ev
def D07{α:Type}(xs:List α)(i j:Int):Option (List α×Unit):=
 bif decide (0<=i) then bif decide (i<j) then bif decide (j<=(xs.length:Int)) then some (xs.take i.toNat++xs.drop j.toNat,()) else none else none else none
def B9S{α:Type}(xs:List α)(i:Int)(ys:List α):Option (List α×Unit):=
 bif decide (0<=i) then bif decide (i<=(xs.length:Int)) then bif decide (0<ys.length) then bif decide (xs.length+ys.length<=1000000000000) then some (xs.take i.toNat++ys++xs.drop i.toNat,()) else none else none else none else none
open Go.ChangeShapes Go.WideShapes Go.ChangeAt Go.RowKit
theorem C1E{C:Checked}{os:Os}{f:FuncId}{fn:Func}{s:ChangeSpec}(own:ownKnob C.prog.godebug=none)(started:os.Started)(noInit:C.prog.inits.idxOf? f=none)(hfn:C.prog.funcs[f]? = some fn)
  {H:Type} {enc:TypeId×Value->H} {l:List (String×DataW Unit)}
  (witness:∃ (w:World) (tape:Tape) (i:Input),w.os=os/\(w.forCall tape i).Shaped C.prog/\i.vars = []/\Input.okWide C.prog (w.forCall tape i) .any w.heap.size f i/\
   ((s.pre enc C.prog fn [] false (w.forCall tape i).memory i.args/\laidMetH C.prog l (w.forCall tape i).memory)/\sizedMet enc C.prog fn (OpenSpec.ofChange s) false (w.forCall tape i).memory i.args)/\({}:Assume).holds C.prog (lone (Frame.enter C.prog f i.args .normal) [] (w.forCall tape i)))
  {ps:List PK} {g:Ts (ins ps)->Option (Ts (outs [RK.val false .bool] ps))} (hS:A0O C.prog f ⟨ps,[RK.val false .bool],g⟩) (hg:∀ x,B5T ps x->∃ y,g x=some (true,y))
  {ts:List TypeId} (hts:fn.params.toList=ts) (hp:PsOf C.prog ps ts) {tb:TypeId} (hres:fn.resultTypes=#[tb]) (hb:C.prog.underlying tb=some .bool)
  (hlaid:laidOutB C.prog=true) (hread:∀ t∈ts,C.prog.readableRec t=true/\t<C.prog.types.size) (hvars:s.vars = [])
  (hs:∀ ds:List (DataW H),ds.length=ts.length->s.fn H ds=⟨[.lit (.bool true)],ds,[]⟩) (hgi:∀ W:World,laidMetH C.prog l W->W.ShapedOpen C.prog->GI W A40) :
  ReturnsInHanded {} C os f .any (fun w args=>(s.pre enc C.prog fn [] false w args/\laidMetH C.prog l w)/\sizedMet enc C.prog fn (OpenSpec.ofChange s) false w args) (s.post enc C.prog fn false true false false):=by
 refine returnsInHanded_of_calls own started noInit witness ?_;intro w tape i _ hsh _ hok hpre hholds;obtain ⟨_,_,_,fn',hfn',_,_,_,_,hval⟩:=hok;have e:fn' = fn:=B0e (hfn'.symm.trans hfn);subst e;obtain ⟨⟨⟨ds,gs,before,hw,hc⟩,hx⟩,hz⟩:=hpre;have hW:=DataW.Whole.of_heap (w':=w.forCall tape i) (by rfl) hw;have hx:laidMetH C.prog l (w.forCall tape i).memory:=hx;have hL:laidMetH C.prog l (w.forCall tape i):=laidMetH.of_heap (by rfl) hx;generalize w.forCall tape i=W at *
 have hW':=hW;obtain ⟨p,q,hA,hV,rfl,hfz,hnd⟩:=hW;rw [hvars] at hV;obtain ⟨rfl,rfl⟩:=trodVars_none hV;rw [hts] at hA;have hlen:ds.length=ts.length:=B5U hA;refine (C5c hS hg hp hA (fun j t v a b=>hval j t v (by rw [<- hts] at a;simpa using a) b) (hgi W hL hsh)).mono fun e W' ⟨he,bel⟩=>?_
 subst he;have e1:s.fn H (ds ++ [])=⟨[.lit (.bool true)],ds,[]⟩:=by rw [F4];exact hs ds hlen
 have hpost:s.post enc C.prog fn' false true false false W i.args (.bool true) W':=by
  refine ⟨ds,[],_,[],p,[],hW',?_,?_,?_,bel.frame _,fun h=>by cases h⟩
  ·rw [e1,hres];exact trodAll_mk1 ⟨1,by simp [DataW.trod,Value.cells,hb]⟩
  ·rw [e1,hts];exact B2f hlaid bel hread hA
  ·rw [e1,hvars];rfl
 exact ChangeSpec.post_blind hpost
end Go.Proofs.YthnfghmjipikhaaGreatDoor.Ev
