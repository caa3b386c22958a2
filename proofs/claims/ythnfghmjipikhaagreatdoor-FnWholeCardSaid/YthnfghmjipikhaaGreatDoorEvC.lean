/- Calls, entry and exit, the contract of a function, arguments read as data, the close of a law. -/
import Derived.Test.YthnfghmjipikhaaGreatDoorEvB
import Derived.Laws.Small
import Derived.Laws.Tables
import Derived.Great.FillDense
import Derived.Laws.IdiomStrings
import Derived.Lib.AppendStr
import Derived.Lib.ConvBytes
import Derived.RangeFuncLeaves
import Derived.WalkKit
import Derived.ProofKit
import Derived.OpenShut
import Derived.ShutString
import Derived.ChangeOld
import Derived.Below
import Derived.SizedLaws
import Derived.Carry
import Derived.JoinedOf
import Derived.DataElems
import Derived.HandedShaped
import Derived.LaidLaws
import Derived.Handed
import Derived.Stop.Joined
set_option linter.unusedVariables false
set_option linter.unusedSimpArgs false
namespace Go.Proofs.YthnfghmjipikhaaGreatDoor.Ev
@[reducible] def nr(L j:Nat):Nat:=4096*L+128*j
@[reducible] def np(L i:Nat):Nat:=4096*L+2048+128*i
def A15(rows:List (Nat×Row)):St:=rows.map fun p=>(.r p.1,some (.r p.2))
def A7S(L:Nat):Nat->(res:List RK)->{ps:List PK}->Ts (outs res ps)->List (Bool×List Lf)
 | _,[],_,_=> []
 | j,.val g k::res,_,y=>(g,leaves k y.1 Lf.own (nr L j))::A7S L (j+1) res y.2
 | j,.new k::res,_,y=>(false,[.ptr (nr L j) 0])::A7S L (j+1) res y.2
def A4A(L:Nat):Nat->(res:List RK)->{ps:List PK}->Ts (outs res ps)->St
 | _,[],_,_=> []
 | j,.val g k::res,_,y=>A15 (J7 (nr L j) k y.1)++A4A L (j+1) res y.2
 | j,.new k::res,_,y=>(.b (nr L j),some (.b (leaves k y.1 Lf.own (nr L j))))::(A15 (J7 (nr L j) k y.1)++A4A L (j+1) res y.2)
def C1i:(res:List RK)->{ps:List PK}->Ts (outs res ps)->Ts (kk ps)
 | [],_,y=>y
 | .val _ _::res,_,y=>C1i res y.2
 | .new _::res,_,y=>C1i res y.2
def D5A:List Hd->Nat->Option Hd
 | [],_=>none
 | h::hd,r=>match Nat.beq h.r r with
  | true=>some h
  | false=>D5A hd r
def B58:List Bx->Nat->Option Bx
 | [],_=>none
 | x::bx,i=>match Nat.beq x.i i with
  | true=>some x
  | false=>B58 bx i
theorem C9f:∀ {hd:List Hd} {r:Nat} {h:Hd},D5A hd r=some h->h∈hd/\h.r=r
 | h0::hd,r,h,e=>by
  simp only [D5A] at e;split at e
  ·rename_i hb;injection e with e;subst e;exact ⟨List.mem_cons_self,Nat.eq_of_beq_eq_true hb⟩
  ·obtain ⟨h1,h2⟩:=C9f e;exact ⟨List.mem_cons_of_mem _ h1,h2⟩
theorem C9g:∀ {bx:List Bx} {i:Nat} {x:Bx},B58 bx i=some x->x∈bx/\x.i=i
 | x0::bx,i,x,e=>by
  simp only [B58] at e;split at e
  ·rename_i hb;injection e with e;subst e;exact ⟨List.mem_cons_self,Nat.eq_of_beq_eq_true hb⟩
  ·obtain ⟨h1,h2⟩:=C9g e;exact ⟨List.mem_cons_of_mem _ h1,h2⟩
def A5v(hd:List Hd):List (Nat×Row)->St
 | []=> []
 | p::rows=>match D5A hd p.1 with
  | some h=>(.r h.id,some (.r ⟨p.2.e,p.2.k,p.2.xs,h.row.ver+1⟩))::A5v hd rows
  | none=>A5v hd rows
def B1H(s:St)(L:Nat)(hd:List Hd)(bx:List Bx):Nat->(ps:List PK)->Ts (kk ps)->Option (St×List Loc)
 | _,[],_=>some ([],[])
 | i,.val _ k true::ps,y=>match B1H s L hd bx (i+1) ps y.2 with
  | some (W,N)=>some (A5v hd (J7 (pR i) k y.1)++W,N)
  | none=>none
 | i,.val _ _ false::ps,y=>B1H s L hd bx (i+1) ps y
 | i,.ptr k::ps,y=>match B58 bx i with
  | some x=>match s.getB x.b,B1H s L hd bx (i+1) ps y.2 with
   | some c,some (W,N)=>some ((.b x.b,some (.b (c.take x.off++leaves k y.1 Lf.own (np L i)++c.drop (x.off+k.sz))))::(A15 (J7 (np L i) k y.1)++W),
     (J7 (np L i) k y.1).map (fun p=>Loc.r p.1)++N)
   | _,_=>none
  | none=>none
def B6G(a b:Nat):Nat->List (Nat×Nat)
 | 0=> []
 | n+1=>(2*(a+n),2*(b+n))::B6G a b n
theorem C2R{x y:Nat}:∀ {n j:Nat},j<n->(2*(x+j),2*(y+j))∈B6G x y n
 | n+1,j,h=>by
  by_cases e:j=n
  ·subst e;exact List.mem_cons_self
  ·exact List.mem_cons_of_mem _ (C2R (by omega))
def D5B(L:Nat):Nat->List RK->List (Nat×Nat)
 | _,[]=> []
 | j,.val _ k::res=>B6G (rR j) (nr L j) k.sz++D5B L (j+1) res
 | j,.new k::res=>(2*rB j+1,2*nr L j+1)::(B6G (rR j) (nr L j) k.sz++D5B L (j+1) res)
def D8m(L:Nat)(bx:List Bx):Nat->List PK->List (Nat×Nat)
 | _,[]=> []
 | i,.val _ _ _::ps=>D8m L bx (i+1) ps
 | i,.ptr k::ps=>match B58 bx i with
  | some x=>(2*pB i+1,2*x.b+1)::(B6G (pR i) (np L i) k.sz++D8m L bx (i+1) ps)
  | none=> []
def D6a:List Hd->List (Nat×Nat)
 | []=> []
 | h::hd=>match h.kp with
  | true=>(2*h.r,2*h.id)::D6a hd
  | false=>D6a hd
theorem C2S:∀ {hd:List Hd} {h:Hd},h∈hd->h.kp=true->(2*h.r,2*h.id)∈D6a hd
 | h0::hd,h,hm,hk=>by
  simp only [D6a];rcases List.mem_cons.1 hm with e | hm
  ·subst e;rw [hk];exact List.mem_cons_self
  ·split
   ·exact List.mem_cons_of_mem _ (C2S hm hk)
   ·exact C2S hm hk
theorem N3:∀ {t:List (Nat×Nat)} {a b:Nat},nodupB (t.map (·.1))=true->(a,b)∈t->A7O t a=some b
 | (a0,b0)::t,a,b,hn,hm=>by
  obtain ⟨h1,h2⟩:=A8h hn;simp only [A7O];rcases List.mem_cons.1 hm with e | hm
  ·injection e with e1 e2;subst e1;subst e2;rw [if_pos rfl]
  ·rw [if_neg,N3 h2 hm];intro e;subst e;exact h1 (List.mem_map.2 ⟨(_,b),hm,rfl⟩)
theorem B6H{t:List (Nat×Nat)}{r:Nat}(h:∀ p∈t,p.1≠r):A7O t r=none:=by
 induction t with
 | nil=>rfl
 | cons p t ih=>
  obtain ⟨a,b⟩:=p;simp only [A7O];rw [if_neg (h _ List.mem_cons_self)];exact ih fun q hq=>h q (List.mem_cons_of_mem _ hq)
def A8G(hd:List Hd)(bx:List Bx):List (Nat×Nat):=hd.map (fun h=>(2*h.id,2*h.r))++bx.map (fun x=>(2*x.b+1,2*pB x.i+1))
theorem A5E{W s:St}{l:Loc}{lv:LV}(h:St.get (W++s) l=some lv):(l,some lv)∈W\/(inW W l=false/\s.get l=some lv):=by
 induction W with
 | nil=>exact .inr ⟨rfl,h⟩
 | cons p W ih=>
  obtain ⟨l',v⟩:=p;by_cases e:l' = l
  ·subst e;rw [List.cons_append,St.get_cons_same] at h;subst h;exact .inl List.mem_cons_self
  ·rw [List.cons_append,St.get_cons_ne e] at h;rcases ih h with h | ⟨h1,h2⟩
   ·exact .inl (List.mem_cons_of_mem _ h)
   ·refine .inr ⟨?_,h2⟩;simp only [inW,List.any_cons,Bool.or_eq_false_iff];exact ⟨Loc.eqb_false.2 e,h1⟩
def D8n(s:St)(m m1:Mem)(news:List Loc):Loc->LV->Prop
 | .r id,.r row=>Loc.r id∈news\/∃ row0,s.get (.r id)=some (.r row0)/\m1.ρ id=m.ρ id/\row.k.sz=row0.k.sz/\row.xs.length=row0.xs.length/\row0.ver<row.ver
 | .b b,.b c=>Loc.b b∈news\/∃ c0,s.get (.b b)=some (.b c0)/\m1.β b=m.β b
 | _,_=>False
theorem D5C{s:St}{n:Nat}{w0:World}{Z0:Gh}{a:Act}{m:Mem}(hr:Rel n w0 Z0 s a m){w':World}{Z':Col}{hd:List Hd}{bx:List Bx}{br:List Nat}{bk:List (Nat×Nat)}
  (hk:Keeps m.w w' (I1 (A8G hd bx) br m.Z) Z') (hf:Fore m.w w' (I1 (A8G hd bx) br m.Z) Z') {m1:Mem} (hw1:m1.w=w') (hZ1:m1.Z=A7P m.w.heap.size m.Z (I1 (A8G hd bx) br m.Z) Z' bk)
  {W:St} {news:List Loc} (hnew:∀ l∈news,¬ Live s l) (hρ:∀ id,Loc.r id ∉ news->m1.ρ id=m.ρ id) (hβ:∀ b,Loc.b b ∉ news->m1.β b=m.β b) (hW:∀ l lv,(l,some lv)∈W->D8n s m m1 news l lv) :
  Ext s m (W++(A48 (hd.map fun h=>Loc.r h.id)++s)) m1 (Live s):=by
 refine ⟨?_,fun id r' hL hg=>?_,fun b c' hL hg=>?_,fun q i hL hg=>?_⟩
 ·rw [hw1,hZ1];exact C2D hk
 ·rcases A5E hg with h | ⟨h1,h2⟩
  ·rcases hW _ _ h with h | ⟨row0,h3,h4,h5,h6,h7⟩
   ·exact absurd hL (hnew _ h)
   ·exact ⟨row0,h3,h4,h5,h6,Nat.le_of_lt h7,fun e=>by omega,fun e=>by omega⟩
  ·obtain ⟨h3,h4⟩:=A49 h2;have hni:Loc.r id ∉ news:=fun h=>hnew _ h hL
   have hroot:A7O (A8G hd bx) (2*id)=none:=by
    refine B6H fun p hp e=>?_
    rcases List.mem_append.1 hp with hp | hp
    ·obtain ⟨h,hh,rfl⟩:=List.mem_map.1 hp;exact h3 (List.mem_map.2 ⟨h,hh,by simp only at e;rw [show h.id=id by omega]⟩)
    ·obtain ⟨x,hx,rfl⟩:=List.mem_map.1 hp;simp only at e;omega
   refine ⟨r',h4,hρ id hni,rfl,rfl,Nat.le_refl _,fun _ hn j v hc=>?_,fun _=>by rw [hw1,hZ1];exact B4h hk hf hroot []⟩;have hrow:=hr.rw id r' h4;have hblk:=(A7G hrow hn).1;have hb:=(B4h (bk:=bk) hk hf hroot [] (A0Q (m.ρ id)).block [] hblk (A7G hrow hn).2).1;exact (World.cell?_of_block (by rw [add_block,hw1];exact hb)).trans hc
 ·rcases A5E hg with h | ⟨h1,h2⟩
  ·rcases hW _ _ h with h | ⟨c0,h3,h4⟩
   ·exact absurd hL (hnew _ h)
   ·exact ⟨c0,h3,h4⟩
  ·obtain ⟨h3,h4⟩:=A49 h2;exact ⟨c',h4,hβ b fun h=>hnew _ h hL⟩
 ·rcases A5E hg with h | ⟨h1,h2⟩
  ·exact (hW _ _ h).elim
  ·exact (A49 h2).2
def D8o(s1:St)(m1:Mem):Loc->LV->Prop
 | .r id,.r row=>OwL (Ow row.k m1.w m1.Z) row.e row.k.sz m1.w m1.Z [2*id] row.xs (m1.ρ id)
 | .b b,.b c=>BxC s1 m1 (m1.β b) b c
 | _,_=>True
theorem B3A{hd:List Hd}{bx:List Bx}{id:Nat}(h:Loc.r id ∉ hd.map fun h=>Loc.r h.id):A7O (A8G hd bx) (2*id)=none:=by
 refine B6H fun p hp e=>?_
 rcases List.mem_append.1 hp with hp | hp
 ·obtain ⟨g,hh,rfl⟩:=List.mem_map.1 hp;exact h (List.mem_map.2 ⟨g,hh,by simp only at e;rw [show g.id=id by omega]⟩)
 ·obtain ⟨x,hx,rfl⟩:=List.mem_map.1 hp;simp only at e;omega
theorem D8p{hd:List Hd}{bx:List Bx}{b:Nat}(h:∀ x∈bx,x.b≠b):A7O (A8G hd bx) (2*b+1)=none:=by
 refine B6H fun p hp e=>?_
 rcases List.mem_append.1 hp with hp | hp
 ·obtain ⟨g,hh,rfl⟩:=List.mem_map.1 hp;simp only at e;omega
 ·obtain ⟨x,hx,rfl⟩:=List.mem_map.1 hp;simp only at e;exact h x hx (by omega)
theorem E1R{s:St}{n:Nat}{w0:World}{Z0:Gh}{a:Act}{m:Mem}(hr:Rel n w0 Z0 s a m){w':World}{Z':Col}{hd:List Hd}{bx:List Bx}{br:List Nat}{bk:List (Nat×Nat)}
  (hk:Keeps m.w w' (I1 (A8G hd bx) br m.Z) Z') (hf:Fore m.w w' (I1 (A8G hd bx) br m.Z) Z') (hl:Later m.w w') {m1:Mem} (hw1:m1.w=w') (hZ1:m1.Z=A7P m.w.heap.size m.Z (I1 (A8G hd bx) br m.Z) Z' bk)
  {W:St} {news:List Loc} (hnew:∀ l∈news,¬ Live s l) (hρ:∀ id,Loc.r id ∉ news->m1.ρ id=m.ρ id) (hβ:∀ b,Loc.b b ∉ news->m1.β b=m.β b) (hβN:∀ b,Loc.b b∈news->(m1.β b).pre = []/\(m1.β b).post = []) (hW:∀ l lv,(l,some lv)∈W->D8n s m m1 news l lv) (hsome:∀ p∈W,p.2.isSome=true)
  (hn4:∀ id,Loc.r id∈news->4096<=id) (hn5:∀ b,Loc.b b∈news->4096<=b) (hnewW:∀ l∈news,inW W l=true) (hbxW:∀ x∈bx,inW W (.b x.b)=true)
  (hS:∀ l lv,(l,some lv)∈W->D8o (W++(A48 (hd.map fun h=>Loc.r h.id)++s)) m1 l lv):Rel n w0 Z0 (W++(A48 (hd.map fun h=>Loc.r h.id)++s)) a m1:=by
 have hX:=D5C (W:=W) hr hk hf hw1 hZ1 hnew hρ hβ hW;have hT:∀ d,St.get (W++(A48 (hd.map fun h=>Loc.r h.id)++s)) (.t d)=s.get (.t d):=by
  intro d;have h1:inW W (.t d)=false:=by
   cases e:inW W (.t d) with
   | false=>rfl
   | true=>
    obtain ⟨p,hp,e1⟩:=B1C e;obtain ⟨l,v⟩:=p;have h2:=hsome _ hp;cases v with
    | none=>cases h2
    | some lv=>simp only at e1;subst e1;exact (hW _ _ hp).elim
  rw [A0p h1];have:inW (A48 (hd.map fun h=>Loc.r h.id)) (.t d)=false:=by
   cases e:inW (A48 (hd.map fun h=>Loc.r h.id)) (.t d) with
   | false=>rfl
   | true=>
    obtain ⟨p,hp,e1⟩:=B1C e;simp only [A48,List.mem_map] at hp;obtain ⟨l,⟨h,_,rfl⟩,rfl⟩:=hp;cases e1
  exact A0p this
 refine hr.change hT hX (fun id r hg=>?_) (fun b c hg=>?_) ?_ (by rw [hw1];exact hl.size) (by rw [hw1];exact hl.os) (by rw [hw1];exact hl.tape) (by rw [hw1];exact hl.output) (fun id r g1 g2 hg=>by
  rcases A5E hg with h | ⟨h1,h2⟩
  ·rcases hW _ _ h with h | ⟨row0,h3,h4,_⟩
   ·have:=hn4 id h;omega
   ·exact ⟨⟨row0,h3⟩,h4⟩
  ·exact ⟨⟨r,(A49 h2).2⟩,hρ id fun h=>by have:=hn4 id h;omega⟩) (fun b c hg=>by
  by_cases hbn:Loc.b b∈news
  ·exact .inr ⟨by have:=hn5 b hbn;omega,hβN b hbn⟩
  ·rcases A5E hg with h | ⟨h1,h2⟩
   ·rcases hW _ _ h with h | ⟨c0,h3,h4⟩
    ·exact absurd h hbn
    ·exact .inl ⟨⟨c0,h3⟩,h4⟩
   ·exact .inl ⟨⟨c,(A49 h2).2⟩,hβ b hbn⟩)
 ·rcases A5E hg with h | ⟨h1,h2⟩
  ·exact hS _ _ h
  ·obtain ⟨h3,h4⟩:=A49 h2;have hni:Loc.r id ∉ news:=fun h=>by rw [hnewW _ h] at h1;cases h1
   rw [hρ id hni,hw1,hZ1];exact (hr.rw id r h4).move (B4h hk hf (B3A h3) []) (C2D hk)
 ·rcases A5E hg with h | ⟨h1,h2⟩
  ·exact hS _ _ h
  ·obtain ⟨h3,h4⟩:=A49 h2;have hni:Loc.b b ∉ news:=fun h=>by rw [hnewW _ h] at h1;cases h1
   rw [hβ b hni];obtain ⟨cs,h5,h6,h7,h8⟩:=hr.bx b c h4;have hlt:(m.β b).g<m.w.heap.size:=(Array.getElem?_eq_some_iff.1 h8).1;have hst:=B4h (bk:=bk) hk hf (D8p (hd:=hd) (bx:=bx) (b:=b) fun x hx e=>by
    have:=hbxW x hx;rw [e,h1] at this;cases this) [] (m.β b).g [] h7 hlt
   exact ⟨cs,All2.imp (fun l hl v hv=>hv.ext (hX.sub fun q hq=>⟨.b b,.b c,h4,List.mem_flatMap.2 ⟨l,hl,hq⟩⟩)) h5,h6,by rw [hZ1];exact hst.2,by rw [hw1];exact hst.1.trans h8⟩
 ·rw [hw1,hZ1];exact D6P hf
end Go.Proofs.YthnfghmjipikhaaGreatDoor.Ev
namespace Go.Proofs.YthnfghmjipikhaaGreatDoor.Ev
theorem B1I:∀ {k:K} {nb j:Nat} {x:k.T},(K5 k j).isSome=true->∃ row,(nb+j,row)∈J7 nb k x
 | .int _,_,_,_,h=>by simp [K5] at h
 | .bool,_,_,_,h=>by simp [K5] at h
 | .fnc _,_,_,_,h=>by simp [K5] at h
 | .str,_,_,_,h=>by simp [K5] at h
 | .rs _ _,_,_,_,h=>by simp [K5] at h
 | .pa _ _,_,_,_,h=>by simp [K5] at h
 | .sl e k,nb,0,x,_=>⟨_,List.mem_singleton.2 rfl⟩
 | .sl e k,nb,j+1,x,h=>by simp [K5] at h
 | .pair a b,nb,j,x,h=>by
  by_cases hj:j<a.sz
  ·rw [A7R hj] at h;obtain ⟨row,hr⟩:=B1I (k:=a) (nb:=nb) (x:=x.1) h;exact ⟨row,List.mem_append_left _ hr⟩
  ·have e:j=a.sz+(j-a.sz):=by omega
   rw [e,A5u] at h;obtain ⟨row,hr⟩:=B1I (k:=b) (nb:=nb+a.sz) (x:=x.2) h;rw [Nat.add_assoc,<- e] at hr;exact ⟨row,List.mem_append_right _ hr⟩
theorem E1S{α β:Type}{R:D6->α->List Value->Prop}{R':D6->β->List Value->Prop}{e e' sz sz':Nat}{w w':World}{Z Z':Col}{p p':D6}{xs:List α}{ys:List β}{v:Value}
  (h:OwL R e sz w Z p xs v) (h':OwL R' e' sz' w' Z' p' ys v):ys.length=xs.length:=by
 obtain ⟨_,ho,_⟩:=h;obtain ⟨_,ho',_⟩:=h';rcases ho.2 with ⟨rfl,h1⟩ | ⟨g,cap,cur,fz,rfl,_⟩
 ·rcases ho'.2 with ⟨_,h2⟩ | ⟨g,cap,cur,fz,e,_⟩
  ·omega
  ·cases e
 ·rcases ho'.2 with ⟨e,h2⟩ | ⟨g',cap',cur',fz',e,_⟩
  ·cases e
  ·injection e with _ e _;exact e.symm
theorem E1T{g:Bool}{cs ds:List Value}{n:Nat}(h:toV g cs=toV g ds)(hc:cs.length=n)(hd:ds.length=n)(hg:g=true\/n=1):cs=ds:=by
 cases g with
 | true=>
  simp only [toV] at h;injection h with h
  have:=congrArg Array.toList h;simpa using this
 | false=>
  have hn:n=1:=hg.resolve_left (by simp);subst hn;cases cs with
  | nil=>simp at hc
  | cons c cs=>
   cases ds with
   | nil=>simp at hd
   | cons d ds=>
    have:cs = []:=List.eq_nil_of_length_eq_zero (by simpa using hc);subst this;have:ds = []:=List.eq_nil_of_length_eq_zero (by simpa using hd);subst this;simp only [toV] at h;rw [h]
def D6b(w:World)(g:Nat):TypeId:=match w.heap[g]? with
 | some (.cells _ t _)=>t
 | _=>0
def C2T(w:World)(v:Value):List Value:=match v with
 | .pointer (some ⟨b,0,none⟩)=>A0R w b
 | v=>v.cells.toList
theorem D2e{w w':World}{Z:Col}{base:Nat}{g:Bool}{k:K}{x:k.T}{cs:List Value}(h:LvC w Z base k x cs)(hg:g=true\/k.sz=1){c0:Nat}(hlk:(K5 k c0).isSome=true):C2T w' (toV g cs)=cs:=by
 cases g with
 | true=>simp [toV,C2T,Value.cells]
 | false=>
  have hn:k.sz=1:=hg.resolve_left (by simp);have hl:=h.len;rw [hn] at hl;obtain ⟨c,rfl⟩:∃ c,cs = [c]:=by
   cases cs with
   | nil=>simp at hl
   | cons c cs=>exact ⟨c,by simpa using hl⟩
  simp only [toV];cases k with
  | int κ=>simp only [LvC] at h;injection h with h;subst h;rfl
  | bool=>simp only [LvC] at h;injection h with h;subst h;rfl
  | fnc f=>simp only [LvC] at h;injection h with h;subst h;unfold fV;split<;>rfl
  | pa n k=>simp [K5] at hlk
  | str=>simp only [LvC] at h;injection h with h;subst h;rfl
  | sl e k=>
   obtain ⟨v,e',h⟩:=h;injection e' with e';subst e'
   obtain ⟨_,ho,_⟩:=h;rcases ho.2 with ⟨rfl,_⟩ | ⟨_,_,_,_,rfl,_⟩<;>rfl
  | rs e k=>
   obtain ⟨A,c',e',_⟩:=h;injection e' with e';subst e';rfl
  | pair a b=>
   have:=a.sz_pos;have:=b.sz_pos;simp only [K.sz] at hn;omega
structure D8q (L:Nat) (w':World) (Z' Z1:Col) (pls:Nat->Plc) (rv:List Value) (news:List Loc) (m1:Mem):Prop where
 hw:m1.w=w'
 hZ:m1.Z=Z1
 row:∀ j c v,j<16->c<128->rv[j]? = some v->Loc.r (nr L j+c)∈news->m1.ρ (nr L j+c)=(C2T w' v).getD c undef
 prow:∀ i c,i<16->c<128->Loc.r (np L i+c)∈news->m1.ρ (np L i+c)=((A0R w' (pls i).g).drop (pls i).pre.length).getD c undef
 box:∀ j b,j<16->rv[j]? = some (.pointer (some ⟨b,0,none⟩))->Loc.b (nr L j)∈news->m1.β (nr L j)=⟨b,D6b w' b,[],[]⟩
def Roots(w:World)(Z' Z1:Col)(bk:List (Nat×Nat)):Prop:=∀ p∈bk,∀ q,Moves w w Z' Z1 (p.1::q) (p.2::q)
theorem B4l{rows:List (Nat×Row)}{l:Loc}{lv:LV}(h:(l,some lv)∈A15 rows):∃ c row,l=.r c/\lv=.r row/\(c,row)∈rows:=by
 obtain ⟨p,hp,e⟩:=List.mem_map.1 h;injection e with e1 e2;injection e2 with e2
 exact ⟨p.1,p.2,e1.symm,e2.symm,hp⟩
theorem B03{w':World}{Z' Z1:Col}{base nb:Nat}{k:K}{x:k.T}{cs:List Value}(h:LvC w' Z' base k x cs)(hb:Back k w' Z' Z1)(hroots:Roots w' Z' Z1 (B6G base nb k.sz))
  {s1:St} {m1:Mem} (hw:m1.w=w') (hZ:m1.Z=Z1) (hρ:∀ c v,cs[c]? = some v->(K5 k c).isSome=true->m1.ρ (nb+c)=v) :
  (∀ l lv,(l,some lv)∈A15 (J7 nb k x)->D8o s1 m1 l lv)/\All2 (LfC s1 m1) (leaves k x Lf.own nb) cs:=by
 constructor
 ·intro l lv hm;obtain ⟨c,row,rfl,rfl,hm2⟩:=B4l hm;obtain ⟨j,v,e1,e2,e3,e4,e5⟩:=B4k h c row hm2;subst e1;show OwL (Ow row.k m1.w m1.Z) row.e row.k.sz m1.w m1.Z [2*(nb+j)] row.xs (m1.ρ (nb+j));rw [hρ j v e3 (by rw [e4];rfl),hw,hZ];refine e5.back ?_ (hroots _ (C2R e2) []);refine hb.imp (fun hn=>?_) id;have key:∀ {k:K} {j e:Nat} {k':K},k.noRs=true->K5 k j=some (e,k')->(K.sl e k').noRs=true:=by
   intro k
   induction k with
   | int _=>intro j e k' _ h;simp [K5] at h
   | bool=>intro j e k' _ h;simp [K5] at h
   | fnc f=>intro j e k' _ h;simp [K5] at h
   | str=>intro j e k' _ h;simp [K5] at h
   | rs _ _ _=>intro j e k' _ h;simp [K5] at h
   | pa _ _ _=>intro j e k' _ h;simp [K5] at h
   | sl e0 k0 _=>
    intro j e k' hn h;cases j with
    | zero=>simp only [K5] at h;injection h with h;injection h with h1 h2;subst h1;subst h2;exact hn
    | succ j=>simp [K5] at h
   | pair a b iha ihb=>
    intro j e k' hn h;simp only [K.noRs,Bool.and_eq_true] at hn;simp only [K5] at h;split at h
    ·exact iha hn.1 h
    ·exact ihb hn.2 h
  exact key hn e4
 ·refine B39 hw h (by rw [hZ];exact hb) fun j v hv hl=>⟨h.one v (List.mem_of_getElem? hv),fun r _=>(hρ j v hv hl).symm⟩
def B1J(k:K):Bool:=Nat.ble k.sz 100
theorem Roots.left{w:World}{Z' Z1:Col}{a b:List (Nat×Nat)}(h:Roots w Z' Z1 (a++b)):Roots w Z' Z1 a:=fun p hp=>h p (List.mem_append_left _ hp)
theorem Roots.right{w:World}{Z' Z1:Col}{a b:List (Nat×Nat)}(h:Roots w Z' Z1 (a++b)):Roots w Z' Z1 b:=fun p hp=>h p (List.mem_append_right _ hp)
theorem Roots.tail{w:World}{Z' Z1:Col}{a:Nat×Nat}{b:List (Nat×Nat)}(h:Roots w Z' Z1 (a::b)):Roots w Z' Z1 b:=fun p hp=>h p (List.mem_cons_of_mem _ hp)
theorem B7G{nb c:Nat}{k:K}{x:k.T}{news:List Loc}{W:St}(hn:∀ p∈A15 (J7 nb k x)++W,p.1∈news)(hl:(K5 k c).isSome=true):Loc.r (nb+c)∈news:=by
 obtain ⟨row,hr⟩:=B1I (k:=k) (nb:=nb) (x:=x) hl;exact hn (.r (nb+c),some (.r row)) (List.mem_append_left _ (List.mem_map.2 ⟨_,hr,rfl⟩))
theorem D2f{L:Nat}{w':World}{Z' Z1:Col}{pls:Nat->Plc}{rv:List Value}{news:List Loc}{s1:St}{m1:Mem}(hN:D8q L w' Z' Z1 pls rv news m1){ps:List PK}{args:List Value} :
  ∀ {res:List RK} {j:Nat} {y:Ts (outs res ps)} {vs:List Value},B78 w' Z' pls ps args j res y vs->(∀ i v,vs[i]? = some v->rv[j+i]? = some v)->j+res.length<=16->(∀ r∈res,B1J r.k=true)->
   (∀ r∈res,Back r.k w' Z' Z1)->Roots w' Z' Z1 (D5B L j res)->(∀ p∈A4A L j res y,p.1∈news)->
   (∀ l lv,(l,some lv)∈A4A L j res y->D8o s1 m1 l lv)/\All2 (D7q s1 m1) (A7S L j res y) vs/\B9p w' Z' pls 0 ps (C1i res y) args
 | [],j,y,vs,h,_,_,_,_,_,_=>by
  obtain ⟨rfl,hk⟩:=h;exact ⟨fun l lv hm=>(nomatch hm),trivial,hk⟩
 | .val g k::res,j,y,vs,h,hv,hj,hsz,hb,hr,hn=>by
  obtain ⟨cs,r,rfl,hl,hg,hrest⟩:=h;have hlen:cs.length<=100:=by rw [hl.len];exact Nat.le_of_ble_eq_true (hsz _ List.mem_cons_self)
  have hj':j<16:=by simp at hj;omega
  have hv0:=hv 0 _ rfl;rw [Nat.add_zero] at hv0;obtain ⟨e1,e2⟩:=B03 (s1:=s1) (nb:=nr L j) hl (hb _ List.mem_cons_self) hr.left hN.hw hN.hZ fun c v hc hlk=>by
   have hc':=(List.getElem?_eq_some_iff.1 hc).1;rw [hN.row j c _ hj' (by omega) hv0 (B7G hn hlk),D2e hl hg hlk,List.getD_eq_getElem?_getD,hc];rfl
  obtain ⟨e3,e4,e5⟩:=D2f hN hrest (fun i v hi=>by
   have:=hv (i+1) v (by simpa using hi)
   rwa [show j+(i+1)=j+1+i by omega] at this) (by simp at hj;omega) (fun r hr=>hsz r (List.mem_cons_of_mem _ hr)) (fun r hr=>hb r (List.mem_cons_of_mem _ hr)) hr.right (fun p hp=>hn p (List.mem_append_right _ hp))
  refine ⟨fun l lv hm=>(List.mem_append.1 hm).elim (e1 l lv) (e3 l lv),⟨?_,e4⟩,e5⟩;cases g with
  | true=>exact ⟨cs,rfl,e2⟩
  | false=>
   have hn1:k.sz=1:=hg.resolve_left (by simp);have hl1:=hl.len;rw [hn1] at hl1;obtain ⟨c,rfl⟩:∃ c,cs = [c]:=by
    cases cs with
    | nil=>simp at hl1
    | cons c cs=>exact ⟨c,by simpa using hl1⟩
   cases hll:leaves k y.1 Lf.own (nr L j) with
   | nil=>rw [hll] at e2;exact e2.elim
   | cons l ls=>
    rw [hll] at e2;have:ls = []:=by cases ls with
     | nil=>rfl
     | cons _ _=>exact e2.2.elim
    subst this;exact ⟨l,rfl,e2.1⟩
 | .new k::res,j,y,vs,h,hv,hj,hsz,hb,hr,hn=>by
  obtain ⟨b,T,cs,r,rfl,hvar,hl,hrest⟩:=h;obtain ⟨hheap,hcol⟩:=hvar;simp only [List.nil_append,List.append_nil] at hheap hcol;have hlen:cs.length<=100:=by rw [hl.len];exact Nat.le_of_ble_eq_true (hsz _ List.mem_cons_self)
  have hj':j<16:=by simp at hj;omega
  have hv0:=hv 0 _ rfl;rw [Nat.add_zero] at hv0;have hca:A0R w' b=cs:=by simp only [A0R,hheap]
  have hty:D6b w' b=T:=by simp only [D6b,hheap]
  obtain ⟨e1,e2⟩:=B03 (s1:=s1) (nb:=nr L j) hl (hb _ List.mem_cons_self) hr.tail.left hN.hw hN.hZ fun c v hc hlk=>by
   have hc':=(List.getElem?_eq_some_iff.1 hc).1;rw [hN.row j c _ hj' (by omega) hv0 (B7G (fun p hp=>hn p (List.mem_cons_of_mem _ hp)) hlk)];simp only [C2T,hca,List.getD_eq_getElem?_getD,hc];rfl
  obtain ⟨e3,e4,e5⟩:=D2f hN hrest (fun i v hi=>by
   have:=hv (i+1) v (by simpa using hi)
   rwa [show j+(i+1)=j+1+i by omega] at this) (by simp at hj;omega) (fun r hr=>hsz r (List.mem_cons_of_mem _ hr)) (fun r hr=>hb r (List.mem_cons_of_mem _ hr)) hr.tail.right (fun p hp=>hn p (List.mem_cons_of_mem _ (List.mem_append_right _ hp)))
  have hβ:=hN.box j b hj' hv0 (hn _ List.mem_cons_self);refine ⟨fun l lv hm=>?_,⟨⟨_,rfl,rfl,fun c _=>?_⟩,e4⟩,e5⟩
  ·rcases List.mem_cons.1 hm with e | hm
   ·injection e with e0 e1';injection e1' with e1';subst e0;subst e1'
    show BxC s1 m1 (m1.β (nr L j)) (nr L j) _;rw [hβ];refine ⟨cs,e2,hl.one,?_,?_⟩
    ·rw [hN.hZ];have hlt:b<w'.heap.size:=(Array.getElem?_eq_some_iff.1 hheap).1;exact (hr _ List.mem_cons_self [] b [] hcol hlt).2
    ·rw [hN.hw,hty];simpa using hheap
   ·exact (List.mem_append.1 hm).elim (e1 l lv) (e3 l lv)
  ·rw [hβ];rfl
end Go.Proofs.YthnfghmjipikhaaGreatDoor.Ev
namespace Go.Proofs.YthnfghmjipikhaaGreatDoor.Ev
structure HdF (ps:List PK) (i:Nat) (s:St) (m:Mem) (vals:List Value) (h:Hd) (idx j:Nat) (p:PK):Prop where
 pos:ps[idx]? = some p
 r:h.r=pR (i+idx)+j
 lt:j<p.k.sz
 lk:K5 p.k j=some (h.row.e,h.row.k)
 st:s.get (.r h.id)=some (.r h.row)
 val:∀ g k kp,p=.val g k kp->h.kp=kp/\∀ v,vals[idx]? = some v->∃ cs,v=toV g cs/\cs.length=k.sz/\(g=true\/k.sz=1)/\cs[j]? = some (m.ρ h.id)
structure BxF (ps:List PK) (i:Nat) (s:St) (rds:Rds) (z:Bx) (idx:Nat) (k:K) (c:List Lf):Prop where
 pos:ps[idx]? = some (.ptr k)
 i:z.i=i+idx
 sz:z.sz=k.sz
 get:s.getB z.b=some c
 rd:(Loc.b z.b,LV.b c)∈rds
 fit:z.off+z.sz<=c.length
theorem HdF.succ{ps:List PK}{i:Nat}{s:St}{m:Mem}{vals:List Value}{h:Hd}{idx j:Nat}{p q:PK}{u:Value}(hf:HdF ps (i+1) s m vals h idx j p):HdF (q::ps) i s m (u::vals) h (idx+1) j p:=
 ⟨by simpa using hf.pos,by have:=hf.r;simp only [pR] at this ⊢;omega,hf.lt,hf.lk,hf.st,fun g k kp e=>⟨(hf.val g k kp e).1,fun v hv=>(hf.val g k kp e).2 v (by simpa using hv)⟩⟩
theorem B3B{cfg:Cfg}{s s':St}{n:Nat}{w0:World}{Z0:Gh}{a:Act}{m:Mem}(hr:Rel n w0 Z0 s' a m) :
  ∀ {ps:List PK} {i:Nat} {vs:List AV} {x:Ts (ins ps)} {hd:List Hd} {bo:List Nat} {bx:List Bx} {rds:Rds},A1p cfg s i ps vs=some (x,hd,bo,bx,rds)->Reads s' rds->∀ {vals:List Value},All2 (AVC s' m) vs vals->
   (∀ h∈hd,∃ idx j p,HdF ps i s' m vals h idx j p)/\(∀ z∈bx,∃ idx k c,BxF ps i s rds z idx k c)
 | [],i,vs,x,hd,bo,bx,rds,h,hrd,vals,hv=>by
  cases vs with
  | nil=>
   simp only [A1p] at h;injection h with h;injection h with _ h;injection h with h1 h;injection h with _ h;injection h with h2 _;subst h1;subst h2
   exact ⟨fun h hh=>(nomatch hh),fun h hh=>(nomatch hh)⟩
  | cons _ _=>simp [A1p] at h
 | .val g k kp::ps,i,vs,x,hd,bo,bx,rds,h,hrd,vals,hv=>by
  cases vs with
  | nil=>simp [A1p] at h
  | cons v vs=>
   cases vals with
   | nil=>exact hv.elim
   | cons u vals=>
    simp only [A1p] at h;split at h
    ·rename_i ls els;split at h
     ·rename_i x1 hd1 bo1 rd1 e1;split at h
      ·rename_i x2 hd2 bo2 bx2 rd2 e2;injection h with h;injection h with h1 h;injection h with h2 h;injection h with h3 h;injection h with h4 h5;subst h1;subst h2;subst h3;subst h4;subst h5
       obtain ⟨hrd1,hrd2⟩:=Reads.app.1 hrd;obtain ⟨cs,rfl,hcs,hg⟩:=D2c els hv.1;obtain ⟨f1,f2⟩:=B3B hr e2 hrd2 hv.2;obtain ⟨hlen,_,hc⟩:=B7F hr e1 hrd1 hcs;have hcl:cs.length=k.sz:=by rw [<- hcs.len,hlen];simp
       refine ⟨fun h hh=>?_,fun z hz=>?_⟩
       ·rcases List.mem_append.1 hh with hh | hh
        ·obtain ⟨j,g1,g2,g3,g4,g5,g6⟩:=hc h hh;refine ⟨0,j,.val g k kp,rfl,g1,g2,g4,g5,fun g' k' kp' e=>?_⟩;injection e with e1 e2 e3;subst e1;subst e2;subst e3
         exact ⟨g6,fun v hv=>by
          simp at hv;subst hv;exact ⟨cs,rfl,hcl,hg,g3⟩⟩
        ·obtain ⟨idx,j,p,hf⟩:=f1 h hh;exact ⟨idx+1,j,p,hf.succ⟩
       ·obtain ⟨idx,k',c,hf⟩:=f2 z hz;exact ⟨idx+1,k',c,by simpa using hf.pos,by have:=hf.i;omega,hf.sz,hf.get,List.mem_append_right _ hf.rd,hf.fit⟩
      ·cases h
     ·cases h
    ·cases h
 | .ptr k::ps,i,vs,x,hd,bo,bx,rds,h,hrd,vals,hv=>by
  cases vs with
  | nil=>simp [A1p] at h
  | cons v vs=>
   cases vals with
   | nil=>exact hv.elim
   | cons u vals=>
    simp only [A1p] at h;split at h
    ·rename_i b off epv;split at h
     ·rename_i c hcb;split at h
      ·rename_i x1 hd1 bo1 rd1 e1;split at h
       ·rename_i x2 hd2 bo2 bx2 rd2 e2;injection h with h;injection h with h1 h;injection h with h2 h;injection h with h3 h;injection h with h4 h5;subst h1;subst h2;subst h3;subst h4;subst h5
        obtain ⟨hrd1,hrd2⟩:=Reads.app.1 hrd;have hgb:=hrd1 (.b b,.b c) List.mem_cons_self;obtain ⟨cs,hcs,_,_,_⟩:=hr.bx b c hgb;obtain ⟨f1,f2⟩:=B3B hr e2 hrd2 hv.2;obtain ⟨hlen,_,hc⟩:=B7F hr e1 (fun p hp=>hrd1 p (List.mem_cons_of_mem _ hp)) (All2.take k.sz (All2.drop off hcs));have hpos:=k.sz_pos;simp only [List.length_take,List.length_drop,List.length_nil] at hlen;refine ⟨fun h hh=>?_,fun z hz=>?_⟩
        ·rcases List.mem_append.1 hh with hh | hh
         ·obtain ⟨j,g1,g2,g3,g4,g5,g6⟩:=hc h hh;exact ⟨0,j,.ptr k,rfl,g1,g2,g4,g5,fun g' k' kp' e=>by cases e⟩
         ·obtain ⟨idx,j,p,hf⟩:=f1 h hh;exact ⟨idx+1,j,p,hf.succ⟩
        ·rcases List.mem_cons.1 hz with e | hz
         ·subst e;exact ⟨0,k,c,rfl,rfl,rfl,hcb,List.mem_append_left _ List.mem_cons_self,by simp only;omega⟩
         ·obtain ⟨idx,k',c,hf⟩:=f2 z hz;exact ⟨idx+1,k',c,by simpa using hf.pos,by have:=hf.i;omega,hf.sz,hf.get,List.mem_append_right _ hf.rd,hf.fit⟩
       ·cases h
      ·cases h
     ·cases h
    ·cases h
def B3C(f:K->Bool):List PK->Bool
 | []=>true
 | .val _ k true::ps=>f k&&B3C f ps
 | .val _ _ false::ps=>B3C f ps
 | .ptr k::ps=>f k&&B3C f ps
theorem B1K{hd:List Hd}:∀ {rows:List (Nat×Row)} {l:Loc} {lv:LV},(l,some lv)∈A5v hd rows->∃ c row h,(c,row)∈rows/\h∈hd/\h.r=c/\l=.r h.id/\lv=.r ⟨row.e,row.k,row.xs,h.row.ver+1⟩
 | [],_,_,h=>nomatch h
 | p::rows,l,lv,h=>by
  simp only [A5v] at h;split at h
  ·rename_i h0 hf;rcases List.mem_cons.1 h with e | h
   ·injection e with e1 e2;injection e2 with e2
    obtain ⟨g1,g2⟩:=C9f hf;exact ⟨p.1,p.2,h0,List.mem_cons_self,g1,g2,e1,e2⟩
   ·obtain ⟨c,row,h',g1,g2⟩:=B1K h;exact ⟨c,row,h',List.mem_cons_of_mem _ g1,g2⟩
  ·obtain ⟨c,row,h',g1,g2⟩:=B1K h;exact ⟨c,row,h',List.mem_cons_of_mem _ g1,g2⟩
structure D5D (L:Nat) (w':World) (Z' Z1:Col) (pls:Nat->Plc) (rv:List Value) (news:List Loc) (m1:Mem) (s s':St) (m:Mem) (ps0:List PK) (args:List Value) (hd:List Hd) (bx:List Bx) (rds:Rds):Prop where
 new:D8q L w' Z' Z1 pls rv news m1
 hdf:∀ h∈hd,∃ idx j p,HdF ps0 0 s' m args h idx j p
 bxf:∀ z∈bx,∃ idx k c,BxF ps0 0 s rds z idx k c
 sz:∀ p∈ps0,B1J p.k=true
 rHd:Roots w' Z' Z1 (D6a hd)
 hnew:∀ h∈hd,Loc.r h.id ∉ news
 bnew:∀ z∈bx,Loc.b z.b ∉ news
 hρ:∀ id,Loc.r id ∉ news->m1.ρ id=m.ρ id
 hβ:∀ b,Loc.b b ∉ news->m1.β b=m.β b
 hpl:∀ z∈bx,pls z.i=D2d m z
 hrd:Reads s' rds
theorem E36{i i' j j':Nat}(h:pR i+j=pR i'+j')(hj:j<100)(hj':j'<100):i=i'/\j=j':=by
 simp only [pR] at h;omega
theorem C1j{L:Nat}{w':World}{Z' Z1:Col}{pls:Nat->Plc}{rv:List Value}{news:List Loc}{s1:St}{m1:Mem}{s s':St}{n:Nat}{w0:World}{Z0:Gh}{a:Act}{m:Mem}(hr:Rel n w0 Z0 s' a m)
  {ps0:List PK} {args:List Value} {hd:List Hd} {bx:List Bx} {rds:Rds} (E:D5D L w' Z' Z1 pls rv news m1 s s' m ps0 args hd bx rds) :
  ∀ {ps:List PK} {i:Nat} {y:Ts (kk ps)} {vs:List Value} {W:St} {N:List Loc},B9p w' Z' pls i ps y vs->B1H s L hd bx i ps y=some (W,N)->(∀ idx p,ps[idx]? = some p->ps0[i+idx]? = some p)->(∀ idx v,vs[idx]? = some v->args[i+idx]? = some v)->
   i+ps.length<=16->(∀ f:K->Bool,True)->(B3C K.noRs ps=true\/Keeps w' w' Z' Z1)->Roots w' Z' Z1 (D8m L bx i ps)->(∀ l∈N,l∈news)->
   (∀ l lv,(l,some lv)∈W->D8n s' m m1 news l lv)/\(Ext s' m s1 m1 (Live s')->∀ l lv,(l,some lv)∈W->D8o s1 m1 l lv)/\(∀ p∈W,p.2.isSome=true)/\(∀ l∈N,inW W l=true)/\
    (∀ idx k,ps[idx]? = some (.ptr k)->∃ z,B58 bx (i+idx)=some z/\inW W (.b z.b)=true)
 | [],i,y,vs,W,N,hk,h,_,_,_,_,_,_,_=>by
  simp only [B1H] at h;injection h with h;injection h with h1 h2;subst h1;subst h2
  exact ⟨fun l lv hm=>(nomatch hm),fun _ l lv hm=>(nomatch hm),fun p hp=>(nomatch hp),fun l hl=>(nomatch hl),fun idx k h=>by simp at h⟩
 | .val g k false::ps,i,y,vs,W,N,hk,h,hps,hvs,hi,_,hb,hroots,hN=>by
  obtain ⟨v,r,rfl,hk⟩:=hk;simp only [B1H] at h;obtain ⟨f1,f2,f3,f4,f5⟩:=C1j hr E hk h (fun idx p hp=>by
   have:=hps (idx+1) p (by simpa using hp)
   rwa [show i+(idx+1)=i+1+idx by omega] at this) (fun idx v hv=>by
   have:=hvs (idx+1) v (by simpa using hv)
   rwa [show i+(idx+1)=i+1+idx by omega] at this) (by simp at hi;omega) (fun _=>trivial) hb hroots hN
  refine ⟨f1,f2,f3,f4,fun idx k' h=>?_⟩;cases idx with
  | zero=>simp at h
  | succ idx=>
   obtain ⟨z,h1,h2⟩:=f5 idx k' (by simpa using h);exact ⟨z,by rwa [show i+(idx+1)=i+1+idx by omega],h2⟩
 | .val g k true::ps,i,y,vs,W,N,hk,h,hps,hvs,hi,_,hb,hroots,hN=>by
  obtain ⟨cs,r,rfl,hl,hg,hk⟩:=hk;simp only [B1H] at h;split at h
  ·rename_i W' N' hW';injection h with h;injection h with h1 h2;subst h1;subst h2
   obtain ⟨f1,f2,f3,f4,f5⟩:=C1j hr E hk hW' (fun idx p hp=>by
    have:=hps (idx+1) p (by simpa using hp)
    rwa [show i+(idx+1)=i+1+idx by omega] at this) (fun idx v hv=>by
    have:=hvs (idx+1) v (by simpa using hv)
    rwa [show i+(idx+1)=i+1+idx by omega] at this) (by simp at hi;omega) (fun _=>trivial) (hb.imp (fun h=>by simp only [B3C,Bool.and_eq_true] at h;exact h.2) id) hroots hN
   have hp0:=hps 0 _ rfl;have hv0:=hvs 0 _ rfl;rw [Nat.add_zero] at hp0 hv0;have hbk:Back k w' Z' Z1:=hb.imp (fun h=>by simp only [B3C,Bool.and_eq_true] at h;exact h.1) id;have hsz0:k.sz<=100:=Nat.le_of_ble_eq_true (E.sz _ (List.mem_of_getElem? hp0));have key:∀ l lv,(l,some lv)∈A5v hd (J7 (pR i) k y.1)->D8n s' m m1 news l lv/\D8o s1 m1 l lv:=by
    intro l lv hm;obtain ⟨c,row,h,g1,g2,g3,rfl,rfl⟩:=B1K hm;obtain ⟨j,v,e1,e2,e3,e4,e5⟩:=B4k hl c row g1;obtain ⟨idx,j',p,hf⟩:=E.hdf h g2;have hpm:B1J p.k=true:=E.sz p (List.mem_of_getElem? hf.pos);have hpsz:p.k.sz<=100:=Nat.le_of_ble_eq_true hpm;have hlt:=hf.lt;have hrr:=hf.r;rw [Nat.zero_add,g3,e1] at hrr;obtain ⟨ei,ej⟩:=E36 hrr (by omega) (by omega);subst ei;subst ej;have hpp:=hf.pos;rw [hp0] at hpp;injection hpp with hpp
    obtain ⟨hkp,hval⟩:=hf.val g k true hpp.symm;obtain ⟨cs0,c1,c2,c3,c4⟩:=hval _ hv0;have:cs=cs0:=E1T c1 hl.len c2 c3;subst this;rw [e3] at c4;injection c4 with c4
    subst c4;have hlk:=hf.lk;rw [<- hpp] at hlk;simp only [PK.k] at hlk;rw [e4] at hlk;injection hlk with hlk
    injection hlk with hk1 hk2
    have hρ:=E.hρ h.id (E.hnew h g2);have hold:=hr.rw h.id h.row hf.st;refine ⟨.inr ⟨h.row,hf.st,hρ,by rw [hk2],E1S hold e5,Nat.lt_succ_self _⟩,?_⟩;show OwL (Ow row.k m1.w m1.Z) row.e row.k.sz m1.w m1.Z [2*h.id] row.xs (m1.ρ h.id);rw [hρ,E.new.hw,E.new.hZ];have hrt:=E.rHd _ (C2S g2 hkp) [];rw [g3,e1] at hrt;refine e5.back ?_ hrt;refine hbk.imp (fun hn=>?_) id;have key2:∀ {k:K} {j e:Nat} {k':K},k.noRs=true->K5 k j=some (e,k')->(K.sl e k').noRs=true:=by
     intro k
     induction k with
     | int _=>intro j e k' _ h;simp [K5] at h
     | bool=>intro j e k' _ h;simp [K5] at h
     | fnc f=>intro j e k' _ h;simp [K5] at h
     | str=>intro j e k' _ h;simp [K5] at h
     | rs _ _ _=>intro j e k' _ h;simp [K5] at h
     | pa _ _ _=>intro j e k' _ h;simp [K5] at h
     | sl e0 k0 _=>
      intro j e k' hn h;cases j with
      | zero=>simp only [K5] at h;injection h with h;injection h with h1 h2;subst h1;subst h2;exact hn
      | succ j=>simp [K5] at h
     | pair a b iha ihb=>
      intro j e k' hn h;simp only [K.noRs,Bool.and_eq_true] at hn;simp only [K5] at h;split at h
      ·exact iha hn.1 h
      ·exact ihb hn.2 h
    exact key2 hn e4
   refine ⟨fun l lv hm=>(List.mem_append.1 hm).elim (fun h=>(key l lv h).1) (f1 l lv),fun hX l lv hm=>(List.mem_append.1 hm).elim (fun h=>(key l lv h).2) (f2 hX l lv),fun p hp=>?_,fun l hl=>?_,fun idx k' h=>?_⟩
   ·rcases List.mem_append.1 hp with hp | hp
    ·obtain ⟨l,v⟩:=p;have:∀ rows:List (Nat×Row),(l,v)∈A5v hd rows->v.isSome=true:=by
      intro rows
      induction rows with
      | nil=>intro h;cases h
      | cons q rows ih=>
       intro h;simp only [A5v] at h;split at h
       ·rcases List.mem_cons.1 h with e | h
        ·injection e with _ e;subst e;rfl
        ·exact ih h
       ·exact ih h
     exact this _ hp
    ·exact f3 p hp
   ·have:=f4 l hl;simp only [inW,List.any_append,Bool.or_eq_true] at this ⊢;exact .inr this
   ·cases idx with
    | zero=>simp at h
    | succ idx=>
     obtain ⟨z,h1,h2⟩:=f5 idx k' (by simpa using h);refine ⟨z,by rwa [show i+(idx+1)=i+1+idx by omega],?_⟩;simp only [inW,List.any_append,Bool.or_eq_true] at h2 ⊢;exact .inr h2
  ·cases h
 | .ptr k::ps,i,y,vs,W,N,hk,h,hps,hvs,hi,_,hb,hroots,hN=>by
  obtain ⟨cs,v,r,rfl,hvar,hl,hk⟩:=hk;simp only [B1H] at h;split at h
  ·rename_i z hz;split at h
   ·rename_i c W' N' hc hW';injection h with h;injection h with h1 h2;subst h1;subst h2
    obtain ⟨hzm,hzi⟩:=C9g hz;simp only [D8m,hz] at hroots;have hroots2:=hroots.tail;obtain ⟨f1,f2,f3,f4,f5⟩:=C1j hr E hk hW' (fun idx p hp=>by
     have:=hps (idx+1) p (by simpa using hp)
     rwa [show i+(idx+1)=i+1+idx by omega] at this) (fun idx v hv=>by
     have:=hvs (idx+1) v (by simpa using hv)
     rwa [show i+(idx+1)=i+1+idx by omega] at this) (by simp at hi;omega) (fun _=>trivial) (hb.imp (fun h=>by simp only [B3C,Bool.and_eq_true] at h;exact h.2) id) hroots2.right (fun l hl=>hN l (List.mem_append_right _ hl))
    have hp0:=hps 0 _ rfl;rw [Nat.add_zero] at hp0;have hbk:Back k w' Z' Z1:=hb.imp (fun h=>by simp only [B3C,Bool.and_eq_true] at h;exact h.1) id;have hsz0:k.sz<=100:=Nat.le_of_ble_eq_true (E.sz _ (List.mem_of_getElem? hp0));obtain ⟨idx,k',c',hf⟩:=E.bxf z hzm;have hidx:idx=i:=by have:=hf.i;omega
    subst hidx;have hpp:=hf.pos;rw [hp0] at hpp;injection hpp with hpp
    injection hpp with hpp
    subst hpp;have hcc:=hf.get;rw [hc] at hcc;injection hcc with hcc
    subst hcc;have hzsz:=hf.sz;have hgb:=E.hrd _ hf.rd;obtain ⟨cs0,hcs0,hone,hcol,hg⟩:=hr.bx z.b c hgb;have hfit:=hf.fit;rw [hcs0.len] at hfit;have hpe:=E.hpl z hzm;rw [D59 hg hfit,hzi] at hpe;obtain ⟨hheap,hcol'⟩:=hvar;rw [hpe] at hheap hcol';simp only at hheap hcol';have hβ:=E.hβ z.b (E.bnew z hzm);have hca:((A0R w' (pls idx).g).drop (pls idx).pre.length)=cs++(cs0.drop (z.off+z.sz)++(m.β z.b).post):=by
     rw [hpe];simp only [A0R,hheap];rw [List.append_assoc (_++_),List.drop_left]
    obtain ⟨e1,e2⟩:=B03 (s1:=s1) (nb:=np L idx) hl hbk hroots2.left E.new.hw E.new.hZ fun cc v hc' hlk=>by
     have hlt:=(List.getElem?_eq_some_iff.1 hc').1;have hlen:=hl.len;have hmem:Loc.r (np L idx+cc)∈news:=by
      obtain ⟨row,hrow⟩:=B1I (k:=k) (nb:=np L idx) (x:=y.1) hlk;exact hN _ (List.mem_append_left _ (List.mem_map.2 ⟨_,hrow,rfl⟩))
     rw [E.new.prow idx cc (by simp at hi;omega) (by omega) hmem,hca,List.getD_eq_getElem?_getD,List.getElem?_append_left hlt,hc'];rfl
    have hbox:Ext s' m s1 m1 (Live s')->BxC s1 m1 (m1.β z.b) z.b (c.take z.off++leaves k y.1 Lf.own (np L idx)++c.drop (z.off+k.sz)):=by
     intro hX;have hext:All2 (LfC s1 m1) c cs0:=All2.imp (fun l hl v hv=>hv.ext (hX.sub fun q hq=>⟨.b z.b,.b c,hgb,List.mem_flatMap.2 ⟨l,hl,hq⟩⟩)) hcs0;rw [hβ];refine ⟨cs0.take z.off++cs++cs0.drop (z.off+k.sz),((hext.take _).app e2).app (hext.drop _),fun u hu=>?_,?_,?_⟩
     ·rcases List.mem_append.1 hu with hu | hu
      ·rcases List.mem_append.1 hu with hu | hu
       ·exact hone u (List.mem_of_mem_take hu)
       ·exact hl.one u hu
      ·exact hone u (List.mem_of_mem_drop hu)
     ·rw [E.new.hZ];have hlt:(m.β z.b).g<w'.heap.size:=(Array.getElem?_eq_some_iff.1 hheap).1;exact (hroots _ List.mem_cons_self [] (m.β z.b).g [] hcol' hlt).2
     ·rw [E.new.hw,hheap,hzsz]
      congr 2
      simp only [List.append_assoc]
    refine ⟨fun l lv hm=>?_,fun hX l lv hm=>?_,fun p hp=>?_,fun l hl=>?_,fun idx' k' h=>?_⟩
    ·rcases List.mem_cons.1 hm with e | hm
     ·injection e with e1 e2;injection e2 with e2;subst e1;subst e2
      exact .inr ⟨c,hgb,hβ⟩
     ·rcases List.mem_append.1 hm with hm | hm
      ·obtain ⟨cc,row,rfl,rfl,hm2⟩:=B4l hm;exact .inl (hN _ (List.mem_append_left _ (List.mem_map.2 ⟨(cc,row),hm2,rfl⟩)))
      ·exact f1 l lv hm
    ·rcases List.mem_cons.1 hm with e | hm
     ·injection e with e1' e2';injection e2' with e2';subst e1';subst e2'
      exact hbox hX
     ·exact (List.mem_append.1 hm).elim (e1 l lv) (f2 hX l lv)
    ·rcases List.mem_cons.1 hp with e | hp
     ·subst e;rfl
     ·rcases List.mem_append.1 hp with hp | hp
      ·obtain ⟨q,_,rfl⟩:=List.mem_map.1 hp;rfl
      ·exact f3 p hp
    ·simp only [inW,List.any_cons,List.any_append,Bool.or_eq_true];rcases List.mem_append.1 hl with hl | hl
     ·obtain ⟨q,hq,rfl⟩:=List.mem_map.1 hl;refine .inr (.inl (List.any_eq_true.2 ⟨_,List.mem_map.2 ⟨q,hq,rfl⟩,Loc.eqb_iff.2 rfl⟩))
     ·exact .inr (.inr (f4 l hl))
    ·cases idx' with
     | zero=>exact ⟨z,hz,by simp only [inW,List.any_cons,Bool.or_eq_true];exact .inl (Loc.eqb_iff.2 rfl)⟩
     | succ idx'=>
      obtain ⟨z',h1,h2⟩:=f5 idx' k' (by simpa using h);refine ⟨z',by rwa [show idx+(idx'+1)=idx+1+idx' by omega],?_⟩;simp only [inW,List.any_cons,List.any_append,Bool.or_eq_true] at h2 ⊢;exact .inr (.inr h2)
   ·cases h
  ·cases h
end Go.Proofs.YthnfghmjipikhaaGreatDoor.Ev
namespace Go.Proofs.YthnfghmjipikhaaGreatDoor.Ev
def B3D(s:St):List Operand->Option (List AV×Rds)
 | []=>some ([],[])
 | x::xs=>match I0 s x,B3D s xs with
  | some (v,r1),some (vs,r2)=>some (v::vs,r1++r2)
  | _,_=>none
theorem A5w{s:St}:∀ {xs:List Operand} {vs:List AV} {rd:Rds},B3D s xs=some (vs,rd)->Reads s rd
 | [],vs,rd,h=>by simp only [B3D] at h;injection h with h;injection h with _ h;subst h;exact Reads.nil _
 | x::xs,vs,rd,h=>by
  simp only [B3D] at h;split at h
  ·rename_i e1 e2;injection h with h;injection h with _ h;subst h
   exact Reads.app.2 ⟨A6 e1,A5w e2⟩
  ·cases h
theorem B3E{s s':St}{n:Nat}{w0:World}{Z0:Gh}{a:Act}{m:Mem}(hr:Rel n w0 Z0 s' a m):∀ {xs:List Operand} {vs:List AV} {rd:Rds},B3D s xs=some (vs,rd)->Reads s' rd->All2 (AVC s' m) vs (xs.map a.eval)
 | [],vs,rd,h,_=>by simp only [B3D] at h;injection h with h;injection h with h _;subst h;trivial
 | x::xs,vs,rd,h,hrd=>by
  simp only [B3D] at h;split at h
  ·rename_i e1 e2;injection h with h;injection h with h1 h2;subst h1;subst h2
   obtain ⟨g1,g2⟩:=Reads.app.1 hrd;exact ⟨B5 e1 hr g1,B3E hr e2 g2⟩
  ·cases h
def B9r:List (Nat×Fn)->Nat->Option Fn
 | [],_=>none
 | (g,F)::Γ,f=>match Nat.beq g f with
  | true=>some F
  | false=>B9r Γ f
theorem B4m:∀ {Γ:List (Nat×Fn)} {f:Nat} {F:Fn},B9r Γ f=some F->(f,F)∈Γ
 | (g,G)::Γ,f,F,h=>by
  simp only [B9r] at h;split at h
  ·rename_i hb;injection h with h;subst h;rw [Nat.eq_of_beq_eq_true hb];exact List.mem_cons_self
  ·exact List.mem_cons_of_mem _ (B4m h)
def Enters(P:Program)(f:Nat):Prop:=∀ args w,(callFunc f args).run P w=.ok (.enter f args) w
def C7p(g:Nat):List Value->List Value
 | []=> []
 | v::vs=>match vs with
  | []=> [.func (.func g) #[] #[v]]
  | _::_=>v::C7p g vs
def D8r:List AV->Option (Nat×List AV)
 | []=>none
 | v::vs=>match vs with
  | []=>match v with
   | .one (.clo g b off)=>some (g,[.one (.ptr b off)])
   | _=>none
  | _::_=>match D8r vs with
   | some (g,vs')=>some (g,v::vs')
   | none=>none
theorem D5E{s:St}{m:Mem}:∀ {vs vs':List AV} {g:Nat} {vals:List Value},D8r vs=some (g,vs')->All2 (AVC s m) vs vals->∃ vals',All2 (AVC s m) vs' vals'/\vals=C7p g vals'
 | [],_,_,_,h,_=>by cases h
 | [v],vs',g,vals,h,h2=>by
  simp only [D8r] at h;split at h
  ·injection h with h;injection h with h1 h;subst h1;subst h
   match vals,h2 with
   | [u],h2=>
    obtain ⟨p,e,h3,h4⟩:=h2.1;exact ⟨[p],⟨⟨h3,h4⟩,trivial⟩,by rw [e];rfl⟩
   | u::u2::r,h2=>exact h2.2.elim
  ·cases h
 | v::v2::r,vs',g,vals,h,h2=>by
  unfold D8r at h;simp only at h;split at h
  ·rename_i g' vs2 e;injection h with h;injection h with h1 h;subst h1;subst h
   match vals,h2 with
   | u::us,h2=>
    obtain ⟨vals',k1,k2⟩:=D5E e h2.2;refine ⟨u::vals',⟨h2.1,k1⟩,?_⟩;have hne:∃ a b,vals' = a::b:=by
     cases vals' with
     | nil=>
      rw [k2] at h2;exact h2.2.elim
     | cons a b=>exact ⟨a,b,rfl⟩
    obtain ⟨a,b,rfl⟩:=hne;rw [k2];rfl
  ·cases h
def D8s(P:Program)(f g:Nat)(F:Fn):Prop:=
 ∀ x y,F.fn x=some y->∀ (w:World) (Z:Col) (pls:Nat->Plc) (args:List Value),ArgsC w Z pls 0 F.ps x args->
  Calls P f (C7p g args).toArray w fun e w'=>∃ Z' vals,e=.returned (pack vals)/\Keeps w w' Z Z'/\Fore w w' Z Z'/\Later w w'/\B78 w' Z' pls F.ps args 0 F.res y vals
def A2o(P:Program)(Γ:List (Nat×Fn)):Prop:=∀ p∈Γ,(Nat.blt p.1 1000000=true/\Enters P p.1/\B6 P p.1 p.2)\/
 ∃ f g,p.1=1000000*(g+1)+f/\Nat.blt f 1000000=true/\Enters P f/\D8s P f g p.2
theorem C6m{P:Program}{Γ:List (Nat×Fn)}(h:A2o P Γ){f:Nat}{F:Fn}(hf:Nat.blt f 1000000=true)(hm:(f,F)∈Γ):Enters P f/\B6 P f F:=by
 rcases h _ hm with ⟨_,h⟩ | ⟨f',g,e,_⟩
 ·exact h
 ·have h1:f<1000000:=Nat.blt_eq.mp hf;have e':f=1000000*(g+1)+f':=e;omega
theorem E1U{P:Program}{Γ:List (Nat×Fn)}(h:A2o P Γ){f g:Nat}{F:Fn}(hf:Nat.blt f 1000000=true)(hm:(1000000*(g+1)+f,F)∈Γ):Enters P f/\D8s P f g F:=by
 have h1:f<1000000:=Nat.blt_eq.mp hf;rcases h _ hm with ⟨hb,_⟩ | ⟨f',g',e,hf',h2⟩
 ·have hb:1000000*(g+1)+f<1000000:=Nat.blt_eq.mp hb;omega
 ·have h3:f'<1000000:=Nat.blt_eq.mp hf';have e':1000000*(g+1)+f=1000000*(g'+1)+f':=e;have:f' = f:=by omega
  have:g' = g:=by omega
  subst_vars
  exact h2
def B6I:List (Bool×List Lf)->AV
 | []=>.und
 | [(true,ls)]=>.agg ls
 | [(false,[l])]=>.one l
 | ps=>.tup ps
theorem D6c{s:St}{m:Mem}{ps:List (Bool×List Lf)}{vs:List Value}(h:All2 (D7q s m) ps vs):AVC s m (B6I ps) (pack vs):=by
 cases ps with
 | nil=>cases vs with
  | nil=>rfl
  | cons _ _=>exact h.elim
 | cons p ps=>
  cases vs with
  | nil=>exact h.elim
  | cons v vs=>
   cases ps with
   | cons p2 ps=>
    cases vs with
    | nil=>exact h.2.elim
    | cons v2 vs=>
     obtain ⟨g,ls⟩:=p;have e1:B6I ((g,ls)::p2::ps)=.tup ((g,ls)::p2::ps):=by unfold B6I;split<;>simp_all
     rw [e1];exact ⟨v::v2::vs,rfl,h⟩
   | nil=>
    have:vs = []:=by cases vs with
     | nil=>rfl
     | cons _ _=>exact h.2.elim
    subst this;obtain ⟨g,ls⟩:=p;have h1:=h.1;cases g with
    | true=>
     obtain ⟨cs,rfl,hc⟩:=h1;exact ⟨cs,rfl,hc⟩
    | false=>
     obtain ⟨l,e,hc⟩:=h1;simp only at e;subst e;exact hc
def B9s(L:Nat)(F:Fn)(hd:List Hd)(bx:List Bx):List (Nat×Nat):=D5B L 0 F.res++(D8m L bx 0 F.ps++D6a hd)
structure E37 (L:Nat) (F:Fn) (hd:List Hd) (bo:List Nat) (bx:List Bx):Prop where
 tg:nodupB ((A8G hd bx).map (·.1))=true
 bk:nodupB ((B9s L F hd bx).map (·.1))=true
 lent:∀ b∈bo,∀ h∈hd,h.id≠b
 ix:nodupB (bx.map (·.i))=true
 rs:bo = []\/((∀ r∈F.res,r.k.noRs=true)/\B3C K.noRs F.ps=true)
 nr:F.res.length<=16
 np:F.ps.length<=16
 sr:∀ r∈F.res,B1J r.k=true
 sp:∀ p∈F.ps,B1J p.k=true
def isNil{α:Type}:List α->Bool
 | []=>true
 | _=>false
def D2g(L:Nat)(F:Fn)(hd:List Hd)(bo:List Nat)(bx:List Bx):Bool:=
 nodupB ((A8G hd bx).map (·.1))&&(nodupB ((B9s L F hd bx).map (·.1))&&(bo.all (fun b=>hd.all fun h=>!(Nat.beq h.id b))&&(nodupB (bx.map (·.i)) &&
  ((isNil bo||(F.res.all (fun r=>r.k.noRs)&&B3C K.noRs F.ps))&&(Nat.ble F.res.length 16&&(Nat.ble F.ps.length 16&&(F.res.all (fun r=>B1J r.k)&&F.ps.all fun p=>B1J p.k)))))))
theorem D6d{L:Nat}{F:Fn}{hd:List Hd}{bo:List Nat}{bx:List Bx}(h:D2g L F hd bo bx=true):E37 L F hd bo bx:=by
 simp only [D2g,Bool.and_eq_true,Bool.or_eq_true] at h;obtain ⟨h1,h2,h3,h4,h5,h6,h7,h8,h9⟩:=h;refine ⟨h1,h2,fun b hb g hg e=>?_,h4,?_,Nat.le_of_ble_eq_true h6,Nat.le_of_ble_eq_true h7,fun r hr=>List.all_eq_true.1 h8 r hr,fun p hp=>List.all_eq_true.1 h9 p hp⟩
 ·have:=List.all_eq_true.1 (List.all_eq_true.1 h3 b hb) g hg;rw [e,Nat.beq_refl] at this;cases this
 ·rcases h5 with h5 | ⟨h5,h10⟩
  ·cases bo with
   | nil=>exact .inl rfl
   | cons _ _=>cases h5
  ·exact .inr ⟨fun r hr=>List.all_eq_true.1 h5 r hr,h10⟩
def A0q(L:Nat)(F:Fn)(y:Ts (outs F.res F.ps))(N:List Loc):List Loc:=(A4A L 0 F.res y).map (·.1)++N
def D8t(d:Option Nat)(v:AV):St:=match d with
 | none=> []
 | some d=> [(.t d,some (.t v))]
def high:Loc->Bool
 | .r id=>Nat.ble 4096 id
 | .b id=>Nat.ble 4096 id
 | _=>true
def M9(d:Option Nat):Nat:=match d with
 | some d=>d+1
 | none=>1
def C2U{R:Type}(cfg:Cfg)(s:St)(d:Option Nat)(F:Fn)(vs:List AV)(rx:Rds)(κ:Ke R):Option R:=
 match A1p cfg s 0 F.ps vs with
 | some (x,hd,bo,bx,rds)=>match D2g (M9 d) F hd bo bx with
  | true=>A4 (F.fn x) fun y=>match B1H s (M9 d) hd bx 0 F.ps (C1i F.res y) with
   | some (W,N)=>match hd.all (fun h=>!(B4v (A0q (M9 d) F y N) (.r h.id)))&&bx.all (fun z=>!(B4v (A0q (M9 d) F y N) (.b z.b)))&&(A0q (M9 d) F y N).all high with
    | true=>κ ⟨rx++rds,D8t d (B6I (A7S (M9 d) 0 F.res y))++((A4A (M9 d) 0 F.res y++W)++A48 (hd.map fun h=>Loc.r h.id)),A0q (M9 d) F y N⟩
    | false=>none
   | none=>none
  | false=>none
 | none=>none
def D5F{R:Type}(cfg:Cfg)(Γ:List (Nat×Fn))(s:St)(d:Option Nat)(f:Nat)(args:List Operand)(κ:Ke R):Option R:=
 match Nat.blt f 1000000,B3D s args with
 | true,some (vs,rx)=>match D8r vs with
  | some (g,vs')=>match B9r Γ (1000000*(g+1)+f) with
   | some F=>C2U cfg s d F vs' rx κ
   | none=>none
  | none=>match B9r Γ f with
   | some F=>C2U cfg s d F vs rx κ
   | none=>none
 | _,_=>none
theorem B3F:∀ {bx:List Bx} {z:Bx},nodupB (bx.map (·.i))=true->z∈bx->B58 bx z.i=some z
 | x::bx,z,hn,hm=>by
  obtain ⟨h1,h2⟩:=A8h hn;simp only [B58];rcases List.mem_cons.1 hm with e | hm
  ·subst e;rw [Nat.beq_refl]
  ·have hne:Nat.beq x.i z.i=false:=by
    cases e:Nat.beq x.i z.i with
    | false=>rfl
    | true=>
     have e:=Nat.eq_of_beq_eq_true e;exact absurd (List.mem_map.2 ⟨z,hm,e.symm⟩) h1
   rw [hne];exact B3F h2 hm
theorem C9h{W:List Loc}{l:Loc}(h:l∈W):B4v W l=true:=List.any_eq_true.2 ⟨l,h,Loc.eqb_iff.2 rfl⟩
theorem A8j{L:Nat}:∀ {res:List RK} {ps:List PK} {j:Nat} {y:Ts (outs res ps)},∀ p∈A4A L j res y,(∃ id row,p=(Loc.r id,some (LV.r row)))\/(∃ b c,p=(Loc.b b,some (LV.b c)))
 | [],ps,j,y,p,h=>nomatch h
 | .val g k::res,ps,j,y,p,h=>by
  simp only [A4A] at h;rcases List.mem_append.1 h with h | h
  ·obtain ⟨q,_,rfl⟩:=List.mem_map.1 h;exact .inl ⟨_,_,rfl⟩
  ·exact A8j p h
 | .new k::res,ps,j,y,p,h=>by
  simp only [A4A] at h;rcases List.mem_cons.1 h with h | h
  ·exact .inr ⟨_,_,h⟩
  ·rcases List.mem_append.1 h with h | h
   ·obtain ⟨q,_,rfl⟩:=List.mem_map.1 h;exact .inl ⟨_,_,rfl⟩
   ·exact A8j p h
theorem B8l{R:Type}{P:Program}{cfg:Cfg}{s:St}{d:Option Nat}{f:Nat}{args:List Operand}{κ:Ke R}{r:R}{F:Fn}{vs:List AV}{rx:Rds}(hent:Enters P f)(hread:Reads s rx)
  (hval:∀ {n:Nat} {w0:World} {Z0:Gh} {s':St} {a:Act} {m:Mem},Rel n w0 Z0 s' a m->Reads s' rx->∃ vals,All2 (AVC s' m) vs vals/\∀ x y,F.fn x=some y->∀ (Z:Col) (pls:Nat->Plc),ArgsC m.w Z pls 0 F.ps x vals->
   Calls P f (args.map a.eval).toArray m.w fun e w'=>∃ Z' rv,e=.returned (pack rv)/\Keeps m.w w' Z Z'/\Fore m.w w' Z Z'/\Later m.w w'/\B78 w' Z' pls F.ps vals 0 F.res y rv)
  (h:C2U cfg s d F vs rx κ=some r) (at':Array TypeId) :
  OutG P s (.call {callee:=.value (.func f),args:=args.toArray,argTypes:=at'}) d κ r:=by
 unfold C2U at h;split at h
 ·rename_i x hd bo bx rds hg;split at h
  ·rename_i hco;obtain ⟨y,hy,h⟩:=A1o h;split at h
   ·rename_i W N hW;split at h
    ·rename_i hnn;have hco:=D6d hco;refine ⟨_,h,Reads.app.2 ⟨hread,B38 hg⟩,fun n o ho hdst hd0 w0 Z0 s' a m hr hrd hnew next Q hn=>?_⟩
     clear h
     obtain ⟨hrd1,hrd2⟩:=Reads.app.1 hrd;obtain ⟨vals,hvals,hsound⟩:=hval hr hrd1
     let pls:Nat->Plc:=fun i=>match B58 bx i with
      | some z=>D2d m z
      | none=>⟨0,0,[],[]⟩
     have hpl:∀ z∈bx,pls z.i=D2d m z:=fun z hz=>by
      show (match B58 bx z.i with
       | some z=>D2d m z
       | none=>(⟨0,0,[],[]⟩:Plc))=_
      rw [B3F hco.ix hz]
     have hcal:CalOk m (I1 (A8G hd bx) (bo.map (2*·)) m.Z) hd bo:=by
      refine ⟨fun g hh p=>A0W m.w (N3 hco.tg (List.mem_append_left _ (List.mem_map.2 ⟨g,hh,rfl⟩))) p,fun id hid=>B4g m.w (B3A fun hm=>?_) (List.mem_map.2 ⟨id,hid,rfl⟩) []⟩;obtain ⟨g,hh,e⟩:=List.mem_map.1 hm;injection e with e
      exact hco.lent id hid g hh e
     have hargs:=C2Q hr (B4f m.w _ _ _) hg hrd2 hcal (fun z hz=>A0W m.w (N3 hco.tg (List.mem_append_right _ (List.mem_map.2 ⟨z,hz,rfl⟩))) []) hpl hvals;have hcalls:=hsound x y hy _ pls hargs;have hrun:(execOp a.eval o).run P m.w=.ok (.enter f (args.map a.eval).toArray) m.w:=by
      have he:=hent (args.map a.eval).toArray m.w;have:(execOp a.eval o)=callFunc f ((args.map a.eval).toArray):=by
       simp [execOp,ho,resolve,invoke,Act.eval,Deferred.ofValue]
      rw [this];exact he
     simp only [Oper.wp,hrun,Oper.upon,hdst];refine hcalls.mono fun e w' hpost=>?_
     obtain ⟨Z',rv,rfl,hk,hf,hl,hout⟩:=hpost;show next (a.put d (pack rv)) w'
     simp only [Bool.and_eq_true] at hnn;have hroots:Roots w' Z' (A7P m.w.heap.size m.Z (I1 (A8G hd bx) (bo.map (2*·)) m.Z) Z' (B9s (M9 d) F hd bx)) (B9s (M9 d) F hd bx):=
      fun p hp q=>D6N hk hf (N3 hco.bk hp) q
     have hkeepB:bo = []->Keeps w' w' Z' (A7P m.w.heap.size m.Z (I1 (A8G hd bx) (bo.map (2*·)) m.Z) Z' (B9s (M9 d) F hd bx)):=fun e=>by
      subst e;exact D6O hf
     generalize hZ1:A7P m.w.heap.size m.Z (I1 (A8G hd bx) (bo.map (2*·)) m.Z) Z' (B9s (M9 d) F hd bx)=Z1 at *
     let m1:Mem:=⟨w',Z1,fun id=>if Loc.r id∈A0q (M9 d) F y N then
       (if id-4096*(M9 d)<2048 then (match rv[(id-4096*(M9 d)) / 128]? with
        | some v=>C2T w' v
        | none=> []).getD ((id-4096*(M9 d)) % 128) undef
       else ((A0R w' (pls ((id-4096*(M9 d)-2048) / 128)).g).drop (pls ((id-4096*(M9 d)-2048) / 128)).pre.length).getD ((id-4096*(M9 d)-2048) % 128) undef) else m.ρ id,
      fun b=>if Loc.b b∈A0q (M9 d) F y N then (match rv[(b-4096*(M9 d)) / 128]? with
       | some (.pointer (some ⟨b0,_,_⟩))=>⟨b0,D6b w' b0,[],[]⟩
       | _=>⟨0,0,[],[]⟩) else m.β b⟩
     have hN:D8q (M9 d) w' Z' Z1 pls rv (A0q (M9 d) F y N) m1:=by
      refine ⟨rfl,rfl,fun j c v hj hc hv hm=>?_,fun i c hi hc hm=>?_,fun j b hj hv hm=>?_⟩
      ·show (if Loc.r (nr (M9 d) j+c)∈A0q (M9 d) F y N then _ else _)=_;have e1:nr (M9 d) j+c-4096*(M9 d)=128*j+c:=by simp only [nr];omega
       have e2:(128*j+c) / 128=j:=by omega
       have e3:(128*j+c) % 128=c:=by omega
       rw [if_pos hm,e1,e2,e3,if_pos (by omega),hv]
      ·show (if Loc.r (np (M9 d) i+c)∈A0q (M9 d) F y N then _ else _)=_;have e1:np (M9 d) i+c-4096*(M9 d)=2048+(128*i+c):=by simp only [np];omega
       have e2:(2048+(128*i+c)-2048) / 128=i:=by omega
       have e3:(2048+(128*i+c)-2048) % 128=c:=by omega
       rw [if_pos hm,e1,e2,e3,if_neg (by omega)]
      ·show (if Loc.b (nr (M9 d) j)∈A0q (M9 d) F y N then _ else _)=_;have e1:nr (M9 d) j-4096*(M9 d)=128*j:=by simp only [nr];omega
       have e2:(128*j) / 128=j:=by omega
       rw [if_pos hm,e1,e2,hv]
     have hρ:∀ id,Loc.r id ∉ A0q (M9 d) F y N->m1.ρ id=m.ρ id:=fun id hn=>if_neg hn
     have hβ:∀ b,Loc.b b ∉ A0q (M9 d) F y N->m1.β b=m.β b:=fun b hn=>if_neg hn
     have hβN:∀ b,Loc.b b∈A0q (M9 d) F y N->(m1.β b).pre = []/\(m1.β b).post = []:=by
      intro b hbn;show ((if Loc.b b∈A0q (M9 d) F y N then (match rv[(b-4096*(M9 d)) / 128]? with
       | some (.pointer (some ⟨b0,_,_⟩))=>(⟨b0,D6b w' b0,[],[]⟩:Plc)
       | _=>⟨0,0,[],[]⟩) else m.β b):Plc).pre = []/\((if Loc.b b∈A0q (M9 d) F y N then (match rv[(b-4096*(M9 d)) / 128]? with
       | some (.pointer (some ⟨b0,_,_⟩))=>(⟨b0,D6b w' b0,[],[]⟩:Plc)
       | _=>⟨0,0,[],[]⟩) else m.β b):Plc).post = []
      rw [if_pos hbn];split<;>exact ⟨rfl,rfl⟩
     obtain ⟨hF1,hF2⟩:=B3B hr hg hrd2 hvals;have hE:D5D (M9 d) w' Z' Z1 pls rv (A0q (M9 d) F y N) m1 s s' m F.ps vals hd bx rds:=
      ⟨hN,hF1,hF2,hco.sp,hroots.right.right,fun g hh hm=>(by
       have:=List.all_eq_true.1 hnn.1.1 g hh;rw [C9h hm] at this;cases this),fun z hz hm=>(by
       have:=List.all_eq_true.1 hnn.1.2 z hz;rw [C9h hm] at this;cases this),hρ,hβ,hpl,hrd2⟩
     have hO:=D2f (s1:=(A4A (M9 d) 0 F.res y++W)++(A48 (hd.map fun h=>Loc.r h.id)++s')) hN hout (fun i v hi=>by rw [Nat.zero_add];exact hi) (by rw [Nat.zero_add];exact hco.nr) hco.sr
      (fun q hq=>hco.rs.elim (fun e=>.inr (hkeepB e)) (fun e=>.inl (e.1 q hq))) hroots.left (fun p hp=>List.mem_append_left _ (List.mem_map.2 ⟨p,hp,rfl⟩))
     obtain ⟨o1,o2,o3⟩:=hO;obtain ⟨k1,k2,k3,k4,k5⟩:=C1j (s1:=(A4A (M9 d) 0 F.res y++W)++(A48 (hd.map fun h=>Loc.r h.id)++s')) hr hE o3 hW (fun idx p hp=>by rw [Nat.zero_add];exact hp) (fun idx v hv=>by rw [Nat.zero_add];exact hv)
      (by rw [Nat.zero_add];exact hco.np) (fun _=>trivial) (hco.rs.elim (fun e=>.inr (hkeepB e)) (fun e=>.inl e.2)) hroots.right.left (fun l hl=>List.mem_append_right _ hl)
     have hWall:∀ l lv,(l,some lv)∈A4A (M9 d) 0 F.res y++W->D8n s' m m1 (A0q (M9 d) F y N) l lv:=by
      intro l lv hm;rcases List.mem_append.1 hm with hm | hm
      ·have hin:l∈A0q (M9 d) F y N:=List.mem_append_left _ (List.mem_map.2 ⟨_,hm,rfl⟩);rcases A8j _ hm with ⟨id,row,e⟩ | ⟨b,c,e⟩
       ·injection e with e1 e2;injection e2 with e2;subst e1;subst e2;exact .inl hin
       ·injection e with e1 e2;injection e2 with e2;subst e1;subst e2;exact .inl hin
      ·exact k1 l lv hm
     have hsome:∀ p∈A4A (M9 d) 0 F.res y++W,p.2.isSome=true:=by
      intro p hp;rcases List.mem_append.1 hp with hp | hp
      ·rcases A8j _ hp with ⟨id,row,e⟩ | ⟨b,c,e⟩<;>rw [e]<;>rfl
      ·exact k3 p hp
     have hnewW:∀ l∈A0q (M9 d) F y N,inW (A4A (M9 d) 0 F.res y++W) l=true:=by
      intro l hl;simp only [inW,List.any_append,Bool.or_eq_true];rcases List.mem_append.1 hl with hl | hl
      ·obtain ⟨p,hp,rfl⟩:=List.mem_map.1 hl;exact .inl (List.any_eq_true.2 ⟨p,hp,Loc.eqb_iff.2 rfl⟩)
      ·exact .inr (k4 l hl)
     have hbxW:∀ z∈bx,inW (A4A (M9 d) 0 F.res y++W) (.b z.b)=true:=by
      intro z hz;obtain ⟨idx,k,c,hfz⟩:=hF2 z hz;obtain ⟨z',g1,g2⟩:=k5 idx k hfz.pos;rw [<- hfz.i,B3F hco.ix hz] at g1;injection g1 with g1;subst g1
      simp only [inW,List.any_append,Bool.or_eq_true] at g2 ⊢;exact .inr g2
     have hX:=D5C (W:=A4A (M9 d) 0 F.res y++W) (bk:=B9s (M9 d) F hd bx) (m1:=m1) hr hk hf rfl hZ1.symm hnew hρ hβ hWall;have hR:=E1R (bk:=B9s (M9 d) F hd bx) (m1:=m1) hr hk hf hl rfl hZ1.symm hnew hρ hβ hβN hWall hsome (fun id hm=>Nat.le_of_ble_eq_true (List.all_eq_true.1 hnn.2 _ hm)) (fun b hm=>Nat.le_of_ble_eq_true (List.all_eq_true.1 hnn.2 _ hm)) hnewW hbxW (fun l lv hm=>(List.mem_append.1 hm).elim (o1 l lv) (k2 hX l lv));refine hn _ m1 ?_;cases d with
     | none=>
      have e:(D8t none (B6I (A7S (M9 none) 0 F.res y))++((A4A (M9 none) 0 F.res y++W)++A48 (hd.map fun h=>Loc.r h.id)))++s' = (A4A (M9 none) 0 F.res y++W)++(A48 (hd.map fun h=>Loc.r h.id)++s'):=by
       simp only [D8t,List.nil_append,List.append_assoc]
      rw [e];exact hR
     | some i=>
      have e:(D8t (some i) (B6I (A7S (M9 (some i)) 0 F.res y))++((A4A (M9 (some i)) 0 F.res y++W)++A48 (hd.map fun h=>Loc.r h.id)))++s' = (.t i,some (.t (B6I (A7S (M9 (some i)) 0 F.res y))))::((A4A (M9 (some i)) 0 F.res y++W)++(A48 (hd.map fun h=>Loc.r h.id)++s')):=by
       simp only [D8t,List.cons_append,List.nil_append,List.append_assoc]
      rw [e];exact hR.put (hd0 i rfl) (D6c o2)
    ·cases h
   ·cases h
  ·cases h
 ·cases h
theorem C9i{R:Type}{P:Program}{cfg:Cfg}{Γ:List (Nat×Fn)}(hΓ:A2o P Γ){s:St}{d:Option Nat}{f:Nat}{args:List Operand}{κ:Ke R}{r:R}(h:D5F cfg Γ s d f args κ=some r)(at':Array TypeId) :
  OutG P s (.call {callee:=.value (.func f),args:=args.toArray,argTypes:=at'}) d κ r:=by
 unfold D5F at h;split at h
 ·rename_i vs rx hb hvs;split at h
  ·rename_i g vs' hu;split at h
   ·rename_i F hF;obtain ⟨hent,hs⟩:=E1U hΓ hb (B4m hF);refine B8l hent (A5w hvs) (fun hr hrd=>?_) h at';obtain ⟨vals',k1,k2⟩:=D5E hu (B3E hr hvs hrd);exact ⟨vals',k1,fun x y hy Z pls ha=>by rw [k2];exact hs x y hy _ Z pls _ ha⟩
   ·cases h
  ·split at h
   ·rename_i F hF;obtain ⟨hent,hs⟩:=C6m hΓ hb (B4m hF);exact B8l hent (A5w hvs) (fun hr hrd=>⟨_,B3E hr hvs hrd,fun x y hy Z pls ha=>hs x y hy _ Z pls _ ha⟩) h at'
   ·cases h
 ·cases h
end Go.Proofs.YthnfghmjipikhaaGreatDoor.Ev
namespace Go.Proofs.YthnfghmjipikhaaGreatDoor.Ev
def E38{R:Type}(s:St)(x y:Operand)(κ:Kp R):Option R:=
 match I0 s x,I0 s y with
 | some (.one (.int k a),rx),some (.one (.int _ b),ry)=>κ (rx++ry) [] (.one (.int k (bif decide (b<a) then b else a)))
 | _,_=>none
def E39{R:Type}(s:St)(x y:Operand)(κ:Kp R):Option R:=
 match I0 s x,I0 s y with
 | some (.one (.int k a),rx),some (.one (.int _ b),ry)=>κ (rx++ry) [] (.one (.int k (bif decide (b>a) then b else a)))
 | _,_=>none
theorem D8u{α:Type}{p:Prop} [Decidable p] (x y:α):(bif decide p then x else y)=if p then x else y:=by
 by_cases h:p<;>simp [h]
theorem E1V{R:Type}{P:Program}{s:St}{x y:Operand}{κ:Kp R}{r:R}(h:E38 s x y κ=some r)(ts:Array TypeId) :
  OutP P s (.call {callee:=.builtin .min,args:=#[x,y],argTypes:=ts}) κ r:=by
 unfold E38 at h;split at h
 ·rename_i k a rx k' b ry ex ey;refine .mk' _ _ h (Reads.app.2 ⟨A6 ex,A6 ey⟩) fun n0 w0 Z0 s' ac m oo ho hr hrd=>⟨_,?_,rfl⟩
  have hx:ac.eval x=.int k a:=B5 ex hr (Reads.app.1 hrd).1;have hy:ac.eval y=.int k' b:=B5 ey hr (Reads.app.1 hrd).2;simp [execOp,ho,hx,hy,resolve,invoke,builtin,Sem.run_bind,run_min_int2,D8u]
 ·cases h
theorem E1W{R:Type}{P:Program}{s:St}{x y:Operand}{κ:Kp R}{r:R}(h:E39 s x y κ=some r)(ts:Array TypeId) :
  OutP P s (.call {callee:=.builtin .max,args:=#[x,y],argTypes:=ts}) κ r:=by
 unfold E39 at h;split at h
 ·rename_i k a rx k' b ry ex ey;refine .mk' _ _ h (Reads.app.2 ⟨A6 ex,A6 ey⟩) fun n0 w0 Z0 s' ac m oo ho hr hrd=>⟨_,?_,rfl⟩
  have hx:ac.eval x=.int k a:=B5 ex hr (Reads.app.1 hrd).1;have hy:ac.eval y=.int k' b:=B5 ey hr (Reads.app.1 hrd).2;simp [execOp,ho,hx,hy,resolve,invoke,builtin,Sem.run_bind,run_max_int2,D8u]
 ·cases h
end Go.Proofs.YthnfghmjipikhaaGreatDoor.Ev
namespace Go.Proofs.YthnfghmjipikhaaGreatDoor.Ev
def C6n(flds:List (Nat×Nat×Bool)):List Lf->List (Nat×List Lf)->Option (List Lf)
 | ls,[]=>some ls
 | ls,(i,vs)::rest=>match flds[i]? with
  | some (off,size,_)=>match Nat.beq vs.length size,Nat.ble (off+vs.length) ls.length with
   | true,true=>C6n flds (ls.take off++vs++ls.drop (off+vs.length)) rest
   | _,_=>none
  | none=>none
def B1L(s:St):List (Nat×Operand)->Option (List (Nat×List Lf)×Rds)
 | []=>some ([],[])
 | (i,x)::ps=>match I0 s x,B1L s ps with
  | some (v,rx),some (vs,r)=>match avL v with
   | some ls=>some ((i,ls)::vs,rx++r)
   | none=>none
  | _,_=>none
theorem B1M{s:St}:∀ {ps:List (Nat×Operand)} {vs:List (Nat×List Lf)} {rd:Rds},B1L s ps=some (vs,rd)->Reads s rd
 | [],vs,rd,h=>by simp only [B1L] at h;injection h with h;injection h with _ h;subst h;exact Reads.nil _
 | (i,x)::ps,vs,rd,h=>by
  simp only [B1L] at h;split at h
  ·rename_i e1 e2;split at h
   ·injection h with h;injection h with _ h;subst h
    exact Reads.app.2 ⟨A6 e1,B1M e2⟩
   ·cases h
  ·cases h
def PtC(s:St)(m:Mem)(p:Nat×List Lf)(q:Nat×Value):Prop:=p.1=q.1/\∃ cs:List Value,q.2.cells=cs.toArray/\All2 (LfC s m) p.2 cs
theorem B8m{s s':St}{n:Nat}{w0:World}{Z0:Gh}{a:Act}{m:Mem}(hr:Rel n w0 Z0 s' a m):∀ {ps:List (Nat×Operand)} {vs:List (Nat×List Lf)} {rd:Rds},B1L s ps=some (vs,rd)->Reads s' rd->
  All2 (PtC s' m) vs (ps.map fun p=>(p.1,a.eval p.2))
 | [],vs,rd,h,_=>by simp only [B1L] at h;injection h with h;injection h with h _;subst h;trivial
 | (i,x)::ps,vs,rd,h,hrd=>by
  simp only [B1L] at h;split at h
  ·rename_i e1 e2;split at h
   ·rename_i ls el;injection h with h;injection h with h1 h2;subst h1;subst h2
    obtain ⟨g1,g2⟩:=Reads.app.1 hrd;obtain ⟨cs,hcs,hl⟩:=B33 el (B5 e1 hr g1);exact ⟨⟨rfl,cs,hcs,hl⟩,B8m hr e2 g2⟩
   ·cases h
  ·cases h
theorem D6e(off:Nat)(l:List Value)(cs:Array Value)(h:off+l.length<=cs.size) :
  (l.toArray.zipIdx.foldl (fun cs (c,j)=>cs.setIfInBounds (off+j) c) cs).toList=spl cs.toList off l:=by
 have key:∀ (l:List Value) (st:Nat) (cs:Array Value),off+st+l.length<=cs.size->((l.zipIdx st).foldl (fun cs (p:Value×Nat)=>cs.setIfInBounds (off+p.2) p.1) cs).toList=spl cs.toList (off+st) l:=by
  intro l
  induction l with
  | nil=>intro st cs _;simp [spl]
  | cons v l ih=>
   intro st cs h;simp only [List.length_cons] at h;rw [List.zipIdx_cons,List.foldl_cons,ih (st+1) _ (by simp;omega)];apply List.ext_getElem?;intro q;have hl1:off+(st+1)+l.length<=(cs.setIfInBounds (off+st) v).toList.length:=by simp;omega
   have hl2:off+st+(v::l).length<=cs.toList.length:=by simp;omega
   rw [A6s hl1,A6s hl2];simp only [Array.toList_setIfInBounds,List.length_cons];by_cases h1:q<off+st
   ·rw [if_pos (by omega),if_pos h1,List.getElem?_set_ne (by omega)]
   ·rw [if_neg h1];by_cases h2:q=off+st
    ·subst h2;rw [if_pos (by omega),if_pos (by omega),List.getElem?_set_self (by simp;omega),Nat.sub_self];rfl
    ·rw [if_neg (by omega)];by_cases h3:q<off+(st+1)+l.length
     ·rw [if_pos h3,if_pos (by omega)];rw [show q-(off+st)=(q-(off+(st+1)))+1 by omega,List.getElem?_cons_succ]
     ·rw [if_neg h3,if_neg (by omega),List.getElem?_set_ne (by omega)]
 have:=key l 0 cs (by omega);rw [Nat.add_zero] at this;rw [<- this,<- Array.foldl_toList];simp
theorem C2V{place:Nat->Option (Nat×Nat)}{flds:List (Nat×Nat×Bool)}(hp:∀ i f,flds[i]? = some f->place i=some (f.1,f.2.1)){s:St}{m:Mem}:∀ {vs:List (Nat×List Lf)} {qs:List (Nat×Value)} {ls ls':List Lf} {cs:Array Value},
  C6n flds ls vs=some ls'->All2 (PtC s m) vs qs->All2 (LfC s m) ls cs.toList->∃ cs',Instr.fill place cs qs=some cs'/\All2 (LfC s m) ls' cs'.toList
 | [],qs,ls,ls',cs,h,hq,hl=>by
  cases qs with
  | cons _ _=>exact hq.elim
  | nil=>simp only [C6n] at h;injection h with h;subst h;exact ⟨cs,rfl,hl⟩
 | (i,us)::vs,qs,ls,ls',cs,h,hq,hl=>by
  cases qs with
  | nil=>exact hq.elim
  | cons q qs=>
   obtain ⟨j,v⟩:=q;obtain ⟨⟨e,us',hus,hu⟩,hq⟩:=hq;simp only at e hus hu;subst e;simp only [C6n] at h;split at h
   ·rename_i off size ag ef;split at h
    ·rename_i e1 e2;have e1:=Nat.eq_of_beq_eq_true e1;have e2:=Nat.le_of_ble_eq_true e2;have hlen:=hl.len;have hul:=hu.len;have hcl:cs.toList.length=cs.size:=Array.length_toList;have hvs:v.cells.size=us'.length:=by rw [hus];simp
     have hfit:off+us'.length<=cs.size:=by omega
     have hsp:=D6e off us' cs hfit;obtain ⟨cs',h1,h2⟩:=C2V hp (cs:=us'.toArray.zipIdx.foldl (fun cs (c,j)=>cs.setIfInBounds (off+j) c) cs) h hq (by
      rw [hsp];unfold spl;rw [<- hul];exact ((hl.take _).app hu).app (hl.drop _))
     refine ⟨cs',?_,h2⟩;simp only [Instr.fill,hp _ _ ef];rw [if_neg (by simp;omega),hus];exact h1
    ·cases h
   ·cases h
end Go.Proofs.YthnfghmjipikhaaGreatDoor.Ev
namespace Go.Proofs.YthnfghmjipikhaaGreatDoor.Ev
theorem C6o{P:Program}:∀ {fs:List Field} {fl:List (Nat×Nat×Bool)},fs.length=fl.length->(∀ (j:Nat) f,fl[j]? = some f->∃ fd,fs[j]? = some fd/\C6U P fd f)->
  fs.mapM (fun f=>(P.info? f.type).map fun i=>(f.offset,i.size))=some (fl.map fun f=>(f.1,f.2.1))
 | [],[],_,_=>by simp
 | [],_::_,h,_=>by simp at h
 | _::_,[],h,_=>by simp at h
 | fd::fs,f::fl,h,hf=>by
  obtain ⟨fd',e,hk⟩:=hf 0 f rfl;simp at e;subst e;obtain ⟨i,hi,hs⟩:=hk.info;have ih:=C6o (P:=P) (fs:=fs) (fl:=fl) (by simpa using h) (fun j f' hj=>by simpa using hf (j+1) f' (by simpa using hj));simp only [List.mapM_cons,hi,Option.map_some,ih,hk.off,hs,List.map_cons];rfl
def D2h{R:Type}(cfg:Cfg)(s:St)(t:Nat)(parts:Array (Nat×Operand))(κ:Kp R):Option R:=
 match cfg.ty t,B1L s parts.toList with
 | some ti,some (vs,rds)=>match ti.agg,C6n ti.flds (zl ti.k) vs with
  | true,some ls=>κ rds [] (.agg ls)
  | _,_=>none
 | _,_=>none
theorem D6f{R:Type}{P:Program}{cfg:Cfg}(hc:E8 P cfg){s:St}{t:Nat}{parts:Array (Nat×Operand)}{κ:Kp R}{r:R}(h:D2h cfg s t parts κ=some r):OutP P s (.build t parts) κ r:=by
 unfold D2h at h;split at h
 ·rename_i ti vs rds et ep;split at h
  ·rename_i ls ea ef;refine .mk' rds _ h (B1M ep) fun n0 w0 Z0 s' a m oo ho hr hrd=>?_
   obtain ⟨f,z,hi,hs,hb,hz,hzc,hza⟩:=hc.info et;obtain ⟨fs,hu,hfl,hfd⟩:=hc.st et ea;have hpl:=C6o (P:=P) (fs:=fs.toList) (fl:=ti.flds) (by simpa using hfl) (fun j f hj=>by
    obtain ⟨fd,h1,h2⟩:=hfd j f hj;exact ⟨fd,by rw [Array.getElem?_toList];exact h1,h2⟩)
   obtain ⟨cs',hfill,hcs⟩:=C2V (place:=fun x=>((ti.flds.map fun f=>(f.1,f.2.1)).toArray)[x]?) (s:=s') (m:=m) (fun i f hf=>by simp [hf]) (cs:=z.cells) ef (B8m hr ep hrd) (by
    rw [hzc];exact C26 _ _ _)
   have hbuilt:P.built t (parts.map fun (i,x)=>(i,a.eval x)).toList=some cs':=by
    unfold Program.built;simp only [hi,hu,hz,hpl];have:(parts.map fun (i,x)=>(i,a.eval x)).toList=parts.toList.map fun p=>(p.1,a.eval p.2):=by simp
    rw [this];exact hfill
   refine ⟨.agg cs',?_,cs'.toList,by simp,hcs⟩;simp [execOp,ho,Sem.run_bind,run_build m.w t _ cs' hbuilt]
  ·cases h
 ·cases h
def C7q{R:Type}(cfg:Cfg)(s:St)(t:Nat)(parts:Array (Nat×Operand))(κ:Kp R):Option R:=
 match cfg.ar t,B1L s parts.toList with
 | some (n,e),some (vs,rds)=>match cfg.ty e with
  | some ti=>match C6n ((List.range n).map fun i=>(i*ti.k.sz,ti.k.sz,false)) (List.replicate n (zl ti.k)).flatten vs with
   | some ls=>κ rds [] (.agg ls)
   | none=>none
  | none=>none
 | _,_=>none
theorem D8v(k:K)(s:St)(m:Mem):∀ n:Nat,All2 (LfC s m) (List.replicate n (zl k)).flatten (List.replicate n (zc k)).flatten
 | 0=>trivial
 | n+1=>by simp only [List.replicate_succ,List.flatten_cons];exact All2.app (C26 k s m) (D8v k s m n)
theorem D2i{R:Type}{P:Program}{cfg:Cfg}(hc:E8 P cfg){s:St}{t:Nat}{parts:Array (Nat×Operand)}{κ:Kp R}{r:R}(h:C7q cfg s t parts κ=some r):OutP P s (.build t parts) κ r:=by
 unfold C7q at h;split at h
 ·rename_i n e vs rds et ep;split at h
  ·rename_i ti eti;split at h
   ·rename_i ls ef;refine .mk' rds _ h (B1M ep) fun n0 w0 Z0 s' a m oo ho hr hrd=>?_
    obtain ⟨hu,f,z,hi,hz,hzc⟩:=hc.ar et;obtain ⟨f2,_,hi2,hs2,_⟩:=hc.info eti;have hzc:=hzc ti eti;obtain ⟨cs',hfill,hcs⟩:=C2V (place:=fun i=>some (i*f2.size,f2.size)) (s:=s') (m:=m) (fun i f hf=>by
     rw [List.getElem?_map] at hf;cases hq:(List.range n)[i]? with
     | none=>rw [hq] at hf;cases hf
     | some q=>
      rw [hq] at hf;have hqi:q=i:=by
       rw [List.getElem?_eq_some_iff] at hq;obtain ⟨_,hq⟩:=hq;rw [List.getElem_range] at hq;exact hq.symm
      subst hqi;simp only [Option.map_some,Option.some.injEq] at hf;subst hf;simp [hs2]) (cs:=z.cells) ef (B8m hr ep hrd) (by
     rw [hzc];exact D8v _ _ _ _)
    have hparts:(parts.map fun (i,x)=>(i,a.eval x)).toList=parts.toList.map fun p=>(p.1,a.eval p.2):=by simp
    refine ⟨.agg cs',?_,cs'.toList,by simp,hcs⟩;have hrun:(Instr.build t (parts.map fun (i,x)=>(i,a.eval x))).run P m.w=.ok (.agg cs') m.w:=by
     simp only [Instr.build,hparts];simp [Sem.run_bind,zeroValue,sizeOf,typeInfo,hi,hz,hi2,R5 hu,hfill]
    simp [execOp,ho,Sem.run_bind,hrun]
   ·cases h
  ·cases h
 ·cases h
def C7r{R:Type}(cfg:Cfg)(s:St)(t:Nat)(x i:Operand)(κ:Kp R):Option R:=
 match I0 s x,I0 s i,cfg.ar t with
 | some (.agg ls,rx),some (.one (.int _ j),ri),some (n,e)=>match strs ls,A5B cfg e with
  | some xs,true=>match Nat.beq xs.length n with
   | true=>bif decide (0<=j) then bif decide (j<(n:Int)) then κ (rx++ri) [] (.one (.str (rd .str xs j))) else none else none
   | false=>none
  | _,_=>none
 | _,_,_=>none
theorem D2j{R:Type}{P:Program}{cfg:Cfg}(hc:E8 P cfg){s:St}{t:Nat}{x i:Operand}{κ:Kp R}{r:R}(h:C7r cfg s t x i κ=some r):OutP P s (.index t x i) κ r:=by
 unfold C7r at h;split at h
 ·rename_i ls rx κi j ri n e ex ei et;split at h
  ·rename_i xs es est;split at h
   ·rename_i hn;have hn:=Nat.eq_of_beq_eq_true hn;obtain ⟨h0,h⟩:=C6 h;obtain ⟨h1,h⟩:=C6 h;have h0:=of_decide_eq_true h0;have h1:=of_decide_eq_true h1;refine .mk' _ _ h (Reads.app.2 ⟨A6 ex,A6 ei⟩) fun n0 w0 Z0 s' a m oo ho hr hrd=>⟨.string (rd .str xs j),?_,rfl⟩
    obtain ⟨cs,hx,hcs⟩:=B5 ex hr (Reads.app.1 hrd).1;have hi:a.eval i=.int κi j:=B5 ei hr (Reads.app.1 hrd).2;have hcv:=C1b es hcs;have hu:=A46 hc est;have hlt:j.toNat<xs.length:=by omega
    have hg:cs.toArray[j.toNat]? = some (.string (rd .str xs j)):=by
     rw [A9r hlt,hcv];simp [hlt]
    obtain ⟨hua,f,z,hif,hz,_⟩:=hc.ar et;have hsz:∃ f2,P.info? e=some f2/\f2.size=1:=by
     unfold A5B at est;split at est
     ·rename_i ti eti;obtain ⟨f2,_,g1,g2,_⟩:=hc.info eti;exact ⟨f2,g1,g2⟩
     ·cases est
    obtain ⟨f2,hi2,hs2⟩:=hsz;have hr1:(Instr.index t (.agg cs.toArray) (.int κi j)).run P m.w=.ok (.string (rd .str xs j)) m.w:=by
     simp [Instr.index,asIntOf,Sem.run_bind,R5 hua,h0,h1,sizeOf,typeInfo,hi2,hs2,part,isAgg,R5 hu];have hg2:cs[j.toNat]? = some (.string (rd .str xs j)):=by simpa using hg
     rw [hg2];simp
    simp only [execOp,ho,hx,hi,Sem.run_bind,hr1,Result.andThen_ok,Sem.run_pure]
   ·cases h
  ·cases h
 ·cases h
end Go.Proofs.YthnfghmjipikhaaGreatDoor.Ev
namespace Go.Proofs.YthnfghmjipikhaaGreatDoor.Ev
def C7s{R:Type}(cfg:Cfg)(s:St)(neg:Bool)(t:Nat)(x:Operand)(κ:Kp R):Option R:=
 match I0 s x,cfg.el t with
 | some (.one l,rx),some _=>match B8 cfg s t l with
  | some (sl,rl)=>bif decide (0<sl.xs.length) then κ (rx++rl) [] (.one (.bool neg)) else κ (rx++rl) [] (.one .anyb)
  | none=>none
 | _,_=>none
theorem D6g{P:Program}{t e:TypeId}(hu:P.underlying t=some (.slice e))(A:Option Addr)(n c:Nat)(w:World):(binOp .eql t (.slice A n c) (.slice none 0 0)).run P w=.ok (.bool A.isNone) w:=by
 simp only [binOp];have h:(Op.equal t (.slice A n c) (.slice none 0 0)).run P w=.ok A.isNone w:=by
  unfold Op.equal Op.maxDepth;unfold Op.equalIn;cases A<;>simp [R5 hu]
 simp [h]
theorem D6h{P:Program}{t e:TypeId}(hu:P.underlying t=some (.slice e))(A:Option Addr)(n c:Nat)(w:World):(binOp .neq t (.slice A n c) (.slice none 0 0)).run P w=.ok (.bool (!A.isNone)) w:=by
 simp only [binOp];have h:(Op.equal t (.slice A n c) (.slice none 0 0)).run P w=.ok A.isNone w:=by
  unfold Op.equal Op.maxDepth;unfold Op.equalIn;cases A<;>simp [R5 hu]
 simp [h]
def C2W:Bool->BinOp
 | true=>.neq
 | false=>.eql
theorem E1a{P:Program}{t e:TypeId}(hu:P.underlying t=some (.slice e))(neg:Bool)(A:Option Addr)(n c:Nat)(w:World):(binOp (C2W neg) t (.slice A n c) (.slice none 0 0)).run P w=.ok (.bool (Bool.xor neg A.isNone)) w:=by
 cases neg with
 | true=>rw [C2W,D6h hu];simp
 | false=>rw [C2W,D6g hu];simp
theorem C6p{R:Type}{P:Program}{cfg:Cfg}(hc:E8 P cfg){s:St}{neg:Bool}{t:Nat}{x:Operand}{κ:Kp R}{r:R}(h:C7s cfg s neg t x κ=some r)(yt:Nat) :
  OutP P s (.binOp (C2W neg) t x (.const (.slice none 0 0)) yt) κ r:=by
 unfold C7s at h;split at h
 ·rename_i l rx e ex et;split at h
  ·rename_i sl rl ec;have key:∀ (n0:Nat) (w0:World) (Z0:Gh) (s':St) (a:Act) (m:Mem) (o:Oper),o.op=.binOp (C2W neg) t x (.const (.slice none 0 0)) yt->Rel n0 w0 Z0 s' a m->Reads s' (rx++rl)->
     ∃ A:Option Addr,(0<sl.xs.length->A.isNone=false)/\(execOp a.eval o).run P m.w=.ok (.value (.bool (Bool.xor neg A.isNone))) m.w:=by
    intro n0 w0 Z0 s' a m o ho hr hrd;have hro:=B6B ec hr (Reads.app.1 hrd).2 (B5 ex hr (Reads.app.1 hrd).1);obtain ⟨A,c,e1,hl,_,hA⟩:=hro;injection e1 with e1 _
    refine ⟨A,fun hp=>?_,?_⟩
    ·obtain ⟨ad,rfl,_⟩:=hA hp;rfl
    ·have hg:(eqGuard (C2W neg) t x (.const (.slice none 0 0)) (.slice A sl.xs.length c) (.slice none 0 0)).run P m.w=.ok () m.w:=by
      cases neg<;>simp [C2W,eqGuard]
     have he:a.eval (.const (.slice none 0 0))=.slice none 0 0:=rfl;simp [execOp,ho,e1,he,Sem.run_bind,hg,E1a (hc.el et)]
   cases hd:decide (0<sl.xs.length) with
   | true=>
    rw [hd] at h;refine .mk' _ _ h (Reads.app.2 ⟨A6 ex,A1I ec⟩) fun n0 w0 Z0 s' a m oo ho hr hrd=>?_
    obtain ⟨A,hA,hrun⟩:=key n0 w0 Z0 s' a m oo ho hr hrd;rw [hA (of_decide_eq_true hd)] at hrun;exact ⟨_,hrun,by simp [AVC,LfC]⟩
   | false=>
    rw [hd] at h;refine .mk' _ _ h (Reads.app.2 ⟨A6 ex,A1I ec⟩) fun n0 w0 Z0 s' a m oo ho hr hrd=>?_
    obtain ⟨A,hA,hrun⟩:=key n0 w0 Z0 s' a m oo ho hr hrd;exact ⟨_,hrun,_,rfl⟩
  ·cases h
 ·cases h
theorem C9j{w:World}{g:Nat}{cur:Array Value}{e:TypeId}{fz:Nat×Nat}(hg:w.heap[g]? = some (.cells cur e fz))(hf:Thawed cur.size fz) :
  (w.freeze ⟨g,cur.size,none⟩ 1).heap[g]? = some (.cells cur e (cur.size,cur.size+1))/\∀ b,b≠g->(w.freeze ⟨g,cur.size,none⟩ 1).heap[b]? = w.heap[b]?:=by
 unfold World.freeze;rw [if_neg (by decide)];constructor
 ·simp only [Array.getElem?_modify,if_true,hg,Option.map_some];rcases hf with rfl | rfl
  ·simp
  ·simp
 ·intro b hb;simp only [Array.getElem?_modify];rw [if_neg (fun e=>hb e.symm)]
theorem E1b{P:Program}{w:World}{t e:TypeId}{g n c:Nat}{cur:Array Value}{e':TypeId}{fz:Nat×Nat}(ht:P.underlying t=some (.slice e))(he:P.underlying e=some (.int .u8))(hg:w.heap[g]? = some (.cells cur e' fz)) :
  (convert t t (.slice (some ⟨g,0,none⟩) n c)).run P w=.ok (.slice (some ⟨g,0,none⟩) n c) (w.freeze ⟨g,cur.size,none⟩ 1):=by
 have hsh:w.shape? g=some (e',cur.size):=by
  unfold World.shape?;rw [hg]
 simp [convert,run_underlying ht,run_underlying he,markStringish,hsh]
def E3A{R:Type}(cfg:Cfg)(s:St)(d a b:Nat)(x:Operand)(κ:Ke R):Option R:=
 match I0 s x,cfg.el a with
 | some (.one (.own id),rx),some e=>match s.getR id,Nat.beq a b,D2G cfg e with
  | some r,true,some .u8=>bif decide (0<r.xs.length)&&Nat.beq r.k.sz 1 then κ ⟨rx ++ [(.r id,.r r)],[(.t d,some (.t (.one (.own id)))),(.r id,some (.r ⟨r.e,r.k,r.xs,r.ver+1⟩))],[]⟩ else none
  | _,_,_=>none
 | _,_=>none
theorem E1c{R:Type}{P:Program}{cfg:Cfg}(hc:E8 P cfg){s:St}{d a b:Nat}{x:Operand}{κ:Ke R}{r:R}(h:E3A cfg s d a b x κ=some r):OutE P s (.convert a b x) d κ r:=by
 unfold E3A at h;split at h
 ·rename_i id rx e ex et;split at h
  ·rename_i row er eab ek;have eab:=Nat.eq_of_beq_eq_true eab;subst eab;obtain ⟨h0,h⟩:=C6 h;simp only [Bool.and_eq_true] at h0;obtain ⟨h0,hsz1⟩:=h0;have h0:=of_decide_eq_true h0;have hsz1:=Nat.eq_of_beq_eq_true hsz1;have hread:Reads s [(Loc.r id,LV.r row)]:=by
    intro p hp;rw [List.mem_singleton.1 hp];exact St.getR_some.1 er
   refine ⟨_,h,Reads.app.2 ⟨A6 ex,hread⟩,fun n o ho hdst hd w0 Z0 s' ac m hr hrd hnew next Q hn=>?_⟩
   have hrow:s'.get (.r id)=some (.r row):=(Reads.app.1 hrd).2 (Loc.r id,LV.r row) List.mem_cons_self;have hv:LfC s' m (.own id) (ac.eval x):=B5 ex hr (Reads.app.1 hrd).1;have hv:=hv.2 row hrow;obtain ⟨inner,hown,hcol,hels⟩:=hr.rw id row hrow;rcases hown.2 with ⟨_,hn0⟩ | ⟨g,cap,cur,fz,e0,_,hg,hfz,hnc,hcap,hcs,ht⟩
   ·omega
   ·have hk:P.underlying e=some (.int .u8):=C1d hc ek;have hrun:(execOp ac.eval o).run P m.w=.ok (.value (.slice (some ⟨g,0,none⟩) row.xs.length cap)) (m.w.freeze ⟨g,cur.size,none⟩ 1):=by
     have:=E1b (P:=P) (w:=m.w) (n:=row.xs.length) (c:=cap) (hc.el et) hk hg;simp [execOp,ho,hv,e0,this]
    obtain ⟨f1,f2⟩:=C9j hg hfz.1;have hcolg:=hcol g (by rw [e0];rfl);have hother:∀ b,(∀ q,m.Z b≠some (2*id::q))->b≠g:=fun b hq e=>hq [] (by rw [e];exact hcolg)
    have hels':∀ i (hi:i<row.xs.length),Ow row.k (m.w.freeze ⟨g,cur.size,none⟩ 1) m.Z ([2*id] ++ [i]) row.xs[i] ((inner.drop (i*row.k.sz)).take row.k.sz):=by
     intro i hi;refine Ow.move (hels i hi) (fun b q hb _=>⟨f2 b (fun e=>?_),hb⟩) (fun b hb _=>⟨f2 b (fun e=>?_),hb⟩)
     ·rw [e,hcolg] at hb;injection hb with hb
      simp at hb
     ·rw [e,hcolg] at hb;cases hb
    have h2:=hr.updRow (w':=m.w.freeze ⟨g,cur.size,none⟩ 1) hrow (row:=⟨row.e,row.k,row.xs,row.ver+1⟩) (fun b hb hq=>⟨f2 b (hother b hq),rfl⟩) (by simp [World.freeze]) (by simp [World.freeze]) (by simp [World.freeze]) (by simp [World.freeze]) rfl rfl (Nat.lt_succ_self _)
     ⟨inner,⟨hown.1,.inr ⟨g,cap,cur,_,e0,Nat.zero_le _,f1,⟨.inr rfl,.inr hsz1⟩,hnc,hcap,hcs,ht⟩⟩,hcol,hels'⟩
    have h3:=h2.put (d:=d) (v:=.one (.own id)) (x:=.slice (some ⟨g,0,none⟩) row.xs.length cap) hd ⟨rfl,fun r2 hr2=>e0.symm⟩;simp only [Oper.wp,hrun,Oper.upon,hdst];exact hn _ _ h3
  ·cases h
 ·cases h
end Go.Proofs.YthnfghmjipikhaaGreatDoor.Ev
namespace Go.Proofs.YthnfghmjipikhaaGreatDoor.Ev
def L0:(k:K)->k.T->Nat->Option SL
 | .sl e k,xs,0=>some ⟨e,k,xs⟩
 | .pair a b,x,j=>match Nat.blt j a.sz with
  | true=>L0 a x.1 j
  | false=>L0 b x.2 (j-a.sz)
 | _,_,_=>none
def B04:(k:K)->k.T->Nat->(k':K)->List k'.T->Option k.T
 | .sl _ k,_,0,k',ys=>A8g k' k ys
 | .pair a b,x,j,k',ys=>match Nat.blt j a.sz with
  | true=>match B04 a x.1 j k' ys with
   | some z=>some (z,x.2)
   | none=>none
  | false=>match B04 b x.2 (j-a.sz) k' ys with
   | some z=>some (x.1,z)
   | none=>none
 | _,_,_,_,_=>none
def J8:K->Nat->D6
 | .pair a b,j=>match Nat.blt j a.sz with
  | true=>0::J8 a j
  | false=>1::J8 b (j-a.sz)
 | _,_=> []
theorem B7H:∀ {k:K} {x:k.T} {off:Nat} {sl:SL} {w:World} {Z:Col} {P:D6} {cs:List Value},Ow k w Z P x cs->L0 k x off=some sl->
  ∃ v,cs[off]? = some v/\OwL (Ow sl.k w Z) sl.e sl.k.sz w Z (P++J8 k off) sl.xs v
 | .sl e k,xs,0,sl,w,Z,P,cs,h,hg=>by
  simp only [L0] at hg;injection hg with hg;subst hg
  obtain ⟨v,rfl,ho⟩:=h;exact ⟨v,rfl,by simpa [J8] using ho⟩
 | .sl e k,xs,_+1,sl,w,Z,P,cs,h,hg=>by simp [L0] at hg
 | .pair a b,x,j,sl,w,Z,P,cs,h,hg=>by
  obtain ⟨c0,c1,rfl,h0,h1⟩:=h;have hl:=h0.len;simp only [L0] at hg;split at hg
  ·rename_i hb;have hlt:j<a.sz:=by simpa [Nat.blt_eq] using hb
   obtain ⟨v,e1,e2⟩:=B7H h0 hg;refine ⟨v,by rw [List.getElem?_append_left (by omega)];exact e1,?_⟩;simp only [J8,hb];rw [show P++0::J8 a j=P ++ [0]++J8 a j by simp];exact e2
  ·rename_i hb;have hlt:¬ j<a.sz:=fun hh=>by rw [show Nat.blt j a.sz=true from Nat.blt_eq.mpr hh] at hb;cases hb
   obtain ⟨v,e1,e2⟩:=B7H h1 hg;refine ⟨v,by rw [List.getElem?_append_right (by omega),hl];exact e1,?_⟩;simp only [J8,hb];rw [show P++1::J8 b (j-a.sz)=P ++ [1]++J8 b (j-a.sz) by simp];exact e2
 | .int _,_,_,_,_,_,_,_,_,hg=>by simp [L0] at hg
 | .bool,_,_,_,_,_,_,_,_,hg=>by simp [L0] at hg
 | .fnc _,_,_,_,_,_,_,_,_,hg=>by simp [L0] at hg
 | .str,_,_,_,_,_,_,_,_,hg=>by simp [L0] at hg
 | .rs _ _,_,_,_,_,_,_,_,_,hg=>by simp [L0] at hg
 | .pa _ _,_,_,_,_,_,_,_,_,hg=>by simp [L0] at hg
def Others(w w':World)(Z Z':Col)(p:D6):Prop:=∀ b q,Z b=some q->(∀ r,q≠p++r)->b<w.heap.size->w'.heap[b]? = w.heap[b]?/\Z' b=some q
theorem Others.moves{w w':World}{Z Z':Col}{p R:D6}(h:Others w w' Z Z' p)(hne:∀ t r,R++t≠p++r):Moves w w' Z Z' R R:=fun b q hb hlt=>h b _ hb (fun r=>hne q r) hlt
theorem B7I:∀ {k:K} {x x':k.T} {off:Nat} {sl:SL} {w w':World} {Z Z':Col} {P:D6} {cs:List Value} {ys:List sl.k.T} {v:Value},Ow k w Z P x cs->L0 k x off=some sl->cs[off]? = some v->
  OwL (Ow sl.k w' Z') sl.e sl.k.sz w' Z' (P++J8 k off) ys v->Others w w' Z Z' (P++J8 k off)->Keeps w w' Z Z'->B04 k x off sl.k ys=some x'->Ow k w' Z' P x' cs
 | .sl e k,xs,x',0,sl,w,w',Z,Z',P,cs,ys,v,h,hg,hv,ho,hoth,hk,hs=>by
  simp only [L0] at hg;injection hg with hg;subst hg
  obtain ⟨v0,rfl,_⟩:=h;simp only [List.getElem?_cons_zero,Option.some.injEq] at hv;subst hv;simp only [B04] at hs;obtain ⟨ek,rfl⟩:=T0 hs;exact ⟨_,rfl,by simpa [J8] using ho⟩
 | .sl e k,xs,x',_+1,sl,w,w',Z,Z',P,cs,ys,v,h,hg,hv,ho,hoth,hk,hs=>by simp [L0] at hg
 | .pair a b,x,x',j,sl,w,w',Z,Z',P,cs,ys,v,h,hg,hv,ho,hoth,hk,hs=>by
  obtain ⟨c0,c1,rfl,h0,h1⟩:=h;have hl:=h0.len;simp only [L0] at hg;simp only [B04] at hs;split at hg
  ·rename_i hb;have hlt:j<a.sz:=by simpa [Nat.blt_eq] using hb
   rw [hb] at hs;simp only at hs;split at hs
   ·rename_i z hz;injection hs with hs;subst hs
    have e:P++J8 (.pair a b) j=P ++ [0]++J8 a j:=by simp [J8,hb]
    rw [e] at ho hoth;rw [List.getElem?_append_left (by omega)] at hv;refine ⟨c0,c1,rfl,B7I h0 hg hv ho hoth hk hz,Ow.move h1 (hoth.moves fun t r hh=>?_) hk⟩;rw [List.append_assoc,List.append_assoc,List.append_assoc] at hh;have:=List.append_cancel_left hh;simp at this
   ·cases hs
  ·rename_i hb;have hlt:¬ j<a.sz:=fun hh=>by rw [show Nat.blt j a.sz=true from Nat.blt_eq.mpr hh] at hb;cases hb
   rw [hb] at hs;simp only at hs;split at hs
   ·rename_i z hz;injection hs with hs;subst hs
    have e:P++J8 (.pair a b) j=P ++ [1]++J8 b (j-a.sz):=by simp [J8,hb]
    rw [e] at ho hoth;rw [List.getElem?_append_right (by omega),hl] at hv;refine ⟨c0,c1,rfl,Ow.move h0 (hoth.moves fun t r hh=>?_) hk,B7I h1 hg hv ho hoth hk hz⟩;rw [List.append_assoc,List.append_assoc,List.append_assoc] at hh;have:=List.append_cancel_left hh;simp at this
   ·cases hs
 | .int _,_,_,_,_,_,_,_,_,_,_,_,_,_,hg,_,_,_,_,_=>by simp [L0] at hg
 | .bool,_,_,_,_,_,_,_,_,_,_,_,_,_,hg,_,_,_,_,_=>by simp [L0] at hg
 | .fnc _,_,_,_,_,_,_,_,_,_,_,_,_,_,hg,_,_,_,_,_=>by simp [L0] at hg
 | .str,_,_,_,_,_,_,_,_,_,_,_,_,_,hg,_,_,_,_,_=>by simp [L0] at hg
 | .rs _ _,_,_,_,_,_,_,_,_,_,_,_,_,_,hg,_,_,_,_,_=>by simp [L0] at hg
 | .pa _ _,_,_,_,_,_,_,_,_,_,_,_,_,_,hg,_,_,_,_,_=>by simp [L0] at hg
theorem Rel.updRowC{n:Nat}{w0:World}{Z0:Gh}{s:St}{a:Act}{m:Mem}(h:Rel n w0 Z0 s a m){id:Nat}{r row:Row}(hrow:s.get (.r id)=some (.r r)){w':World}{Z1:Col}
  (hO:Only m.w w' m.Z Z1 (2*id)) (hs:m.w.heap.size<=w'.heap.size) (os:w'.os=m.w.os) (tp:w'.tape=m.w.tape) (ou:w'.output=m.w.output)
  (hsz:row.k.sz=r.k.sz) (hlen:row.xs.length=r.xs.length) (hver:r.ver<row.ver)
  (ho:OwL (Ow row.k w' Z1) row.e row.k.sz w' Z1 [2*id] row.xs (m.ρ id)) :
  Rel n w0 Z0 ((.r id,some (.r row))::s) a ⟨w',Z1,m.ρ,m.β⟩:=by
 have hget:∀ l,l≠.r id->St.get ((.r id,some (.r row))::s) l=s.get l:=fun l hl=>St.get_cons_ne (Ne.symm hl) _ _
 have hX:Ext s m ((.r id,some (.r row))::s) ⟨w',Z1,m.ρ,m.β⟩ (Live s):=by
  refine ⟨hO.keeps,fun id' r' hL hr=>?_,fun b c' _ hc=>⟨c',by rwa [hget _ (by simp)] at hc,rfl⟩,fun q i _ hi=>by rwa [hget _ (by simp)] at hi⟩;by_cases hid:id' = id
  ·subst hid;rw [St.get_cons_same] at hr;injection hr with hr;injection hr with hr;subst hr
   exact ⟨r,hrow,rfl,hsz,hlen,Nat.le_of_lt hver,fun e=>by omega,fun e=>by omega⟩
  ·rw [hget _ (by simpa using hid)] at hr;refine ⟨r',hr,rfl,rfl,rfl,Nat.le_refl _,fun _ hn j v hcell=>?_,fun _=>hO.moves (by omega) []⟩;obtain ⟨hcol,hlt⟩:=A7G (h.rw id' r' hr) hn;refine (World.cell?_of_block ?_).trans hcell;rw [add_block];exact (hO _ hlt (fun q hq=>by rw [hcol] at hq;injection hq with hq;injection hq with hq _;omega)).1
 refine h.change (fun i=>hget _ (by simp)) hX (fun id' r' hr=>?_) (fun b c hc=>?_) hO.fore hs os tp ou (fun id' r' _ _ hg=>by
  by_cases hid:id' = id
  ·subst hid;exact ⟨⟨r,hrow⟩,rfl⟩
  ·exact ⟨⟨r',by rwa [hget _ (by simpa using hid)] at hg⟩,rfl⟩) (fun b c hg=>.inl ⟨⟨c,by rwa [hget _ (by simp)] at hg⟩,rfl⟩)
 ·by_cases hid:id' = id
  ·subst hid;rw [St.get_cons_same] at hr;injection hr with hr;injection hr with hr;subst hr
   exact ho
  ·rw [hget _ (by simpa using hid)] at hr;exact (h.rw id' r' hr).move (hO.moves (by omega) []) hO.keeps
 ·rw [hget _ (by simp)] at hc;obtain ⟨cs',h3,h4,h5,h6⟩:=h.bx b c hc;have hlt:(m.β b).g<m.w.heap.size:=(Array.getElem?_eq_some_iff.1 h6).1;obtain ⟨e1,e2⟩:=hO _ hlt (fun q hq=>by rw [h5] at hq;injection hq with hq;injection hq with hq _;omega);exact ⟨cs',All2.imp (fun l hm x hb=>hb.ext (hX.sub fun q hq=>⟨.b b,.b c,hc,List.mem_flatMap.2 ⟨l,hm,hq⟩⟩)) h3,h4,e2.trans h5,e1.trans h6⟩
def A9G:D6->D6->Option D6
 | [],q=>some q
 | a::p,b::q=>match Nat.beq a b with
  | true=>A9G p q
  | false=>none
 | _::_,[]=>none
theorem C2a:∀ (p q:D6),A9G p (p++q)=some q
 | [],q=>rfl
 | a::p,q=>by simp only [List.cons_append,A9G,Nat.beq_refl];exact C2a p q
theorem B9t:∀ {p q r:D6},A9G p q=some r->q=p++r
 | [],q,r,h=>by simp only [A9G] at h;injection h with h
 | a::p,b::q,r,h=>by
  simp only [A9G] at h;split at h
  ·rename_i hb;rw [Nat.eq_of_beq_eq_true hb,B9t h];rfl
  ·cases h
 | _::_,[],r,h=>by simp [A9G] at h
def A6t(p:D6)(R:Nat)(Z:Col):Col:=fun b=>match Z b with
 | none=>none
 | some q=>match A9G p q with
  | some r=>some (R::r)
  | none=>some []
def B7J(p:D6)(R:Nat):Option D6->Option D6
 | some (r::q)=>match Nat.beq r R with
  | true=>some (p++q)
  | false=>none
 | _=>none
def B7K(n:Nat)(p:D6)(R:Nat)(Z Zc Z':Col):Col:=fun b=>match Zc b with
 | some (_::_)=>B7J p R (Z' b)
 | _=>match Nat.blt b n with
  | true=>Z b
  | false=>B7J p R (Z' b)
def D5G:(ps:List PK)->List AV->Option (Ts (ins ps))
 | [],[]=>some ()
 | .val false (.int κ) false::ps,.one (.int κ' n)::vs=>match decide (κ=κ'),D5G ps vs with
  | true,some y=>some (n,y)
  | _,_=>none
 | _,_=>none
theorem C9k{s:St}{m:Mem}{w:World}{Z:Col}{pls:Nat->Plc}:∀ {ps:List PK} {vs:List AV} {y:Ts (ins ps)} {us:List Value} (i:Nat),D5G ps vs=some y->All2 (AVC s m) vs us->GI w Z->ArgsC w Z pls i ps y us
 | [],[],_,us,i,h,hv,hg=>by
  cases us with
  | nil=>exact ⟨rfl,hg⟩
  | cons _ _=>exact hv.elim
 | .val false (.int κ) false::ps,.one (.int κ' n)::vs,y,us,i,h,hv,hg=>by
  simp only [D5G] at h;split at h
  ·rename_i y' hk hy;have hk:=of_decide_eq_true hk;subst hk;injection h with h;subst h
   cases us with
   | nil=>exact hv.elim
   | cons u us=>
    have hu:u=.int κ n:=hv.1;subst hu;exact ⟨[.int κ n],us,rfl,rfl,.inr rfl,C9k (i+1) hy hv.2 hg⟩
  ·cases h
def A9H:(k:K)->k.T->Option Lf
 | .int κ,n=>some (.int κ n)
 | .bool,b=>some (.bool b)
 | .str,s=>some (.str s)
 | _,_=>none
theorem D6i{k:K}{x:k.T}{l:Lf}(h:A9H k x=some l){w:World}{Z:Col}{base:Nat}{cs:List Value}(hc:LvC w Z base k x cs):∃ v,cs = [v]/\∀ (s:St) (m:Mem),LfC s m l v:=by
 cases k with
 | int κ=>simp only [A9H] at h;injection h with h;subst h;exact ⟨_,hc,fun _ _=>rfl⟩
 | bool=>simp only [A9H] at h;injection h with h;subst h;exact ⟨_,hc,fun _ _=>rfl⟩
 | fnc f=>simp [A9H] at h
 | str=>simp only [A9H] at h;injection h with h;subst h;exact ⟨_,hc,fun _ _=>rfl⟩
 | sl e k=>simp [A9H] at h
 | rs e k=>simp [A9H] at h
 | pa n k=>simp [A9H] at h
 | pair a b=>simp [A9H] at h
def D2k(vs:List AV):Option (Nat×Nat×Nat×Nat×List AV):=match vs with
 | .one (.sub id q off ver)::vs=>some (id,q,off,ver,vs)
 | _=>none
def E3l(Γ:List (Nat×Fn))(s:St)(f:Nat)(args:List Operand):Bool:=match B9r Γ f,B3D s args with
 | some ⟨.val false (.sl _ _) true::_,_,_⟩,some (vs,_)=>(D2k vs).isSome
 | _,_=>false
def D8w{R:Type}(Γ:List (Nat×Fn))(s:St)(d f:Nat)(args:List Operand)(κ:Ke R):Option R:=
 match B9r Γ f,B3D s args with
 | some ⟨.val false (.sl e k) true::ps,[.val false kr],fn⟩,some (vs,rx)=>match D2k vs with
  | some (id,q,off,ver,vs')=>match s.getR id,s.getX q,D5G ps vs' with
   | some r,some i,some y=>match Nat.beq r.ver ver,L0 r.k (rd r.k r.xs i) off with
    | true,some sl=>match Nat.beq sl.e e,A8g sl.k k sl.xs with
     | true,some xs=>A4 (fn (xs,y)) fun z=>match B04 r.k (rd r.k r.xs i) off k z.2.1,A9H kr z.1 with
      | some x',some l=>κ ⟨rx ++ [(.r id,.r r),(.x q,.x i)],[(.t d,some (.t (.one l))),(.r id,some (.r ⟨r.e,r.k,r.xs.set i.toNat x',r.ver+1⟩))],[]⟩
      | _,_=>none
     | _,_=>none
    | _,_=>none
   | _,_,_=>none
  | none=>none
 | _,_=>none
theorem D90{R:Type}{P:Program}{Γ:List (Nat×Fn)}(hΓ:A2o P Γ){s:St}{d f:Nat}(hf:Nat.blt f 1000000=true){args:List Operand}{κ:Ke R}{r:R}(h:D8w Γ s d f args κ=some r)(at':Array TypeId) :
  OutE P s (.call {callee:=.value (.func f),args:=args.toArray,argTypes:=at'}) d κ r:=by
 unfold D8w at h;split at h
 ·rename_i e k ps kr fn vs rx hF hvs;split at h
  ·rename_i id q off ver vs' hsub;obtain rfl:vs=.one (.sub id q off ver)::vs':=by
    unfold D2k at hsub;split at hsub
    ·injection hsub with hsub;injection hsub with h1 h2;injection h2 with h2 h3;injection h3 with h3 h4;injection h4 with h4 h5
     subst h1;subst h2;subst h3;subst h4;subst h5;rfl
    ·cases hsub
   split at h
   ·rename_i row i y er eq ey;split at h
    ·rename_i sl ever esl;have ever:=Nat.eq_of_beq_eq_true ever;split at h
     ·rename_i xs ee ecast;have ee:=Nat.eq_of_beq_eq_true ee;obtain ⟨ek,rfl⟩:=T0 ecast;obtain ⟨se,sk,sxs⟩:=sl;simp only at ee ek esl;subst ee;subst ek;obtain ⟨z,hz,h⟩:=A1o h;split at h
      ·rename_i x' l hset hprim;have hread:Reads s [(Loc.r id,LV.r row),(Loc.x q,LV.x i)]:=by
        intro p hp;rcases List.mem_cons.1 hp with rfl | hp
        ·exact St.getR_some.1 er
        ·rw [List.mem_singleton.1 hp];exact St.getX_some.1 eq
       obtain ⟨hent,hsound⟩:=C6m hΓ hf (B4m hF);refine ⟨_,h,Reads.app.2 ⟨A5w hvs,hread⟩,fun n o ho hdst hd w0 Z0 s' a m hr hrd hnew next Q hn=>?_⟩
       clear h
       obtain ⟨hrd1,hrd2⟩:=Reads.app.1 hrd;have hvals:=B3E hr hvs hrd1;have hrow:s'.get (.r id)=some (.r row):=hrd2 (Loc.r id,LV.r row) List.mem_cons_self;have hxq:s'.get (.x q)=some (.x i):=hrd2 (Loc.x q,LV.x i) (List.mem_cons_of_mem _ List.mem_cons_self);generalize hus:args.map a.eval=us at hvals;cases us with
       | nil=>exact hvals.elim
       | cons v us=>
        have hv:LfC s' m (.sub id q off ver) v:=hvals.1;obtain ⟨hi0,hi1,hoff,hcell⟩:=(hv.2 row i hrow hxq).2 ever;obtain ⟨inner,hown,hcol,hels⟩:=hr.rw id row hrow;rcases hown.2 with ⟨_,hn0⟩ | ⟨g,cap,cur,fz,e0,_,hg,hfz,hnc,hcap,hcs,ht⟩
        ·omega
        ·have hcolg:=hcol g (by rw [e0];rfl);have hel:=hels i.toNat hi1;rw [<- A9r hi1] at hel;obtain ⟨v',hv',hosl⟩:=B7H hel esl;have hvv:v' = v:=by
          have hlt:off<row.k.sz:=hoff;have h1:inner[i.toNat*row.k.sz+off]? = some v':=by
           rw [List.getElem?_take_of_lt hlt,List.getElem?_drop] at hv';exact hv'
          have h2:=S8 hown (g:=g) (by rw [e0];rfl) _ _ h1;rw [e0,M1] at hcell;rw [h2] at hcell;injection hcell
         subst hvv;generalize hp : [2*id] ++ [i.toNat]++J8 row.k off=p at hosl;have hp2:∃ p',p=2*id::i.toNat::p':=⟨J8 row.k off,by rw [<- hp];simp⟩
         let Zc:=A6t p (2*1000) m.Z
         have hm1:Moves m.w m.w m.Z Zc p [2*1000]:=fun b t hb _=>⟨rfl,by show A6t p (2*1000) m.Z b=_;simp only [A6t,hb,C2a];rfl⟩
         have hk1:Keeps m.w m.w m.Z Zc:=fun b hb _=>⟨rfl,by show A6t p (2*1000) m.Z b=_;simp only [A6t,hb]⟩
         have hargs:ArgsC m.w Zc (fun _=>⟨0,0,[],[]⟩) 0 (.val false (.sl se sk) true::ps) (sxs,y) (v'::us):=
          ⟨[v'],us,rfl,⟨v',rfl,hosl.move hm1 hk1⟩,.inr rfl,C9k 1 ey hvals.2 (hr.gi.keep hk1)⟩
         have hcalls:=hsound (sxs,y) z hz m.w Zc _ _ hargs;have hrun:(execOp a.eval o).run P m.w=.ok (.enter f (v'::us).toArray) m.w:=by
          have he:=hent (args.map a.eval).toArray m.w;have:(execOp a.eval o)=callFunc f ((args.map a.eval).toArray):=by
           simp [execOp,ho,resolve,invoke,Act.eval,Deferred.ofValue]
          rw [this,<- hus];exact he
         simp only [Oper.wp,hrun,Oper.upon,hdst];refine hcalls.mono fun ex w' hpost=>?_
         obtain ⟨Z',rv,rfl,hk,hf,hl,hout⟩:=hpost;show next (a.put (some d) (pack rv)) w'
         obtain ⟨cs,rr,rfl,hres,_,hout2⟩:=hout;obtain ⟨rfl,hkept⟩:=hout2;obtain ⟨cs',r',hcs',hnew',_,_⟩:=hkept;obtain ⟨u,rfl,hnew'⟩:=hnew';have huv:u=v':=by
          simp only [toV] at hcs';injection hcs' with hcs' _
          exact hcs'.symm
         subst huv;obtain ⟨vr,rfl,hvr⟩:=D6i hprim hres
         let Z1:=B7K m.w.heap.size p (2*1000) m.Z Zc Z'
         have hZ1:∀ b,Z1 b=B7K m.w.heap.size p (2*1000) m.Z Zc Z' b:=fun _=>rfl
         have hback:∀ b t,Z' b=some (2*1000::t)->Z1 b=some (p++t):=by
          intro b t hb;rw [hZ1];unfold B7K;split
          ·rw [hb];simp [B7J]
          ·rename_i hne;split
           ·rename_i hbl;have hlt:b<m.w.heap.size:=Nat.blt_eq.mp hbl;cases hc:Zc b with
            | none=>have:=(hk b hc hlt).2;rw [hb] at this;cases this
            | some qq=>
             cases qq with
             | nil=>have:=(hf b hc hlt).2;rw [hb] at this;cases this
             | cons r0 q0=>exact absurd hc (hne r0 q0)
           ·rw [hb];simp [B7J]
         have hnoneB:∀ b,Z' b=none->Z1 b=none:=by
          intro b hb;rw [hZ1];unfold B7K;split
          ·rw [hb];rfl
          ·rename_i hne;split
           ·rename_i hbl;have hlt:b<m.w.heap.size:=Nat.blt_eq.mp hbl;cases hc:Zc b with
            | none=>
             have:A6t p (2*1000) m.Z b=none:=hc;unfold A6t at this;split at this
             ·assumption
             ·split at this<;>cases this
            | some qq=>
             cases qq with
             | nil=>have:=(hf b hc hlt).2;rw [hb] at this;cases this
             | cons r0 q0=>exact absurd hc (hne r0 q0)
           ·rw [hb];rfl
         have hkeep:Keeps m.w w' m.Z Z1:=by
          intro b hb hlt;have hc:Zc b=none:=(hk1 b hb hlt).2;obtain ⟨e1,e2⟩:=hk b hc hlt;exact ⟨e1,hnoneB b e2⟩
         have hoth:Others m.w w' m.Z Z1 p:=by
          intro b qq hb hne hlt;have hst:A9G p qq=none:=by
           cases hs:A9G p qq with
           | none=>rfl
           | some t=>exact absurd (B9t hs) (hne t)
          have hc:Zc b=some []:=by show A6t p (2*1000) m.Z b=_;simp only [A6t,hb,hst]
          refine ⟨(hf b hc hlt).1,?_⟩;rw [hZ1];unfold B7K;rw [hc];simp only;rw [show Nat.blt b m.w.heap.size=true from Nat.blt_eq.mpr hlt];exact hb
         have hO:Only m.w w' m.Z Z1 (2*id):=by
          intro b hlt hq;cases hb:m.Z b with
          | none=>exact ⟨(hkeep b hb hlt).1,(hkeep b hb hlt).2⟩
          | some qq=>
           obtain ⟨p',hp'⟩:=hp2;have:=hoth b qq hb (fun t ht=>hq (i.toNat::(p'++t)) (by rw [hb,ht,hp'];rfl)) hlt;exact ⟨this.1,this.2⟩
         have hmB:Moves w' w' Z' Z1 [2*1000] p:=fun b t hb _=>⟨rfl,hback b t hb⟩
         have hkB:Keeps w' w' Z' Z1:=fun b hb _=>⟨rfl,hnoneB b hb⟩
         have hnewO:OwL (Ow sk w' Z1) se sk.sz w' Z1 p z.2.1 u:=OwL.move hnew' hmB hkB;have hgsame:w'.heap[g]? = m.w.heap[g]?:=(hoth g [2*id] hcolg (fun t ht=>by obtain ⟨p',hp'⟩:=hp2;rw [hp'] at ht;simp at ht) (Array.getElem?_eq_some_iff.1 hg).1).1;have hcolg1:Z1 g=some [2*id]:=(hoth g [2*id] hcolg (fun t ht=>by obtain ⟨p',hp'⟩:=hp2;rw [hp'] at ht;simp at ht) (Array.getElem?_eq_some_iff.1 hg).1).2;have helsNew:∀ j (hj:j<(row.xs.set i.toNat x').length),Ow row.k w' Z1 ([2*id] ++ [j]) ((row.xs.set i.toNat x')[j]) ((inner.drop (j*row.k.sz)).take row.k.sz):=by
          intro j hj;have hj':j<row.xs.length:=by simpa using hj
          by_cases hji:j=i.toNat
          ·subst hji;rw [List.getElem_set_self];exact B7I (sl:=⟨se,sk,sxs⟩) hel esl hv' (by rw [hp];exact hnewO) (by rw [hp];exact hoth) hkeep hset
          ·rw [List.getElem_set_ne (by omega)];refine Ow.move (hels j hj') (hoth.moves fun t r hh=>?_) hkeep;obtain ⟨p',hp'⟩:=hp2;rw [hp'] at hh;simp at hh;exact hji hh.1
         have h2:=hr.updRowC (Z1:=Z1) hrow hO hl.size hl.os hl.tape hl.output (row:=⟨row.e,row.k,row.xs.set i.toNat x',row.ver+1⟩) rfl (by simp) (Nat.lt_succ_self _)
          ⟨inner,A9q (by simpa using hown) (fun g' hg'=>by
           have:g' = g:=by
            rw [e0] at hg';simp only [Value.ownBlock] at hg';injection hg' with hg';exact hg'.symm
           rw [this];exact hgsame),fun g' hg'=>by
           have:g' = g:=by
            rw [e0] at hg';simp only [Value.ownBlock] at hg';injection hg' with hg';exact hg'.symm
           rw [this];exact hcolg1,helsNew⟩
         have h3:=h2.put (d:=d) (v:=.one l) (x:=vr) hd (hvr _ _);exact hn _ _ h3
      ·cases h
     ·cases h
    ·cases h
   ·cases h
  ·cases h
 ·cases h
def E3B{R:Type}(Γ:List (Nat×Fn))(s:St)(d f:Nat)(args:List Operand)(κ:Ke R):Option R:=
 match Nat.blt f 1000000 with
 | true=>D8w Γ s d f args κ
 | false=>none
theorem E1d{R:Type}{P:Program}{Γ:List (Nat×Fn)}(hΓ:A2o P Γ){s:St}{d f:Nat}{args:List Operand}{κ:Ke R}{r:R}(h:E3B Γ s d f args κ=some r)(at':Array TypeId) :
  OutE P s (.call {callee:=.value (.func f),args:=args.toArray,argTypes:=at'}) d κ r:=by
 unfold E3B at h;split at h
 ·rename_i hf;exact D90 hΓ hf h at'
 ·cases h
end Go.Proofs.YthnfghmjipikhaaGreatDoor.Ev
namespace Go.Proofs.YthnfghmjipikhaaGreatDoor.Ev
def E2P(ts:List (Loc×LV))(id:Nat)(row:Row)(rd:Rds):Rds:=ts++(.r id,.r row)::rd.filter fun p=>!(ts.any fun t=>Loc.eqb t.1 p.1)
theorem C7t{ts:List (Loc×LV)}{id:Nat}{row:Row}{s:St}{l:Loc}(h1:∀ t∈ts,l≠t.1)(h2:l≠.r id):St.get (frz ts id row++s) l=s.get l:=by
 unfold frz
 induction ts with
 | nil=>exact St.get_cons_ne (Ne.symm h2) _ _
 | cons t ts ih=>
  have:=ih (fun t' hm=>h1 t' (List.mem_cons_of_mem _ hm));simp only [List.map_cons,List.cons_append,roT];rw [St.get_cons_ne (Ne.symm (h1 t List.mem_cons_self))];exact this
theorem C2b{ts:List (Loc×LV)}{id:Nat}{row:Row}{s:St}(hT:∀ t∈ts,t.1≠.r id):St.get (frz ts id row++s) (.r id)=none:=by
 unfold frz
 induction ts with
 | nil=>exact St.get_cons_same _ _ _
 | cons t ts ih=>
  simp only [List.map_cons,List.cons_append,roT];rw [St.get_cons_ne (hT t List.mem_cons_self)];exact ih (fun t hm=>hT t (List.mem_cons_of_mem _ hm))
theorem E3C{ts:List (Loc×LV)}{id:Nat}{row:Row}{s:St}{l:Loc}(h:∃ t∈ts,l=t.1):∃ t∈ts,l=t.1/\St.get (frz ts id row++s) l=some (t.2.fz id row):=by
 unfold frz
 induction ts with
 | nil=>obtain ⟨t,hm,_⟩:=h;cases hm
 | cons t' ts ih=>
  simp only [List.map_cons,List.cons_append,roT];by_cases e:l=t'.1
  ·subst e;exact ⟨t',List.mem_cons_self,rfl,St.get_cons_same _ _ _⟩
  ·rw [St.get_cons_ne (Ne.symm e)];obtain ⟨t,hm,e2⟩:=h;rcases List.mem_cons.1 hm with e3 | hm
   ·subst e3;exact absurd e2 e
   ·obtain ⟨t2,hm2,e4,e5⟩:=ih ⟨t,hm,e2⟩;exact ⟨t2,List.mem_cons_of_mem _ hm2,e4,e5⟩
theorem C7u{id:Nat}{row:Row}{l:Lf}{x:Loc}(h:x∈(l.fz id row).men):x∈l.men:=by
 cases l with
 | own i=>
  simp only [Lf.fz] at h;cases e:Nat.beq i id with
  | true=>rw [e] at h;simp [Lf.men] at h
  | false=>rw [e] at h;exact h
 | _=>exact h
theorem D91{id:Nat}{row:Row}{v:AV}{x:Loc}(h:x∈(v.fz id row).men):x∈v.men:=by
 cases v with
 | one l=>exact C7u h
 | agg ls=>
  simp only [AV.fz,AV.men,List.mem_flatMap,List.mem_map] at h ⊢;obtain ⟨_,⟨l,hl,rfl⟩,hx⟩:=h;exact ⟨l,hl,C7u hx⟩
 | tup ps=>
  simp only [AV.fz,AV.men,List.mem_flatMap,List.mem_map] at h ⊢;obtain ⟨_,⟨p,hp,rfl⟩,l',hl',hx⟩:=h;obtain ⟨l,hl,rfl⟩:=List.mem_map.1 hl';exact ⟨p,hp,l,hl,C7u hx⟩
 | und=>exact h
theorem D92{id:Nat}{row:Row}{v:LV}{x:Loc}(h:x∈(v.fz id row).men):x∈v.men:=by
 cases v with
 | t v=>exact D91 h
 | b c=>
  simp only [LV.fz,LV.men,List.mem_flatMap,List.mem_map] at h ⊢;obtain ⟨_,⟨l,hl,rfl⟩,hx⟩:=h;exact ⟨l,hl,C7u hx⟩
 | r _=>exact h
 | x _=>exact h
theorem E1e{id:Nat}{row:Row}{s s':St}{ts:List (Loc×LV)}{l:Loc}(he:∃ t∈ts,l=t.1):St.get (Ev.frz ts id row++s') l=St.get (Ev.frz ts id row++s) l:=by
 unfold Ev.frz
 induction ts with
 | nil=>obtain ⟨t,hm,_⟩:=he;cases hm
 | cons t ts ih=>
  simp only [List.map_cons,List.cons_append,roT];by_cases e:l=t.1
  ·subst e;rw [St.get_cons_same,St.get_cons_same]
  ·rw [St.get_cons_ne (Ne.symm e),St.get_cons_ne (Ne.symm e)];obtain ⟨t',hm,e'⟩:=he;rcases List.mem_cons.1 hm with e2 | hm
   ·subst e2;exact absurd e' e
   ·exact ih ⟨t',hm,e'⟩
theorem OutG.frz{R:Type}{P:Program}{s:St}{op:Op}{d:Option Nat}{κ:Ke R}{r:R}{ts:List (Loc×LV)}{id:Nat}{row:Row}(hT:∀ t∈ts,TB t)(ht:∀ t∈ts,s.get t.1=some t.2)(hr:s.getR id=some row)
  (h:OutG P (Ev.frz ts id row++s) op d (fun δ=>κ ⟨E2P ts id row δ.rd,δ.wr++Ev.frz ts id row,δ.new⟩) r):OutG P s op d κ r:=by
 obtain ⟨δ,h1,h2,h3⟩:=h;have hr:=St.getR_some.1 hr;have hTn:∀ t∈ts,t.1≠.r id:=fun t hm=>(hT t hm).ne id
 have hany:∀ {p:Loc×LV},(!(ts.any fun t=>Loc.eqb t.1 p.1))=true↔∀ t∈ts,p.1≠t.1:=by
  intro p;simp only [Bool.not_eq_true',List.any_eq_false];exact ⟨fun h t hm e=>h t hm (Loc.eqb_iff.2 e.symm),fun h t hm e=>h t hm (Loc.eqb_iff.1 e).symm⟩
 refine ⟨_,h1,fun p hp=>?_,fun n o ho hd hlt=>?_⟩
 ·rcases List.mem_append.1 hp with hp | hp
  ·exact ht p hp
  ·rcases List.mem_cons.1 hp with e | hp
   ·subst e;exact hr
   ·obtain ⟨hp,hq⟩:=List.mem_filter.1 hp;have hg:=h2 p hp;have hn2:p.1≠.r id:=fun e=>by rw [e,C2b hTn] at hg;cases hg
    rwa [C7t (hany.1 hq) hn2] at hg
 ·intro w0 Z0 s' a m hrel hrd hnew next Q hn
  have ht':∀ t∈ts,s'.get t.1=some t.2:=fun t hm=>hrd t (List.mem_append_left _ hm)
  have hr':=hrd (Loc.r id,LV.r row) (List.mem_append_right _ List.mem_cons_self);obtain ⟨Z',hrel'⟩:=hrel.frz hT ht' hr';have hsame:=fun l he=>E1e (id:=id) (row:=row) (s:=s) (s':=s') (ts:=ts) (l:=l) he
  refine h3 n o ho hd hlt w0 Z0 _ a ⟨m.w,Z',m.ρ,m.β⟩ hrel' (fun p hp=>?_) (fun l hl hlive=>hnew l hl ?_) next Q (fun a' m' hm=>hn a' m' (by rw [List.append_assoc];exact hm))
  ·have hg:=h2 p hp;have hn2:p.1≠.r id:=fun e2=>by rw [e2,C2b hTn] at hg;cases hg
   by_cases e:∃ t∈ts,p.1=t.1
   ·rw [hsame _ e];exact hg
   ·have hne:∀ t∈ts,p.1≠t.1:=fun t hm h=>e ⟨t,hm,h⟩
    rw [C7t hne hn2];exact hrd p (List.mem_append_right _ (List.mem_cons_of_mem _ (List.mem_filter.2 ⟨hp,hany.2 hne⟩)))
  ·obtain ⟨l',lv,hg,hm⟩:=hlive;have hn2:l'≠.r id:=fun e2=>by rw [e2,C2b hTn] at hg;cases hg
   by_cases e:∃ t∈ts,l' = t.1
   ·obtain ⟨t,hmt,e3,hg2⟩:=E3C (id:=id) (row:=row) (s:=s') e;rw [hg2] at hg;injection hg with hg;subst hg
    exact ⟨t.1,t.2,ht' t hmt,D92 hm⟩
   ·rw [C7t (fun t hm h=>e ⟨t,hm,h⟩) hn2] at hg;exact ⟨l',lv,hg,hm⟩
def K.rsl:K->List Bool
 | .rs _ _=> [true]
 | .pair a b=>a.rsl++b.rsl
 | _=> [false]
def A4Q(s:St):List Bool->List Lf->Option (Nat×Row)
 | true::bs,.own id::ls=>match s.getR id with
  | some row=>some (id,row)
  | none=>A4Q s bs ls
 | _::bs,_::ls=>A4Q s bs ls
 | _,_=>none
theorem A9I{s:St}{id:Nat}{row:Row}:∀ {bs:List Bool} {ls:List Lf},A4Q s bs ls=some (id,row)->s.getR id=some row:=by
 intro bs
 induction bs with
 | nil=>intro ls h;simp [A4Q] at h
 | cons b bs ih=>
  intro ls h;cases ls with
  | nil=>simp [A4Q] at h
  | cons l ls=>
   unfold A4Q at h;split at h
   ·rename_i e1 e2;injection e1 with e11 e1;injection e2 with e21 e2;subst e1;subst e2
    split at h
    ·rename_i row' hr;injection h with h;injection h with h3 h4
     subst h3;subst h4;exact hr
    ·exact ih h
   ·rename_i e1 e2;injection e1 with _ e1;injection e2 with _ e2;subst e1;subst e2
    exact ih h
   ·cases h
def B3G(s:St):List PK->List Operand->Option (Nat×Row)
 | .val _ k _::ps,.tmp t::xs=>match (match s.getT t with
  | some (.one l)=>A4Q s k.rsl [l]
  | some (.agg ls)=>A4Q s k.rsl ls
  | _=>none) with
  | some r=>some r
  | none=>B3G s ps xs
 | .ptr k::ps,.tmp t::xs=>match (match s.getT t with
  | some (.one (.ptr b off))=>match s.getB b with
   | some c=>A4Q s k.rsl (c.drop off)
   | none=>none
  | _=>none) with
  | some r=>some r
  | none=>B3G s ps xs
 | _::ps,_::xs=>B3G s ps xs
 | _,_=>none
theorem C9l{s:St}{id:Nat}{row:Row}:∀ {ps:List PK} {xs:List Operand},B3G s ps xs=some (id,row)->s.getR id=some row:=by
 intro ps xs h
 induction ps generalizing xs with
 | nil=>simp [B3G] at h
 | cons p ps ih=>
  cases xs with
  | nil=>simp [B3G] at h
  | cons x xs=>
   unfold B3G at h;split at h
   ·rename_i e1 e2;injection e1 with _ e1;injection e2 with _ e2;subst e1;subst e2
    split at h
    ·rename_i r hr;injection h with h;subst h
     split at hr
     ·exact A9I hr
     ·exact A9I hr
     ·cases hr
    ·exact ih h
   ·rename_i e1 e2;injection e1 with _ e1;injection e2 with _ e2;subst e1;subst e2
    split at h
    ·rename_i r hr;injection h with h;subst h
     split at hr
     ·split at hr
      ·exact A9I hr
      ·cases hr
     ·cases hr
    ·exact ih h
   ·rename_i e1 e2;injection e1 with _ e1;injection e2 with _ e2;subst e1;subst e2
    exact ih h
   ·cases h
def Fn.shares(F:Fn):Bool:=!(F.res.all (fun r=>r.k.noRs)&&B3C K.noRs F.ps)
def D5H(Γ:List (Nat×Fn))(s:St)(f:Nat)(args:List Operand):Option (Nat×Row):=match B9r Γ f with
 | some F=>match F.shares with
  | true=>B3G s F.ps args
  | false=>none
 | none=>none
def C2c{R:Type}(cfg:Cfg)(Γ:List (Nat×Fn))(d:Option Nat)(f:Nat)(args:List Operand):Nat->St->Ke R->Option R
 | 0,s,κ=>D5F cfg Γ s d f args κ
 | n+1,s,κ=>match D5H Γ s f args with
  | some (id,row)=>C2c cfg Γ d f args n (frz (C2O s id) id row++s) fun δ=>κ ⟨E2P (C2O s id) id row δ.rd,δ.wr++frz (C2O s id) id row,δ.new⟩
  | none=>D5F cfg Γ s d f args κ
theorem B8n{R:Type}{P:Program}{cfg:Cfg}{Γ:List (Nat×Fn)}(hΓ:A2o P Γ){d:Option Nat}{f:Nat}{args:List Operand}{r:R}(at':Array TypeId):∀ {n:Nat} {s:St} {κ:Ke R},C2c cfg Γ d f args n s κ=some r->
  OutG P s (.call {callee:=.value (.func f),args:=args.toArray,argTypes:=at'}) d κ r
 | 0,s,κ,h=>C9i hΓ h at'
 | n+1,s,κ,h=>by
  unfold C2c at h;split at h
  ·rename_i id row hf;have:s.getR id=some row:=by
    unfold D5H at hf;split at hf
    ·split at hf
     ·exact C9l hf
     ·cases hf
    ·cases hf
   exact OutG.frz (fun t hm=>(B7E hm).1) (fun t hm=>(B7E hm).2) this (B8n hΓ at' h)
  ·exact C9i hΓ h at'
end Go.Proofs.YthnfghmjipikhaaGreatDoor.Ev
namespace Go.Proofs.YthnfghmjipikhaaGreatDoor.Ev
open Go.Lib (strCells strCells_length strCells_oneCell run_firstCells_string run_append_grow_string bytesWorld bytesCells bytesWorld_at_old bytesWorld_at_new)
def bytesOf(s:ByteArray):List Int:=s.data.toList.map fun b=>(b.toNat:Int)
theorem bytesOf_length(s:ByteArray):(bytesOf s).length=s.size:=by rw [bytesOf,List.length_map,Array.length_toList];rfl
theorem strCells_eq(s:ByteArray):strCells s=(bytesOf s).map (Value.int .u8):=by simp [strCells,bytesOf,List.map_map]
theorem B8o{P:Program}{w:World}{t u ty e:TypeId}{i:TypeInfo}(ht:P.underlying t=some (.slice e))(hu:P.underlying u=some .string)(hi:P.info? e=some i)(hs1:i.size=1)
  {g sLen sCap:Nat} {cur:Array Value} {fz:Nat×Nat} (hg:w.heap[g]? = some (.cells cur e fz)) (hfz:Thawed cur.size fz) (s:ByteArray)
  (hroom:sLen+s.size<=sCap) (hfit:sLen+s.size<=cur.size) :
  (Builtin.append_ #[t,u] ty #[.slice (some ⟨g,0,none⟩) sLen sCap,.string s]).run P w =
   .ok (.slice (some ⟨g,0,none⟩) (sLen+s.size) sCap) (w.setRow g (cur.toList.take sLen++strCells s++cur.toList.drop (sLen+s.size)).toArray):=by
 have hf:=run_firstCells_string (P:=P) w 1 s;have hst:=A0n P g sLen e fz (strCells s) 0 cur w hg hfz (by simpa [strCells_length] using hfit) (strCells_oneCell s);simp only [Nat.add_zero,strCells_length] at hst;simp [Builtin.append_,run_underlying ht,run_underlying hu,sizeOf,typeInfo,hi,hs1,Builtin.lenOf,hroom,hf,Addr.add_lit,hst]
theorem D93{P:Program}{w:World}{t u ty e:TypeId}{i:TypeInfo}(ht:P.underlying t=some (.slice e))(hu:P.underlying u=some .string)(hi:P.info? e=some i){z:Value}(hz:i.zero=some z)(hz1:z.cells.size=1)
  (hsize:i.size=1) (hby:i.bytes=1) {v:Value} {n:Nat} {xs:List Value} (hown:owns w 0 e 1 v n xs) (s:ByteArray)
  (h63:n+s.size<=maxLen) (hbytes:n+s.size<=140737488355328) :
  ∃ v' w',(Builtin.append_ #[t,u] ty #[v,.string s]).run P w=.ok v' w'/\owns w' 0 e 1 v' (n+s.size) (xs++strCells s)/\w.grownBy w' v.ownBlock/\(v'.ownBlock=v.ownBlock\/v'.ownBlock=some w.heap.size):=by
 have hsmall:n+s.size<=9223372036854775807:=by simp only [maxLen] at h63;omega
 have hxl:xs.length=n:=by simpa using hown.1
 have hlen:(xs++strCells s).length=(n+s.size)*1:=by rw [List.length_append,hxl,strCells_length,Nat.mul_one]
 rcases hown.2 with ⟨rfl,rfl⟩ | ⟨g,cap,cur,fz,rfl,hbg,hg,hfz,hnc,hcm,hcs,htake⟩
 ·have hx:xs = []:=List.eq_nil_of_length_eq_zero hxl;subst hx;by_cases hm:s.size=0
  ·have hn:strCells s = []:=List.eq_nil_of_length_eq_zero (by rw [strCells_length];exact hm);refine ⟨.slice none 0 0,w,?_,by rw [hm,hn];exact A3I w 0 e 1,⟨rfl,rfl,rfl,Nat.le_refl _,fun _ _ _=>rfl⟩,.inl rfl⟩;have hf:=run_firstCells_string (P:=P) w 1 s;rw [hm] at hf;simp [Builtin.append_,run_underlying ht,run_underlying hu,sizeOf,typeInfo,hi,hsize,Builtin.lenOf,hm,hf]
  ·have hr:=run_append_nil_string (P:=P) w t u ty e i z ht hu hi hz s (by omega) (by omega) (by rw [hby];omega);have e1:(s.data.map fun b=>Value.int .u8 b.toNat)=(strCells s).toArray:=by
    apply Array.ext';simp [strCells]
   rw [e1] at hr;have hge:=grownCap_ge w s.size 0 e;have hcm':grownCap w s.size 0 e<=maxLen:=grownCap_le_maxLen w s.size 0 e (by omega);simp only [Nat.zero_add,List.nil_append];refine ⟨_,_,hr,A8c ⟨by simpa using hlen,.inr ⟨w.heap.size,_,_,rfl,Nat.zero_le _,heap_alloc_new w.drew _,hge,hcm',?_,?_⟩⟩,⟨rfl,rfl,rfl,by simp,fun k hk _=>heap_alloc_old (w:=w.drew) _ hk⟩,.inr rfl⟩
   ·simp only [Array.size_append,List.size_toArray,size_zeroCells,hz1,strCells_length];omega
   ·simp only [Array.toList_append];rw [show s.size*1=(strCells s).length by rw [strCells_length,Nat.mul_one]];exact List.take_left
 ·by_cases hroom:n+s.size<=cap
  ·have hcs':cur.size=cap:=by simpa using hcs
   have hr:=B8o (P:=P) (ty:=ty) ht hu hi hsize hg hfz.1 s hroom (by omega);have hsz2:(cur.toList.take n++strCells s++cur.toList.drop (n+s.size)).toArray.size=cur.size:=by
    simp only [List.size_toArray,List.length_append,List.length_take,List.length_drop,Array.length_toList,strCells_length];omega
   refine ⟨_,_,hr,⟨hlen,.inr ⟨g,cap,_,fz,rfl,hbg,setRow_heap w g cur _ e _ hg,by rw [hsz2];exact hfz,hroom,hcm,by rw [hsz2];exact hcs,?_⟩⟩,⟨rfl,rfl,rfl,by simp,fun k _ hk=>setRow_other w g k _ (fun e=>hk (by simp [Value.ownBlock,e]))⟩,.inl rfl⟩;have ht':cur.toList.take n=xs:=by simpa using htake
   rw [ht',<- hlen];exact List.take_left
  ·have holds:∀ j u,xs[j]? = some u->w.cell? ((⟨g,0,none⟩:Addr).add j)=some u:=S8 hown (g:=g) rfl;have hr:=run_append_grow_string (P:=P) w t u ty e i z ht hu hi hz ⟨g,0,none⟩ n cap xs (by rw [hsize];simpa using hxl) holds s (by omega) (by omega) (by rw [hby];exact growslice_fits (by omega) (by omega));have hge:=grownCap_ge w (n+s.size) cap e;have hcm':grownCap w (n+s.size) cap e<=maxLen:=grownCap_le_maxLen w (n+s.size) cap e h63;refine ⟨_,_,hr,A8c ⟨hlen,.inr ⟨w.heap.size,_,_,rfl,Nat.zero_le _,heap_alloc_new w.drew _,hge,hcm',?_,?_⟩⟩,⟨rfl,rfl,rfl,by simp,fun k hk _=>heap_alloc_old (w:=w.drew) _ hk⟩,.inr rfl⟩
   ·simp only [Array.size_append,List.size_toArray,size_zeroCells,hz1,hxl,strCells_length];omega
   ·simp only [Array.toList_append,List.append_assoc];rw [<- List.append_assoc,<- hlen];exact List.take_left
theorem A9J{α:Type}{xs:List α}{i:Nat}(h:i<xs.length):(xs.drop (i*1)).take 1 = [xs[i]]:=by
 rw [Nat.mul_one,List.drop_eq_getElem_cons h];rfl
def D94{R:Type}(cfg:Cfg)(s:St)(d t t':Nat)(x y:Operand)(κ:Ke R):Option R:=
 match I0 s x,I0 s y,cfg.el t,A5B cfg t' with
 | some (.one lx,rx),some (.one (.str b),ry),some e,true=>match cfg.ty e with
  | some ti=>match I8 cfg s e ti lx,decide (ti.k=.int .u8),Nat.beq ti.bytes 1 with
   | some (o1,row,r1),true,true=>match A8g row.k (.int .u8) row.xs,Nat.beq row.e e with
    | some xs,true=>bif decide (xs.length+b.size<=140737488355328) then
       κ ⟨rx++ry++r1,(.t d,some (.t (.one (.own d))))::(.r d,some (.r ⟨e,.int .u8,xs++bytesOf b,0⟩))::(oid o1).map (fun i=>(Loc.r i,(none:Option LV))),[.r d]⟩ else none
    | _,_=>none
   | _,_,_=>none
  | none=>none
 | _,_,_,_=>none
theorem D95{R:Type}{P:Program}{cfg:Cfg}(hc:E8 P cfg){s:St}{d t t':Nat}{x y:Operand}{κ:Ke R}{r:R}(h:D94 cfg s d t t' x y κ=some r) :
  OutE P s (.call {callee:=.builtin .append,args:=#[x,y],argTypes:=#[t,t']}) d κ r:=by
 unfold D94 at h;split at h
 ·rename_i lx rx b ry e ex ey et hst;split at h
  ·rename_i ti eti;split at h
   ·rename_i o1 row r1 e1 hk8 hb1;have hk8:=of_decide_eq_true hk8;have hb1:=Nat.eq_of_beq_eq_true hb1;split at h
    ·rename_i xs hcast hre0;have hre:=Nat.eq_of_beq_eq_true hre0
     clear hre0
     obtain ⟨ek,hxs⟩:=T0 hcast;obtain ⟨re,rk,rxs,rver⟩:=row;simp only at ek hxs hre;subst ek;simp only at hxs;subst hre;subst hxs;obtain ⟨hby,h⟩:=C6 h;have hby:=of_decide_eq_true hby;refine ⟨_,h,Reads.app.2 ⟨Reads.app.2 ⟨A6 ex,A6 ey⟩,B9o e1⟩,fun n o ho hdst hd w0 Z0 s' a m hr hrd hnew next Q hn=>?_⟩
     have hrdA:=Reads.app.1 (Reads.app.1 hrd).1;obtain ⟨f,z,hi,hs,hb,hz,hzc,_⟩:=hc.info eti;have hsz1:f.size=1:=by rw [hs,hk8];rfl
     have hz1:z.cells.size=1:=by rw [<- Array.length_toList,hzc,hk8];rfl
     have h1:=hr.drop (A6K d o1);have hids:(A6K d o1).map (·.1)=oid o1:=by cases o1<;>rfl
     rw [hids] at h1;have hk:=P3 m.w (A6K d o1) m.Z;have hdest:=C9R e1 hr (Reads.app.1 hrd).2 (B5 ex hr hrdA.1) d hk (fun id hid=>by
      subst hid;exact A5s (f:=fun q=>some (2*d::q)) (by simp [A6K,A0V]) (fun q=>rfl))
     have hyv:a.eval y=.string b:=B5 ey hr hrdA.2;obtain ⟨inner,hown,hcol,hels⟩:=hdest;obtain ⟨v',w',hrun,hown',hg,hblk⟩:=D93 (P:=P) (ty:=o.type) (hc.el et) (A46 hc hst) hi hz hz1 hsz1 (hb.trans hb1) hown b (by simp only [maxLen];omega) hby;have hrunO:(execOp a.eval o).run P m.w=.ok (.value v') w':=by
      simp [execOp,ho,hyv,resolve,invoke,builtin,Sem.run_bind];rw [hrun];rfl
     let Z1:=G4 (A6K d o1) m.Z
     let Z2:Col:=fun b=>if v'.ownBlock=some b then some [2*d] else Z1 b
     have hsame:∀ b,b<m.w.heap.size->Z1 b≠some [2*d]->w'.heap[b]? = m.w.heap[b]?/\Z2 b=Z1 b:=by
      intro b hb hne;have hvb:some b≠(a.eval x).ownBlock:=fun e=>hne (hcol b e.symm)
      refine ⟨hg.block b hb hvb,if_neg fun e=>?_⟩;rcases hblk with h' | h'
      ·rw [h'] at e;exact hvb e.symm
      ·rw [h'] at e;injection e with e;omega
     have hO:Only m.w w' Z1 Z2 (2*d):=fun b hb hq=>hsame b hb (hq [])
     have hnl:¬ Live ((oid o1).map (fun i=>(Loc.r i,(none:Option LV)))++s') (.r d):=by
      rintro ⟨l',lv,hg',hm'⟩;refine hnew (.r d) List.mem_cons_self ⟨l',lv,?_,hm'⟩;by_cases hh:∃ i∈oid o1,l' = .r i
      ·obtain ⟨i,hi',rfl⟩:=hh;rw [A5d hi'] at hg';cases hg'
      ·rw [A9t fun i hi' e=>hh ⟨i,hi',e⟩] at hg';exact hg'
     have hinl:inner.length=xs.length:=by have:inner.length=xs.length*1:=hown.1;omega
     have h2:=h1.only (d:=d) hd hnl (row:=⟨re,.int .u8,xs++bytesOf b,0⟩) (v:=v') (w':=w') (Z':=Z2) hO hg.size hg.os hg.tape hg.output (by
      refine ⟨inner++strCells b,by rw [List.length_append,bytesOf_length];exact hown',fun g hgb=>if_pos hgb,fun i hi'=>?_⟩;have hlen2:(inner++strCells b).length=(xs++bytesOf b).length:=by rw [List.length_append,List.length_append,hinl,strCells_length,bytesOf_length]
      have hi2:i<(inner++strCells b).length:=by rw [hlen2];exact hi'
      show (((inner++strCells b).drop (i*1)).take 1) = [Value.int .u8 (xs++bytesOf b)[i]];rw [A9J hi2];by_cases hin:i<xs.length
      ·have e3:(xs++bytesOf b)[i]=xs[i]:=List.getElem_append_left hin;have e4:(inner++strCells b)[i]=inner[i]'(by omega):=List.getElem_append_left (by omega);have:=hels i hin;have this:(inner.drop (i*1)).take 1 = [Value.int .u8 xs[i]]:=this;rw [A9J (by omega)] at this;rw [e3,e4];exact this
      ·have hil:i-xs.length<(bytesOf b).length:=by
        have:=hi';simp only [List.length_append] at this;omega
       have e3:(xs++bytesOf b)[i]=(bytesOf b)[i-xs.length]:=List.getElem_append_right (by omega);have e4:(inner++strCells b)[i]=(strCells b)[i-inner.length]'(by rw [strCells_length,<- bytesOf_length];omega):=List.getElem_append_right (by omega);rw [e3,e4];simp only [strCells_eq,List.getElem_map,hinl])
     have h3:=h2.put (v:=.one (.own d)) (x:=v') hd ⟨A5q hown',fun r _=>by simp [upd_same]⟩;simp only [Oper.wp,hrunO,Oper.upon,hdst];exact hn _ _ h3
    ·cases h
   ·cases h
  ·cases h
 ·cases h
def D2l{R:Type}(cfg:Cfg)(s:St)(d a b:Nat)(x:Operand)(κ:Ke R):Option R:=
 match I0 s x,A5B cfg a,cfg.el b with
 | some (.one (.str z),rx),true,some e=>match D2G cfg e with
  | some .u8=>bif decide (z.size<=9223372036854775807) then κ ⟨rx,[(.t d,some (.t (.one (.own d)))),(.r d,some (.r ⟨e,.int .u8,bytesOf z,0⟩))],[.r d]⟩ else none
  | _=>none
 | _,_,_=>none
theorem D6j{R:Type}{P:Program}{cfg:Cfg}(hc:E8 P cfg){s:St}{d a b:Nat}{x:Operand}{κ:Ke R}{r:R}(h:D2l cfg s d a b x κ=some r):OutE P s (.convert a b x) d κ r:=by
 unfold D2l at h;split at h
 ·rename_i z rx e ex hst et;split at h
  ·rename_i ek;obtain ⟨h63,h⟩:=C6 h;have h63:=of_decide_eq_true h63;refine ⟨_,h,A6 ex,fun n o ho hdst hd w0 Z0 s' ac m hr hrd hnew next Q hn=>?_⟩
   have hv:ac.eval x=.string z:=B5 ex hr hrd;have hrun:(execOp ac.eval o).run P m.w=.ok (.value (.slice (some ⟨m.w.heap.size,0,none⟩) z.size (grownCap m.w z.size 0 e))) (bytesWorld m.w e z):=by
    have:=Go.Lib.run_convert_string_bytes (P:=P) m.w a b e z (A46 hc hst) (hc.el et) (C1d hc ek);simp [execOp,ho,hv,this]
   have hcs:(bytesCells m.w e z).size=grownCap m.w z.size 0 e:=by
    have:=grownCap_ge m.w z.size 0 e;have e0:z.data.size=z.size:=rfl;simp only [bytesCells,Array.size_append,Array.size_map,Array.size_replicate,e0];omega
   have hct:(bytesCells m.w e z).toList.take z.size=strCells z:=by
    have e0:(z.data.map fun b=>Value.int .u8 b.toNat).toList=strCells z:=by simp [strCells]
    simp only [bytesCells,Array.toList_append,e0];rw [<- strCells_length z];exact List.take_left
   have hnew':=bytesWorld_at_new m.w e z;have hown:owns (bytesWorld m.w e z) 0 e 1 (.slice (some ⟨m.w.heap.size,0,none⟩) z.size (grownCap m.w z.size 0 e)) z.size (strCells z):=by
    refine ⟨by rw [strCells_length,Nat.mul_one],.inr ⟨_,_,_,_,rfl,Nat.zero_le _,hnew',⟨.inr rfl,.inr rfl⟩,grownCap_ge m.w z.size 0 e,grownCap_le_maxLen m.w z.size 0 e (by simp only [maxLen];omega),by rw [hcs,Nat.mul_one],by rw [Nat.mul_one];exact hct⟩⟩
   have hsz:m.w.heap.size<=(bytesWorld m.w e z).heap.size:=by
    simp [bytesWorld,World.freeze]
   have hO:Only m.w (bytesWorld m.w e z) m.Z (upd m.Z m.w.heap.size (some [2*d])) (2*d):=fun b hb hq=>⟨bytesWorld_at_old m.w e z b hb,upd_ne _ (by omega) _⟩
   have h2:=hr.only (d:=d) hd (hnew _ List.mem_cons_self) (row:=⟨e,.int .u8,bytesOf z,0⟩) (v:=.slice (some ⟨m.w.heap.size,0,none⟩) z.size (grownCap m.w z.size 0 e)) (w':=bytesWorld m.w e z) hO hsz (by simp [bytesWorld,World.freeze,World.alloc,World.drew,-World.alloc_eq,-World.drew_eq]) (by simp [bytesWorld,World.freeze,World.alloc,World.drew,-World.alloc_eq,-World.drew_eq]) (by simp [bytesWorld,World.freeze,World.alloc,World.drew,-World.alloc_eq,-World.drew_eq]) (by
    refine ⟨strCells z,by rw [bytesOf_length];exact hown,fun g hg=>?_,fun i hi'=>?_⟩
    ·simp only [Value.ownBlock,Option.some.injEq] at hg;subst hg;exact upd_same _ _ _
    ·show (((strCells z).drop (i*1)).take 1) = [Value.int .u8 (bytesOf z)[i]];rw [A9J (by rw [strCells_length,<- bytesOf_length];exact hi')];simp only [strCells_eq,List.getElem_map])
   have h3:=h2.put (v:=.one (.own d)) (x:=.slice (some ⟨m.w.heap.size,0,none⟩) z.size (grownCap m.w z.size 0 e)) hd ⟨rfl,fun r _=>by simp [upd_same]⟩;simp only [Oper.wp,hrun,Oper.upon,hdst];exact hn _ _ h3
  ·cases h
 ·cases h
end Go.Proofs.YthnfghmjipikhaaGreatDoor.Ev
namespace Go.Proofs.YthnfghmjipikhaaGreatDoor.Ev
theorem D2m{k:K}(xs:List k.T):A8g k k xs=some xs:=by unfold A8g;rw [dif_pos rfl]
theorem B3H:∀ {k:K} {x:k.T} {off:Nat} {sl:SL},L0 k x off=some sl->B04 k x off sl.k sl.xs=some x
 | .sl e k,xs,0,sl,h=>by
  simp only [L0] at h;injection h with h;subst h
  simp only [B04];exact D2m xs
 | .sl e k,xs,_+1,sl,h=>by simp [L0] at h
 | .pair a b,x,j,sl,h=>by
  simp only [L0] at h;simp only [B04];split at h
  ·simp only [B3H h]
  ·simp only [B3H h]
 | .int _,_,_,_,h=>by simp [L0] at h
 | .bool,_,_,_,h=>by simp [L0] at h
 | .fnc _,_,_,_,h=>by simp [L0] at h
 | .str,_,_,_,h=>by simp [L0] at h
 | .rs _ _,_,_,_,h=>by simp [L0] at h
 | .pa _ _,_,_,_,h=>by simp [L0] at h
theorem D96{P:Program}{w:World}{t ty e:TypeId}{i:TypeInfo}{z:Value}{size bytes:Nat}(ht:P.underlying t=some (.slice e))(hi:P.info? e=some i)(hz:i.zero=some z)
  (hsize:i.size=size) (hby:i.bytes=bytes) (hzs:z.cells.size=size) (hsz:0<size) {v:Value} {n:Nat} {xs:List Value} (hown:owns w 0 e size v n xs)
  {A:Option Addr} {m c:Nat} {news:List Value} (hl:news.length=m*size) (hnews:∀ ad,A=some ad->∀ j u,news[j]? = some u->w.cell? (ad.add j)=some u) (hA:A=none->m=0) (h1:∀ u∈news,u.oneCell' = true)
  (h63:n+m<=maxLen) (hbytes:(n+m)*bytes<=140737488355328) :
  ∃ v' w',(Builtin.append_ #[t,t] ty #[v,.slice A m c]).run P w=.ok v' w'/\owns w' 0 e size v' (n+m) (xs++news)/\owns w' 0 e size v n xs/\w.grownBy w' v.ownBlock/\(v'.ownBlock=v.ownBlock\/v'.ownBlock=some w.heap.size):=by
 obtain ⟨v',w',hrun,ho,hg,hd⟩:=C7g (P:=P) (ty:=ty) (c:=c) ht hi hz hsize hby hzs hsz hown hl hnews hA h1 h63 hbytes;refine ⟨v',w',hrun,ho,?_,hg,hd⟩;subst hsize;subst hby;have hsmall:n+m<=9223372036854775807:=by simp only [maxLen] at h63;omega
 have hown0:=hown;rcases hown.2 with ⟨rfl,rfl⟩ | ⟨g,cap,cur,fz,rfl,hbg,hgb,hfz,hnc,hcm,hcs,htake⟩
 ·have:xs = []:=List.eq_nil_of_length_eq_zero (by simpa using hown.1);subst this;exact A3I _ _ _ _
 ·cases A with
  | none=>
   obtain rfl:=hA rfl;have:=C9Q (P:=P) (ty:=ty) (c:=c) ht hi hown0;rw [hrun] at this;injection this with _ hw
   subst hw;exact hown0
  | some ad=>
   by_cases hroom:n+m<=cap
   ·have hfit:n*i.size+news.length<=cur.size:=by rw [hl,hcs,<- Nat.add_mul];exact Nat.mul_le_mul_right _ hroom
    have hr:=A2E (P:=P) w t ty e i ht hi g n cap cur fz hgb hfz.1 ad m c news hl (hnews ad rfl) h1 hroom hfit;rw [hrun] at hr;injection hr with _ hw
    subst hw;have hsz2:(cur.toList.take (n*i.size)++news++cur.toList.drop (n*i.size+news.length)).toArray.size=cur.size:=by
     simp only [List.size_toArray,List.length_append,List.length_take,List.length_drop,Array.length_toList];omega
    refine ⟨hown.1,.inr ⟨g,cap,_,fz,rfl,hbg,setRow_heap w g cur _ e _ hgb,by rw [hsz2];exact hfz,hnc,hcm,by rw [hsz2];exact hcs,?_⟩⟩;have hlx:(cur.toList.take (n*i.size)).length=n*i.size:=by rw [htake];exact hown.1
    simp only [List.append_assoc];rw [List.take_append_of_le_length (by omega),List.take_of_length_le (by omega)];exact htake
   ·have holds:∀ j u,xs[j]? = some u->w.cell? ((⟨g,0,none⟩:Addr).add j)=some u:=S8 hown (g:=g) rfl;have hr:=run_append_grow (P:=P) w t ty e i z ht hi hz ⟨g,0,none⟩ n cap xs hown.1 holds ad m c news hl (hnews ad rfl) (by omega) (by omega) (growslice_fits (by omega) hbytes);rw [hrun] at hr;injection hr with _ hw
    subst hw;exact A9q hown0 fun g' hg'=>by
     have:=(Array.getElem?_eq_some_iff.1 hgb).1;have e1:g' = g:=by simp only [Value.ownBlock] at hg';injection hg' with hg';exact hg'.symm
     rw [e1];exact heap_alloc_old (w:=w.drew) _ this
def D97{R:Type}(cfg:Cfg)(s:St)(d t t':Nat)(x y:Operand)(κ:Ke R):Option R:=
 match I0 s x,I0 s y,cfg.el t,Nat.beq t t' with
 | some (.one (.sub id q off ver),rx),some (.one ly,ry),some e,true=>match cfg.ty e,s.getR id,s.getX q with
  | some ti,some r,some i=>match Nat.beq r.ver ver,L0 r.k (rd r.k r.xs i) off with
   | true,some sl=>match Nat.beq sl.e e,Nat.beq ti.k.sz sl.k.sz,sl.k.flat with
    | true,true,true=>match D2P cfg s t sl.k ly with
     | some (ys,r2,_)=>bif decide (sl.xs.length+ys.length<=9223372036854775807) then bif decide ((sl.xs.length+ys.length)*ti.bytes<=140737488355328) then
       κ ⟨rx++ry++([(.r id,.r r),(.x q,.x i)]++r2),[(.t d,some (.t (.one (.ext id q off (r.ver+1) (J8 r.k off) sl.e sl.k (sl.xs++ys))))),(.r id,some (.r ⟨r.e,r.k,r.xs,r.ver+1⟩))],[]⟩ else none else none
     | none=>none
    | _,_,_=>none
   | _,_=>none
  | _,_,_=>none
 | _,_,_,_=>none
theorem D98{R:Type}{P:Program}{cfg:Cfg}(hc:E8 P cfg){s:St}{d t t':Nat}{x y:Operand}{κ:Ke R}{r:R}(h:D97 cfg s d t t' x y κ=some r) :
  OutE P s (.call {callee:=.builtin .append,args:=#[x,y],argTypes:=#[t,t']}) d κ r:=by
 unfold D97 at h;split at h
 ·rename_i id q off ver rx ly ry e ex ey et htt;have htt:=Nat.eq_of_beq_eq_true htt;subst htt;split at h
  ·rename_i ti row i eti er eq;split at h
   ·rename_i sl ever esl;have ever:=Nat.eq_of_beq_eq_true ever;split at h
    ·rename_i he hsz hflat;have he:=Nat.eq_of_beq_eq_true he;have hsz:=Nat.eq_of_beq_eq_true hsz;split at h
     ·rename_i ys r2 o2 e2;subst he;obtain ⟨h63,h⟩:=C6 h;obtain ⟨hby,h⟩:=C6 h;have h63:=of_decide_eq_true h63;have hby:=of_decide_eq_true hby;have hread:Reads s [(Loc.r id,LV.r row),(Loc.x q,LV.x i)]:=by
       intro p hp;rcases List.mem_cons.1 hp with rfl | hp
       ·exact St.getR_some.1 er
       ·rw [List.mem_singleton.1 hp];exact St.getX_some.1 eq
      refine ⟨_,h,Reads.app.2 ⟨Reads.app.2 ⟨A6 ex,A6 ey⟩,Reads.app.2 ⟨hread,C2B e2⟩⟩,fun n o ho hdst hd w0 Z0 s' a m hr hrd hnew next Q hn=>?_⟩
      clear h
      have hrdA:=Reads.app.1 (Reads.app.1 hrd).1;obtain ⟨hrd2,hrd3⟩:=Reads.app.1 (Reads.app.1 hrd).2;have hrow:s'.get (.r id)=some (.r row):=hrd2 (Loc.r id,LV.r row) List.mem_cons_self;have hxq:s'.get (.x q)=some (.x i):=hrd2 (Loc.x q,LV.x i) (List.mem_cons_of_mem _ List.mem_cons_self);have hv:LfC s' m (.sub id q off ver) (a.eval x):=B5 ex hr hrdA.1;generalize hxv:a.eval x=v at hv;obtain ⟨hi0,hi1,hoff,hcell⟩:=(hv.2 row i hrow hxq).2 ever;obtain ⟨inner,hown,hcol,hels⟩:=hr.rw id row hrow;rcases hown.2 with ⟨_,hn0⟩ | ⟨g,cap,cur,fz,e0,_,hg,hfz,hnc,hcap,hcs,ht⟩
      ·omega
      ·have hcolg:=hcol g (by rw [e0];rfl);have hel:=hels i.toNat hi1;rw [<- A9r hi1] at hel;obtain ⟨v',hv',hosl⟩:=B7H hel esl;have hvv:v' = v:=by
        have hlt:off<row.k.sz:=hoff;have h1:inner[i.toNat*row.k.sz+off]? = some v':=by
         rw [List.getElem?_take_of_lt hlt,List.getElem?_drop] at hv';exact hv'
        have h2:=S8 hown (g:=g) (by rw [e0];rfl) _ _ h1;rw [e0,M1] at hcell;rw [h2] at hcell;injection hcell
       subst hvv;generalize hp : [2*id] ++ [i.toNat]++J8 row.k off=p at hosl;have hp2:p=2*id::i.toNat::J8 row.k off:=by rw [<- hp];simp
       obtain ⟨inner0,hown0,hcol0,hels0⟩:=hosl;have hsrc:=D4v e2 hr hrd3 (B5 ey hr hrdA.2) d sl.xs.length (Keeps.refl m.w m.Z) (fun id2 hid j=>by
        have:o2=none:=by
         unfold D2P at e2;rw [hflat] at e2;simp only at e2;split at e2
         ·split at e2
          ·injection e2 with e2;injection e2 with _ e2;injection e2 with _ e2;exact e2.symm
          ·cases e2
         ·cases e2
        rw [this] at hid;cases hid)
       obtain ⟨A,c,news,hyv,hnl,hcl,hA,hnew2⟩:=hsrc.cells;obtain ⟨f,z,hi,hs,hb,hz,hzc,_⟩:=hc.info eti;have hzs:z.cells.size=sl.k.sz:=by rw [<- Array.length_toList,hzc,C27,hsz]
       obtain ⟨u,w',hrun,hown',hold,hgr,hblk⟩:=D96 (P:=P) (ty:=o.type) (c:=c) (hc.el et) hi hz (hs.trans hsz) hb hzs sl.k.sz_pos hown0 hnl hcl (fun hA0=>by rw [hA hA0];rfl) hnew2.one (by simp only [maxLen];omega) hby;have hrunO:(execOp a.eval o).run P m.w=.ok (.value u) w':=by
        simp [execOp,ho,hyv,hxv,resolve,invoke,builtin,Sem.run_bind];rw [hrun];rfl
       let Z1:Col:=fun b=>if u.ownBlock=some b then some p else m.Z b
       have hsame:∀ b,b<m.w.heap.size->m.Z b≠some p->w'.heap[b]? = m.w.heap[b]?/\Z1 b=m.Z b:=by
        intro b hb hne;have hvb:some b≠v'.ownBlock:=fun e=>hne (hcol0 b e.symm)
        refine ⟨hgr.block b hb hvb,if_neg fun e=>?_⟩;rcases hblk with h' | h'
        ·rw [h'] at e;exact hvb e.symm
        ·rw [h'] at e;injection e with e;omega
       have hkeep:Keeps m.w w' m.Z Z1:=fun b hb hlt=>by
        obtain ⟨g1,g2⟩:=hsame b hlt (by rw [hb];simp);exact ⟨g1,g2.trans hb⟩
       have hoth:Others m.w w' m.Z Z1 p:=fun b qq hb hne hlt=>by
        obtain ⟨g1,g2⟩:=hsame b hlt (by rw [hb];intro e;injection e with e;exact hne [] (by rw [e];simp));exact ⟨g1,g2.trans hb⟩
       have hO:Only m.w w' m.Z Z1 (2*id):=fun b hlt hq=>hsame b hlt (by rw [hp2];exact hq _)
       have hcolu:∀ b,v'.ownBlock=some b->Z1 b=some p:=fun b hb=>by
        show (if u.ownBlock=some b then some p else m.Z b)=some p;split
        ·rfl
        ·exact hcol0 b hb
       have hflatm:∀ {pp pp':D6} {y:sl.k.T} {ds:List Value},Ow sl.k m.w m.Z pp y ds->Ow sl.k w' Z1 pp' y ds:=fun hy=>B4e hflat hy hkeep
       have hinl:=hown0.1;have holdO:OwL (Ow sl.k w' Z1) sl.e sl.k.sz w' Z1 p sl.xs v':=⟨inner0,hold,hcolu,fun j hj=>hflatm (hels0 j hj)⟩;have hnewO:OwL (Ow sl.k w' Z1) sl.e sl.k.sz w' Z1 p (sl.xs++ys) u:=by
        refine ⟨inner0++news,by rw [List.length_append];exact hown',fun b hb=>if_pos hb,fun j hj=>?_⟩;by_cases hin:j<sl.xs.length
        ·have e3:(sl.xs++ys)[j]=sl.xs[j]:=List.getElem_append_left hin;have hle:j*sl.k.sz+sl.k.sz<=inner0.length:=by rw [hinl,<- Nat.succ_mul];exact Nat.mul_le_mul_right _ hin
         have e4:((inner0++news).drop (j*sl.k.sz)).take sl.k.sz=(inner0.drop (j*sl.k.sz)).take sl.k.sz:=by
          rw [List.drop_append_of_le_length (by omega),List.take_append_of_le_length (by rw [List.length_drop];omega)]
         simp only [e3,e4];exact hflatm (hels0 j hin)
        ·have hil:j-sl.xs.length<ys.length:=by
          have:=hj;simp only [List.length_append] at this;omega
         have e3:(sl.xs++ys)[j]=ys[j-sl.xs.length]:=List.getElem_append_right (by omega);have e4:((inner0++news).drop (j*sl.k.sz)).take sl.k.sz=(news.drop ((j-sl.xs.length)*sl.k.sz)).take sl.k.sz:=by
          have hq:j*sl.k.sz=inner0.length+(j-sl.xs.length)*sl.k.sz:=by
           rw [hinl,<- Nat.add_mul];congr 1;omega
          rw [hq,<- List.drop_drop,List.drop_left]
         simp only [e3,e4];exact hflatm (hnew2.get (j-sl.xs.length) hil)
       have hpne:∀ (j:Nat),j≠i.toNat->∀ t r,([2*id] ++ [j])++t≠p++r:=fun j hj t r hh=>by
        rw [hp2] at hh;simp at hh;exact hj hh.1
       have helsNew:∀ j (hj:j<row.xs.length),Ow row.k w' Z1 ([2*id] ++ [j]) (row.xs[j]) ((inner.drop (j*row.k.sz)).take row.k.sz):=by
        intro j hj;by_cases hji:j=i.toNat
        ·subst hji;have:=B7I hel esl hv' (by rw [hp];exact holdO) (by rw [hp];exact hoth) hkeep (B3H esl);rw [A9r hi1] at this;exact this
        ·exact Ow.move (hels j hj) (hoth.moves fun t r=>hpne j hji t r) hkeep
       have hgsame:=hsame g (Array.getElem?_eq_some_iff.1 hg).1 (by rw [hcolg,hp2];simp);have h2:=hr.updRowC (Z1:=Z1) hrow hO hgr.size hgr.os hgr.tape hgr.output (row:=⟨row.e,row.k,row.xs,row.ver+1⟩) rfl rfl (Nat.lt_succ_self _)
        ⟨inner,A9q hown (fun g' hg'=>by
         have:g' = g:=by
          rw [e0] at hg';simp only [Value.ownBlock] at hg';injection hg' with hg';exact hg'.symm
         rw [this];exact hgsame.1),fun g' hg'=>by
         have:g' = g:=by
          rw [e0] at hg';simp only [Value.ownBlock] at hg';injection hg' with hg';exact hg'.symm
         rw [this];exact hgsame.2.trans hcolg,helsNew⟩
       have h3:=h2.put (d:=d) (v:=.one (.ext id q off (row.ver+1) (J8 row.k off) sl.e sl.k (sl.xs++ys))) (x:=u) hd ⟨A5q hown',fun r2 i2 hr2 hi2=>by
        rw [St.get_cons_same] at hr2;injection hr2 with hr2;injection hr2 with hr2;subst hr2
        rw [St.get_cons_ne (by simp),hxq] at hi2;injection hi2 with hi2;injection hi2 with hi2;subst hi2
        refine ⟨Nat.le_refl _,fun _=>⟨hi0,hi1,?_⟩⟩;have e9 : [2*id]++(i.toNat::J8 row.k off)=p:=by rw [hp2];rfl
        rw [e9];exact hnewO⟩
       simp only [Oper.wp,hrunO,Oper.upon,hdst];exact hn _ _ h3
     ·cases h
    ·cases h
   ·cases h
  ·cases h
 ·cases h
theorem C2d:∀ {k:K} {x x':k.T} {off:Nat} {sl:SL} {w w':World} {Z Z':Col} {P:D6} {cs:List Value} {ys:List sl.k.T} {v:Value},Ow k w Z P x cs->L0 k x off=some sl->
  OwL (Ow sl.k w' Z') sl.e sl.k.sz w' Z' (P++J8 k off) ys v->(∀ q,Moves w w' Z Z' (P++q) (P++q))->Keeps w w' Z Z'->B04 k x off sl.k ys=some x'->
  off<k.sz/\Ow k w' Z' P x' (cs.take off ++ [v]++cs.drop (off+1))
 | .sl e k,xs,x',0,sl,w,w',Z,Z',P,cs,ys,v,h,hg,ho,hm,hk,hs=>by
  simp only [L0] at hg;injection hg with hg;subst hg
  obtain ⟨v0,rfl,_⟩:=h;simp only [B04] at hs;obtain ⟨ek,rfl⟩:=T0 hs;exact ⟨Nat.one_pos,_,rfl,by simpa [J8] using ho⟩
 | .sl e k,xs,x',_+1,sl,w,w',Z,Z',P,cs,ys,v,h,hg,ho,hm,hk,hs=>by simp [L0] at hg
 | .pair a b,x,x',j,sl,w,w',Z,Z',P,cs,ys,v,h,hg,ho,hm,hk,hs=>by
  obtain ⟨c0,c1,rfl,h0,h1⟩:=h;have hl:=h0.len;have hl1:=h1.len;have hm0:∀ q,Moves w w' Z Z' (P ++ [0]++q) (P ++ [0]++q):=fun q=>by rw [List.append_assoc];exact hm _
  have hm1:∀ q,Moves w w' Z Z' (P ++ [1]++q) (P ++ [1]++q):=fun q=>by rw [List.append_assoc];exact hm _
  simp only [L0] at hg;simp only [B04] at hs;split at hg
  ·rename_i hb;have hlt:j<a.sz:=by simpa [Nat.blt_eq] using hb
   rw [hb] at hs;simp only at hs;split at hs
   ·rename_i z hz;injection hs with hs;subst hs
    have e:P++J8 (.pair a b) j=P ++ [0]++J8 a j:=by simp [J8,hb]
    rw [e] at ho;obtain ⟨g1,g2⟩:=C2d h0 hg ho hm0 hk hz;refine ⟨by simp only [K.sz];omega,c0.take j ++ [v]++c0.drop (j+1),c1,?_,g2,Ow.move h1 (by simpa using hm1 []) hk⟩;rw [List.take_append_of_le_length (by omega),List.drop_append_of_le_length (by omega),List.append_assoc,List.append_assoc,List.append_assoc]
   ·cases hs
  ·rename_i hb;have hlt:¬ j<a.sz:=fun hh=>by rw [show Nat.blt j a.sz=true from Nat.blt_eq.mpr hh] at hb;cases hb
   rw [show Nat.blt j a.sz=false by cases h9:Nat.blt j a.sz with
    | true=>exact absurd (Nat.blt_eq.mp h9) hlt
    | false=>rfl] at hs
   simp only at hs;split at hs
   ·rename_i z hz;injection hs with hs;subst hs
    have e:P++J8 (.pair a b) j=P ++ [1]++J8 b (j-a.sz):=by simp [J8,hb]
    rw [e] at ho;obtain ⟨g1,g2⟩:=C2d h1 hg ho hm1 hk hz;refine ⟨by simp only [K.sz];omega,c0,c1.take (j-a.sz) ++ [v]++c1.drop (j-a.sz+1),?_,Ow.move h0 (by simpa using hm0 []) hk,g2⟩;rw [List.take_append,List.drop_append,List.take_of_length_le (by omega),List.drop_of_length_le (by omega),hl,show j+1-a.sz=j-a.sz+1 by omega];simp
   ·cases hs
 | .int _,_,_,_,_,_,_,_,_,_,_,_,_,_,hg,_,_,_,_=>by simp [L0] at hg
 | .bool,_,_,_,_,_,_,_,_,_,_,_,_,_,hg,_,_,_,_=>by simp [L0] at hg
 | .fnc _,_,_,_,_,_,_,_,_,_,_,_,_,_,hg,_,_,_,_=>by simp [L0] at hg
 | .str,_,_,_,_,_,_,_,_,_,_,_,_,_,hg,_,_,_,_=>by simp [L0] at hg
 | .rs _ _,_,_,_,_,_,_,_,_,_,_,_,_,_,hg,_,_,_,_=>by simp [L0] at hg
 | .pa _ _,_,_,_,_,_,_,_,_,_,_,_,_,_,hg,_,_,_,_=>by simp [L0] at hg
def D99{R:Type}(s:St)(q q':Nat)(i:Int)(k:Option R):Option R:=match Nat.beq q q' with
 | true=>k
 | false=>match s.getX q' with
  | some j=>bif decide (i=j) then k else none
  | none=>none
theorem D2n{R:Type}{s:St}{q q':Nat}{i:Int}{k:Option R}{r:R}(h:D99 s q q' i k=some r)(hi:s.getX q=some i):k=some r/\s.getX q' = some i:=by
 unfold D99 at h;split at h
 ·rename_i e;have e:=Nat.eq_of_beq_eq_true e;subst e;exact ⟨h,hi⟩
 ·split at h
  ·rename_i j ej;by_cases e:i=j
   ·rw [decide_eq_true e] at h;exact ⟨h,by rw [e];exact ej⟩
   ·rw [decide_eq_false e] at h;cases h
  ·cases h
def C7v{R:Type}(cfg:Cfg)(s:St)(t:Nat)(x y:Operand)(κ:Ke R):Option R:=
 match I0 s x,I0 s y,cfg.ty t with
 | some (.one (.ept id q off),rx),some (.one (.ext id' q' off' ver p e k zs),ry),some ti=>match s.getR id,s.getX q,Nat.beq id id',Nat.beq off off',Nat.beq ti.k.sz 1 with
  | some r,some i,true,true,true=>match Nat.beq r.ver ver,L0 r.k (rd r.k r.xs i) off with
   | true,some sl=>match decide (p=J8 r.k off),Nat.beq sl.e e,A8g k sl.k zs with
    | true,true,some zs'=>match B04 r.k (rd r.k r.xs i) off sl.k zs' with
     | some x'=>D99 s q q' i (κ ⟨rx++ry ++ [(.r id,.r r),(.x q,.x i),(.x q',.x i)],[(.r id,some (.r ⟨r.e,r.k,r.xs.set i.toNat x',r.ver+1⟩))],[]⟩)
     | none=>none
    | _,_,_=>none
   | _,_=>none
  | _,_,_,_,_=>none
 | _,_,_=>none
theorem D2o{R:Type}{P:Program}{cfg:Cfg}(hc:E8 P cfg){s:St}{t:Nat}{x y:Operand}{κ:Ke R}{r:R}(h:C7v cfg s t x y κ=some r):OutS P s (.store t x y) κ r:=by
 unfold C7v at h;split at h
 ·rename_i id q off rx id' q' off' ver p e k zs ry ti ex ey et;split at h
  ·rename_i row i er eq e1 e3 e4;have e1:=Nat.eq_of_beq_eq_true e1;have e3:=Nat.eq_of_beq_eq_true e3;have e4:=Nat.eq_of_beq_eq_true e4;subst e1;subst e3;split at h
   ·rename_i sl ever esl;have ever:=Nat.eq_of_beq_eq_true ever;split at h
    ·rename_i zs' ep ee ecast;have ep:=of_decide_eq_true ep;have ee:=Nat.eq_of_beq_eq_true ee;obtain ⟨ek,rfl⟩:=T0 ecast;subst ek;split at h
     ·rename_i x' hset;obtain ⟨h,eq2⟩:=D2n h eq;have hread:Reads s [(Loc.r id,LV.r row),(Loc.x q,LV.x i),(Loc.x q',LV.x i)]:=by
       intro p hp;rcases List.mem_cons.1 hp with rfl | hp
       ·exact St.getR_some.1 er
       ·rcases List.mem_cons.1 hp with rfl | hp
        ·exact St.getX_some.1 eq
        ·rw [List.mem_singleton.1 hp];exact St.getX_some.1 eq2
      refine ⟨_,h,Reads.app.2 ⟨Reads.app.2 ⟨A6 ex,A6 ey⟩,hread⟩,fun n o ho hdst w0 Z0 s' a m hr hrd hnew next Q hn=>?_⟩
      clear h
      have hrdA:=Reads.app.1 (Reads.app.1 hrd).1;have hrd2:=(Reads.app.1 hrd).2;have hrow:s'.get (.r id)=some (.r row):=hrd2 (Loc.r id,LV.r row) List.mem_cons_self;have hix:s'.get (.x q)=some (.x i):=hrd2 (Loc.x q,LV.x i) (List.mem_cons_of_mem _ List.mem_cons_self);have hix2:s'.get (.x q')=some (.x i):=hrd2 (Loc.x q',LV.x i) (List.mem_cons_of_mem _ (List.mem_cons_of_mem _ List.mem_cons_self));obtain ⟨hx1,hx2,hx⟩:=(B5 ex hr hrdA.1).2 row i hrow hix;have hy:LfC s' m (.ext id q' off ver p e sl.k zs) (a.eval y):=B5 ey hr hrdA.2;generalize hyv:a.eval y=v at hy;obtain ⟨hone,hy2⟩:=hy;obtain ⟨_,hy3⟩:=hy2 row i hrow hix2;obtain ⟨_,_,hol⟩:=hy3 ever;obtain ⟨inner,hown,hcol,hels⟩:=hr.rw id row hrow;rcases hown.2 with ⟨_,hn0⟩ | ⟨g,cap,cur,fz,e0,_,hg,hfz,hnc,hcap,hcs,ht⟩
      ·omega
      ·have hcolg:=hcol g (by rw [e0];rfl);have hinl:=hown.1;have hi2:i.toNat*row.k.sz+row.k.sz<=inner.length:=by rw [hinl,<- Nat.succ_mul];exact Nat.mul_le_mul_right _ hx2
       have how:=hels i.toNat hx2;rw [<- A9r hx2] at how
       let w':=m.w.setRow g (cur.toList.take (i.toNat*row.k.sz+off) ++ [v]++cur.toList.drop (i.toNat*row.k.sz+off + [v].length)).toArray
       have hb':∀ b,b≠g->w'.heap[b]? = m.w.heap[b]?:=fun b hb=>setRow_other m.w g b _ hb
       have hk':Keeps m.w w' m.Z m.Z:=fun b hb hlt=>⟨hb' b (fun e=>by rw [e,hcolg] at hb;cases hb),hb⟩
       have hmv:∀ p,p≠ []->Moves m.w w' m.Z m.Z (2*id::p) (2*id::p):=by
        intro p hp b q' hb hlt;refine ⟨hb' b fun e=>?_,hb⟩;rw [e,hcolg] at hb;injection hb with hb
        simp [hp] at hb
       have hol':OwL (Ow sl.k w' m.Z) sl.e sl.k.sz w' m.Z ([2*id] ++ [i.toNat]++J8 row.k off) zs v:=by
        obtain ⟨v0,e9,h9⟩:=Ow.move (k:=.sl e sl.k) (cs:= [v]) ⟨v,rfl,hol⟩ (by
         have:=hmv (i.toNat::p) (by simp);exact this) hk'
        injection e9 with e9;subst e9
        rw [ee,<- ep];simpa using h9
       obtain ⟨hoff,hnew'⟩:=C2d how esl hol' (fun qq=>by
        have:=hmv (i.toNat::qq) (by simp);simpa using this) hk' hset
       have hcurl:cur.toList.length=cap*row.k.sz:=by rw [Array.length_toList];exact hcs
       have hcapl:row.xs.length*row.k.sz<=cap*row.k.sz:=Nat.mul_le_mul_right _ hnc;have hcells:v.cells = [v].toArray:=by cases v<;>first | rfl | simp [Value.oneCell'] at hone
       have hst:=B1A (P:=P) hc et (o:=i.toNat*row.k.sz+off) hcells (by simpa using e4.symm) hg hfz.1 (by rw [<- Array.length_toList,hcurl];simp only [List.length_singleton];omega) (by simpa using hone);rw [e0,M1,add_plain,Nat.zero_add] at hx;have hrun':(execOp a.eval o).run P m.w=.ok .skip w':=by
        simp [execOp,ho,hx,hyv,Instr.storeAt,Instr.sureAddr,Sem.run_bind];rw [hst];rfl
       have h2:=hr.updRow (w':=w') hrow (row:=⟨row.e,row.k,row.xs.set i.toNat x',row.ver+1⟩) (by
         intro b hb hq;have hbg:b≠g:=fun e=>hq [] (by rw [e];exact hcolg)
         exact ⟨hb' b hbg,rfl⟩) (by simp [w']) rfl rfl rfl rfl (by simp) (by simp) (by
        refine ⟨inner.take (i.toNat*row.k.sz+off) ++ [v]++inner.drop (i.toNat*row.k.sz+off + [v].length),⟨?_,.inr ⟨g,cap,_,fz,?_,Nat.zero_le _,setRow_heap m.w g cur _ row.e _ hg,?_,?_,hcap,?_,?_⟩⟩,fun g' hg'=>?_,fun j hj=>?_⟩
        ·simp only [List.length_append,List.length_take,List.length_drop,List.length_set,List.length_singleton];omega
        ·simpa using e0
        ·rw [show (cur.toList.take (i.toNat*row.k.sz+off) ++ [v]++cur.toList.drop (i.toNat*row.k.sz+off + [v].length)).toArray.size=cur.size by
          simp only [List.size_toArray,List.length_append,List.length_take,List.length_drop,List.length_singleton];omega]
         exact hfz
        ·simpa using hnc
        ·simp only [List.size_toArray,List.length_append,List.length_take,List.length_drop,List.length_singleton];omega
        ·simp only [List.length_set];rw [<- ht];exact C9S (o:=i.toNat*row.k.sz+off) (V:= [v]) (by have:=ht▸hinl;simp only [List.length_singleton];omega) (by rw [hcurl];exact hcapl)
        ·have:g' = g:=by
          rw [e0] at hg';simp only [Value.ownBlock] at hg';injection hg' with hg';exact hg'.symm
         subst this;exact hcolg
        ·simp only [List.length_set] at hj;by_cases hji:j=i.toNat
         ·subst hji;have e5:(row.xs.set i.toNat x')[i.toNat]'(by simpa using hj)=x':=List.getElem_set_self _;simp only [e5];have e6:=D4w (L:=inner) (V:= [v]) (off:=off) (by simp only [List.length_singleton];omega) hi2;simp only [spl] at e6;rw [e6];exact hnew'
         ·have e5:(row.xs.set i.toNat x')[j]'(by simpa using hj)=row.xs[j]:=List.getElem_set_ne (Ne.symm hji) _;simp only [e5];have e6:=C6b (L:=inner) (V:= [v]) (off:=off) (j:=j) (by simp only [List.length_singleton];omega) hi2 hji;simp only [spl] at e6;rw [e6];exact (hels j hj).move (hmv [j] (by simp)) hk')
       simp only [Oper.wp,hrun',Oper.upon,hdst];exact hn _ _ h2
     ·cases h
    ·cases h
   ·cases h
  ·cases h
 ·cases h
def E3m(s:St)(x:Operand):Bool:=match I0 s x with
 | some (.one (.sub _ _ _ _),_)=>true
 | _=>false
def E3n(s:St)(x:Operand):Bool:=match I0 s x with
 | some (.one (.ext _ _ _ _ _ _ _ _),_)=>true
 | _=>false
end Go.Proofs.YthnfghmjipikhaaGreatDoor.Ev
namespace Go.Proofs.YthnfghmjipikhaaGreatDoor.Ev
def mvF(d hi lo hi2:Nat):D6->Option D6
 | []=>some [2*d]
 | j::q=>match Nat.blt j hi with
  | true=>some (2*d::j::q)
  | false=>match Nat.ble lo j with
   | true=>some (2*d::(hi+(j-lo))::q)
   | false=>none
def E3o(s:St)(x y:Operand):Bool:=match I0 s x,I0 s y with
 | some (.one (.vw id 0 _),_),some (.one (.vw id' _ _),_)=>match s.getR id with
  | some r=>Nat.beq id id'&&!r.k.flat
  | none=>false
 | _,_=>false
def D9A{R:Type}(cfg:Cfg)(s:St)(d t t':Nat)(x y:Operand)(κ:Ke R):Option R:=
 match I0 s x,I0 s y,cfg.el t,Nat.beq t t' with
 | some (.one (.vw id 0 hi),rx),some (.one (.vw id' lo hi2),ry),some e,true=>match cfg.ty e,s.getR id,Nat.beq id id' with
  | some ti,some r,true=>match Nat.beq r.e e,Nat.beq ti.k.sz r.k.sz with
   | true,true=>bif decide (0<r.xs.length) then bif decide (hi<=lo) then
     κ ⟨rx++ry ++ [(.r id,.r r)],[(.t d,some (.t (.one (.own d)))),(.r d,some (.r ⟨r.e,r.k,r.xs.take hi++(r.xs.take hi2).drop lo,0⟩)),(.r id,none)],[.r d]⟩ else none else none
   | _,_=>none
  | _,_,_=>none
 | _,_,_,_=>none
theorem D9B{α:Type}{L:List α}{a n i sz:Nat}(h:(i+1)*sz<=n):(((L.drop a).take n).drop (i*sz)).take sz=(L.drop (a+i*sz)).take sz:=by
 rw [List.drop_take,List.take_take,List.drop_drop]
 congr 1
 rw [Nat.succ_mul] at h;omega
theorem D9C{R:Type}{P:Program}{cfg:Cfg}(hc:E8 P cfg){s:St}{d t t':Nat}{x y:Operand}{κ:Ke R}{r:R}(h:D9A cfg s d t t' x y κ=some r) :
  OutE P s (.call {callee:=.builtin .append,args:=#[x,y],argTypes:=#[t,t']}) d κ r:=by
 unfold D9A at h;split at h
 ·rename_i id hi rx id' lo hi2 ry e ex ey et htt;have htt:=Nat.eq_of_beq_eq_true htt;subst htt;split at h
  ·rename_i ti row eti er eid;have eid:=Nat.eq_of_beq_eq_true eid;subst eid;split at h
   ·rename_i he hsz;have he:=Nat.eq_of_beq_eq_true he;have hsz:=Nat.eq_of_beq_eq_true hsz;subst he;obtain ⟨h0,h⟩:=C6 h;obtain ⟨hhl,h⟩:=C6 h;have h0:=of_decide_eq_true h0;have hhl:=of_decide_eq_true hhl;refine ⟨_,h,Reads.app.2 ⟨Reads.app.2 ⟨A6 ex,A6 ey⟩,fun p hp=>by rw [List.mem_singleton.1 hp];exact St.getR_some.1 er⟩,fun n o ho hdst hd w0 Z0 s' a m hr hrd hnew next Q hn=>?_⟩
    clear h
    have hrdA:=Reads.app.1 (Reads.app.1 hrd).1;have hrow:s'.get (.r id)=some (.r row):=(Reads.app.1 hrd).2 (Loc.r id,LV.r row) List.mem_cons_self;have hx:LfC s' m (.vw id 0 hi) (a.eval x):=B5 ex hr hrdA.1;have hy:LfC s' m (.vw id lo hi2) (a.eval y):=B5 ey hr hrdA.2;obtain ⟨_,hhi,hxv⟩:=hx.2 row hrow;obtain ⟨hlh,hhi2,hyv⟩:=hy.2 row hrow;obtain ⟨f,z,hi',hs,hb,hz,hzc,_⟩:=hc.info eti;obtain ⟨inner,hown,hcol,hels⟩:=hr.rw id row hrow;rcases hown.2 with ⟨_,hn0⟩ | ⟨g,cap,cur,fz,e0,_,hg,hfz,hnc,hcap,hcs,ht⟩
    ·omega
    ·have hcolg:=hcol g (by rw [e0];rfl);have hgl:=(Array.getElem?_eq_some_iff.1 hg).1;have hinl:=hown.1;have hk0:=row.k.sz_pos;have hsz':f.size=row.k.sz:=hs.trans hsz;have hml:hi2*row.k.sz<=inner.length:=by rw [hinl];exact Nat.mul_le_mul_right _ hhi2
     have hhl2:hi*row.k.sz<=inner.length:=by rw [hinl];exact Nat.mul_le_mul_right _ hhi
     generalize hnews:(inner.drop (lo*row.k.sz)).take ((hi2-lo)*row.k.sz)=news;have hnl:news.length=(hi2-lo)*row.k.sz:=by
      rw [<- hnews,List.length_take,List.length_drop,Nat.sub_mul];omega
     have hnc2:∀ j u,news[j]? = some u->inner[lo*row.k.sz+j]? = some u:=by
      intro j u hu;rw [<- hnews,List.getElem?_take] at hu;split at hu
      ·rwa [List.getElem?_drop] at hu
      ·cases hu
     have hcells:=S8 hown (g:=g) (by rw [e0];rfl);have hnmem:∀ u∈news,u∈inner:=fun u hu=>by
      rw [<- hnews] at hu;exact List.mem_of_mem_drop (List.mem_of_mem_take hu)
     have hone:∀ u∈inner,u.oneCell' = true:=by
      intro u hu;obtain ⟨j,hj,rfl⟩:=List.mem_iff_getElem.1 hu;have hq:j / row.k.sz<row.xs.length:=(Nat.div_lt_iff_lt_mul hk0).2 (by rw [<- hinl];exact hj);have:=(hels _ hq).one;refine this _ (List.mem_iff_getElem?.2 ⟨j % row.k.sz,?_⟩);rw [List.getElem?_take_of_lt (Nat.mod_lt _ hk0),List.getElem?_drop,Nat.mul_comm,Nat.div_add_mod];exact List.getElem?_eq_getElem hj
     have hxv':a.eval x=.slice (some ⟨g,0,none⟩) hi cap:=by
      rw [hxv,e0];simp only [cutV,Nat.sub_zero,Nat.zero_mul,Option.map_some];split
      ·rfl
      ·rw [add_plain]
     have hyv':∃ A:Addr,a.eval y=.slice (some A) (hi2-lo) (cap-lo)/\∀ j u,news[j]? = some u->m.w.cell? (A.add j)=some u:=by
      rw [hyv,e0];by_cases hcl:cap=lo
      ·refine ⟨⟨g,0,none⟩,by simp [cutV,hcl],fun j u hu=>?_⟩;have:news = []:=List.eq_nil_of_length_eq_zero (by rw [hnl,show hi2-lo=0 by omega,Nat.zero_mul]);rw [this] at hu;simp at hu
      ·refine ⟨⟨g,lo*row.k.sz,none⟩,by simp [cutV,hcl,add_plain],fun j u hu=>?_⟩;have:=hcells _ _ (hnc2 j u hu);rw [add_plain] at this ⊢;rw [Nat.zero_add] at this;exact this
     obtain ⟨A,hyA,hAc⟩:=hyv';have hcurl:cur.toList.length=cap*row.k.sz:=by rw [Array.length_toList];exact hcs
     have hfit:hi*row.k.sz+news.length<=cur.size:=by
      rw [hnl,hcs,<- Nat.add_mul];exact Nat.mul_le_mul_right _ (by omega)
     have hrun:=A2E (P:=P) m.w t o.type row.e f (hc.el et) hi' g hi cap cur fz hg hfz.1 A (hi2-lo) (cap-lo) news (by rw [hsz'];exact hnl) hAc (fun u hu=>hone u (hnmem u hu)) (by omega) (by rw [hsz'];exact hfit);rw [hsz'] at hrun;have hrunO:(execOp a.eval o).run P m.w=.ok (.value (.slice (some ⟨g,0,none⟩) (hi+(hi2-lo)) cap)) (m.w.setRow g (cur.toList.take (hi*row.k.sz)++news++cur.toList.drop (hi*row.k.sz+news.length)).toArray):=by
      simp [execOp,ho,hxv',hyA,resolve,invoke,builtin,Sem.run_bind,-List.append_assoc];rw [hrun];rfl
     let w':=m.w.setRow g (cur.toList.take (hi*row.k.sz)++news++cur.toList.drop (hi*row.k.sz+news.length)).toArray
     have hb':∀ b,b≠g->w'.heap[b]? = m.w.heap[b]?:=fun b hb=>setRow_other m.w g b _ hb
     have h1:=hr.drop [(id,mvF d hi lo hi2)]
     let Z1:=G4 [(id,mvF d hi lo hi2)] m.Z
     have hZg:Z1 g=some [2*d]:=by
      show G4 [(id,mvF d hi lo hi2)] m.Z g=_;simp [G4,hcolg,A0V,mvF]
     have hO:Only m.w w' Z1 Z1 (2*d):=fun b hb hq=>⟨hb' b (fun e=>hq [] (by rw [e];exact hZg)),rfl⟩
     have hnl':¬ Live ([(id,mvF d hi lo hi2)].map (·.1) |>.map (fun i=>(Loc.r i,(none:Option LV))) |>.append s') (.r d):=by
      rintro ⟨l',lv,hg',hm'⟩;refine hnew (.r d) List.mem_cons_self ⟨l',lv,?_,hm'⟩;by_cases hh:l' = .r id
      ·subst hh;have:St.get ([(Loc.r id,(none:Option LV))]++s') (.r id)=none:=St.get_cons_same _ _ _;have hg2:St.get ([(Loc.r id,(none:Option LV))]++s') (.r id)=some lv:=hg';rw [this] at hg2;cases hg2
      ·have hg2:St.get ([(Loc.r id,(none:Option LV))]++s') l' = some lv:=hg'
       rwa [List.singleton_append,St.get_cons_ne (Ne.symm hh)] at hg2
     have hkeep:Keeps m.w w' m.Z Z1:=fun b hb hlt=>⟨hb' b (fun e=>by rw [e,hcolg] at hb;cases hb),(P3 m.w _ m.Z b hb hlt).2⟩
     have hmv:∀ j j',mvF d hi lo hi2 (j :: [])=some [2*d,j']->(∀ q,mvF d hi lo hi2 (j::q)=some (2*d::j'::q))->Moves m.w w' m.Z Z1 ([2*id] ++ [j]) ([2*d] ++ [j']):=by
      intro j j' _ hq b q hb hlt;have hb2:m.Z b=some (2*id::j::q):=hb;refine ⟨hb' b (fun e=>by rw [e,hcolg] at hb2;injection hb2 with hb2;injection hb2 with _ hb2;cases hb2),?_⟩;show G4 [(id,mvF d hi lo hi2)] m.Z b=_;simp only [G4,hb2,A0V,if_true,hq];rfl
     have hlen:(row.xs.take hi++(row.xs.take hi2).drop lo).length=hi+(hi2-lo):=by
      simp only [List.length_append,List.length_take,List.length_drop];omega
     have hsz2:(cur.toList.take (hi*row.k.sz)++news++cur.toList.drop (hi*row.k.sz+news.length)).toArray.size=cur.size:=by
      simp only [List.size_toArray,List.length_append,List.length_take,List.length_drop,Array.length_toList];omega
     have htk:cur.toList.take (hi*row.k.sz)=inner.take (hi*row.k.sz):=by
      rw [<- ht,List.take_take,Nat.min_eq_left (Nat.mul_le_mul_right _ hhi)]
     have h2:=h1.only (d:=d) hd hnl' (row:=⟨row.e,row.k,row.xs.take hi++(row.xs.take hi2).drop lo,0⟩) (v:=.slice (some ⟨g,0,none⟩) (hi+(hi2-lo)) cap) (w':=w') (Z':=Z1) hO (by simp [w']) rfl rfl rfl (by
      refine ⟨inner.take (hi*row.k.sz)++news,⟨?_,.inr ⟨g,cap,_,fz,?_,Nat.zero_le _,setRow_heap m.w g cur _ row.e _ hg,by rw [hsz2];exact hfz,?_,hcap,by rw [hsz2];exact hcs,?_⟩⟩,fun g' hg'=>?_,fun j hj=>?_⟩
      ·simp only [hlen,List.length_append,List.length_take,hnl,Nat.add_mul];omega
      ·simp only [hlen]
      ·simp only [hlen];omega
      ·simp only [hlen,htk];have:(inner.take (hi*row.k.sz)++news).length=(hi+(hi2-lo))*row.k.sz:=by
        simp only [List.length_append,List.length_take,hnl,Nat.add_mul];omega
       rw [<- this];exact List.take_left
      ·simp only [Value.ownBlock,Option.some.injEq] at hg';subst hg';exact hZg
      ·rw [hlen] at hj;have htl:(inner.take (hi*row.k.sz)).length=hi*row.k.sz:=by rw [List.length_take];omega
       by_cases hjh:j<hi
       ·have e1:(row.xs.take hi++(row.xs.take hi2).drop lo)[j]'(by rw [hlen];exact hj)=row.xs[j]'(by omega):=by
         rw [List.getElem_append_left (by rw [List.length_take];omega),List.getElem_take]
        have hle:j*row.k.sz+row.k.sz<=hi*row.k.sz:=by rw [<- Nat.succ_mul];exact Nat.mul_le_mul_right _ hjh
        have e2:((inner.take (hi*row.k.sz)++news).drop (j*row.k.sz)).take row.k.sz=(inner.drop (j*row.k.sz)).take row.k.sz:=by
         rw [List.drop_append_of_le_length (by omega),List.take_append_of_le_length (by rw [List.length_drop];omega),List.drop_take,List.take_take]
         congr 1
         omega
        simp only [e1,e2];exact (hels j (by omega)).move (hmv j j (by simp [mvF,A0o.2 hjh]) (fun q=>by simp [mvF,A0o.2 hjh])) hkeep
       ·have hq:hi+(lo+(j-hi)-lo)=j:=by omega
        have e1:(row.xs.take hi++(row.xs.take hi2).drop lo)[j]'(by rw [hlen];exact hj)=row.xs[lo+(j-hi)]'(by omega):=by
         rw [List.getElem_append_right (by rw [List.length_take];omega),List.getElem_drop,List.getElem_take]
         congr 1
         rw [List.length_take];omega
        have e2:((inner.take (hi*row.k.sz)++news).drop (j*row.k.sz)).take row.k.sz=(inner.drop ((lo+(j-hi))*row.k.sz)).take row.k.sz:=by
         have:j*row.k.sz=(inner.take (hi*row.k.sz)).length+(j-hi)*row.k.sz:=by
          rw [htl,<- Nat.add_mul];congr 1;omega
         rw [this,<- List.drop_drop,List.drop_left,<- hnews,D9B (by exact Nat.mul_le_mul_right _ (by omega)),<- Nat.add_mul]
        simp only [e1,e2];have hnb:Nat.blt (lo+(j-hi)) hi=false:=by
         cases e:Nat.blt (lo+(j-hi)) hi with
         | true=>have:=Nat.blt_eq.mp e;omega
         | false=>rfl
        have hble:Nat.ble lo (lo+(j-hi))=true:=Nat.ble_eq.mpr (by omega);exact (hels (lo+(j-hi)) (by omega)).move (hmv (lo+(j-hi)) j (by simp only [mvF,hnb,hble,hq]) (fun q=>by simp only [mvF,hnb,hble,hq])) hkeep)
     have h3:=h2.put (d:=d) (v:=.one (.own d)) (x:=.slice (some ⟨g,0,none⟩) (hi+(hi2-lo)) cap) hd ⟨rfl,fun r _=>by simp [upd_same]⟩;simp only [Oper.wp,hrunO,Oper.upon,hdst];exact hn _ _ h3
   ·cases h
  ·cases h
 ·cases h
end Go.Proofs.YthnfghmjipikhaaGreatDoor.Ev
namespace Go.Proofs.YthnfghmjipikhaaGreatDoor.Ev
def D9D{R:Type}(s:St)(d:Nat)(F:E10)(args:List Operand)(κ:Ke R):Option R:=
 match args with
 | [x,y]=>match I0 s x,I0 s y with
  | some (.one (.ptr b off),rx),some (.one (.str id),ry)=>match s.getB b with
   | some c=>match c[off+F.l]? with
    | some (.own rid)=>match s.getR rid with
     | some row=>match A47 row.k F.k row.xs,Nat.beq row.k.sz F.k.sz with
      | some xs,true=>A4 (F.fn xs id) fun i=>bif decide (i<0) then κ ⟨rx++(ry ++ [(.b b,.b c),(.r rid,.r row)]),[(.t d,some (.t (.tup [(true,zl F.k),(false,[.bool false])])))],[]⟩
        else κ ⟨rx++(ry ++ [(.b b,.b c),(.r rid,.r row)]),[(.t d,some (.t (.tup [(true,leaves row.k (rd row.k row.xs i) (fun j=>.sub rid d j row.ver) 0),(false,[.bool true])]))),(.x d,some (.x i))],[.x d]⟩
      | _,_=>none
     | none=>none
    | _=>none
   | none=>none
  | _,_=>none
 | _=>none
theorem Rel.grow{n:Nat}{w0:World}{Z0:Gh}{s:St}{a:Act}{m:Mem}(h:Rel n w0 Z0 s a m){w':World}(hs:m.w.heap.size<=w'.heap.size)(os:w'.os=m.w.os)(tp:w'.tape=m.w.tape)(ou:w'.output=m.w.output)
  (hb:∀ b,b<m.w.heap.size->w'.heap[b]? = m.w.heap[b]?):Rel n w0 Z0 s a ⟨w',m.Z,m.ρ,m.β⟩:=by
 have hkeep:Keeps m.w w' m.Z m.Z:=fun b h1 h2=>⟨hb b h2,h1⟩
 have hmv:∀ p,Moves m.w w' m.Z m.Z p p:=fun p b q h1 h2=>⟨hb b h2,h1⟩
 have hcell:∀ (x:Addr) v,m.w.cell? x=some v->w'.cell? x=some v:=fun x v hv=>by
  have hlt:=block_lt_of_cell hv;rw [World.cell?_of_block (hb _ hlt)];exact hv
 have hX:Ext s m s ⟨w',m.Z,m.ρ,m.β⟩ (Live s):=⟨hkeep,fun id r' _ hr=>⟨r',hr,rfl,rfl,rfl,Nat.le_refl _,fun _ _ j v hv=>hcell _ v hv,fun _=>hmv _⟩,fun b c' _ hc=>⟨c',hc,rfl⟩,fun q i _ hi=>hi⟩;refine h.change (fun _=>rfl) hX (fun id r hr=>?_) (fun b c hc=>?_) (fun b h1 h2=>⟨hb b h2,h1⟩) hs os tp ou (fun id r _ _ hg=>⟨⟨r,hg⟩,rfl⟩) (fun b c hg=>.inl ⟨⟨c,hg⟩,rfl⟩)
 ·obtain ⟨v,e,h1⟩:=Ow.move (k:=.sl r.e r.k) ⟨_,rfl,h.rw id r hr⟩ (hmv _) hkeep;injection e with e
  rw [<- e] at h1;exact h1
 ·obtain ⟨cs,h1,h2,h3,h4⟩:=h.bx b c hc;refine ⟨cs,All2.imp (fun l hl u hu=>hu.ext (hX.sub fun q hq=>⟨.b b,.b c,hc,List.mem_flatMap.2 ⟨l,hl,hq⟩⟩)) h1,h2,h3,?_⟩;have hlt:=(Array.getElem?_eq_some_iff.1 h4).1;exact (hb _ hlt).trans h4
theorem D9E{R:Type}{P:Program}{f:Nat}{F:E10}(hF:(∀ args w,(callFunc f args).run P w=.ok (.enter f args) w)/\C6V P f F){s:St}{d:Nat}{args:List Operand}{κ:Ke R}{r:R}(h:D9D s d F args κ=some r)(at':Array TypeId) :
  OutG P s (.call {callee:=.value (.func f),args:=args.toArray,argTypes:=at'}) (some d) κ r:=by
 obtain ⟨hent,hF⟩:=hF;unfold D9D at h;split at h
 ·rename_i x y;split at h
  ·rename_i b off rx id ry ex ey;split at h
   ·rename_i c ec;split at h
    ·rename_i rid el;split at h
     ·rename_i row er;split at h
      ·rename_i xs hcast hsz;obtain ⟨i,hi,h⟩:=A1o h;have hsz:=Nat.eq_of_beq_eq_true hsz;have hreads:Reads s (rx++(ry ++ [(.b b,.b c),(.r rid,.r row)])):=Reads.app.2 ⟨A6 ex,Reads.app.2 ⟨A6 ey,fun p hp=>by
        simp only [List.mem_cons,List.not_mem_nil,or_false] at hp;rcases hp with rfl | rfl
        ·exact St.getB_some.1 ec
        ·exact St.getR_some.1 er⟩⟩
       have main:∀ (w0:World) (Z0:Gh) (s':St) (a:Act) (m:Mem) (n:Nat) (o:Oper),o.op=.call {callee:=.value (.func f),args:= [x,y].toArray,argTypes:=at'}->o.dst=some d->Rel n w0 Z0 s' a m->Reads s' (rx++(ry ++ [(.b b,.b c),(.r rid,.r row)]))->
         ∀ (next:Act->World->Prop) (Q:Exit->Act->World->Prop),(∀ (cs:List Value) w',Rel n w0 Z0 s' a ⟨w',m.Z,m.ρ,m.β⟩->(i<0->cs=zc F.k)->
          (0<=i->i.toNat<row.xs.length/\cs.length=row.k.sz/\∀ g cap,m.ρ rid=.slice (some ⟨g,0,none⟩) row.xs.length cap->∀ j u,cs[j]? = some u->w'.cell? ⟨g,i.toNat*row.k.sz+j,none⟩=some u)->
          next (a.put (some d) (.tuple #[.agg cs.toArray,.bool (decide (0<=i))])) w')->o.wp P a m.w next Q:=by
        intro w0 Z0 s' a m n o ho hdst hr hrd next Q hn
        obtain ⟨hrx,hrd2⟩:=Reads.app.1 hrd;obtain ⟨hry,hrd3⟩:=Reads.app.1 hrd2;have hb:=hrd3 (.b b,.b c) (by simp);have hrow:=hrd3 (.r rid,.r row) (by simp);have hx:=(B5 ex hr hrx).2 c hb;have hy:a.eval y=.string id:=B5 ey hr hry;obtain ⟨cs0,hcs,_,_,hg⟩:=hr.bx b c hb;obtain ⟨v,hv,hvo⟩:=hcs.get el;have hvr:v=m.ρ rid:=hvo.2 row hrow;have hown:=hr.rw rid row hrow;have hfree:Ro (.rs row.e row.k) m.w (fun _=>none) row.xs [m.ρ rid]:=hown.toFree (fun b q _ _=>⟨rfl,rfl⟩) (fun b _ _=>⟨rfl,rfl⟩);have hro:Ro (.rs row.e F.k) m.w (fun _=>none) xs [m.ρ rid]:=B32 hcast hfree;have hcell:m.w.cell? ⟨(m.β b).g,(m.β b).pre.length+off+F.l,none⟩=some v:=by
         rw [cell_of_row m.w _ _ _ _ _ hg,List.getElem?_toArray,List.append_assoc,List.getElem?_append_right (by omega)];have hlt:=(List.getElem?_eq_some_iff.1 hv).1;rw [List.getElem?_append_left (by omega),<- hv]
         congr 1;omega
        have hlen:xs.length=row.xs.length:=by
         obtain ⟨A1,c1,e1,_⟩:=hfree;obtain ⟨A2,c2,e2,_⟩:=hro;rw [e1] at e2;injection e2 with e2
         injection e2 with _ e2
         exact e2.symm
        have hcalls:=hF xs id i hi m.w (m.β b).g ((m.β b).pre.length+off) v hcell (by rw [hvr];exact hro);have hrun:(execOp a.eval o).run P m.w=.ok (.enter f #[.pointer (some ⟨(m.β b).g,(m.β b).pre.length+off,none⟩),.string id]) m.w:=by
         have he:=hent #[a.eval x,a.eval y] m.w;have:execOp a.eval o=callFunc f #[a.eval x,a.eval y]:=by
          simp [execOp,ho,resolve,invoke,Act.eval,Deferred.ofValue]
         rw [this,he,hx,hy]
        simp only [Oper.wp,hrun,Oper.upon,hdst];refine hcalls.mono fun e w' hpost=>?_
        obtain ⟨cs,rfl,⟨g1,g2,g3,g4⟩,g5,g6,g7⟩:=hpost;show next (a.put (some d) _) w'
        refine hn cs w' (hr.grow g1 g2 g3 g4 g5) g6 fun h0=>?_
        obtain ⟨k1,k2,k3⟩:=g7 h0;refine ⟨by omega,by omega,fun g cap e j u hu=>?_⟩;have:=k3 ⟨g,0,none⟩ row.xs.length cap (by rw [hvr,e]) j u hu;rw [add_plain,Nat.zero_add,<- hsz] at this;have hlt:=block_lt_of_cell this;rw [World.cell?_of_block (g5 _ hlt)];exact this
       cases h0:decide (i<0) with
       | true=>
        rw [h0] at h;have h0:=of_decide_eq_true h0;refine ⟨_,h,hreads,fun n o ho hdst hlt w0 Z0 s' a m hr hrd hnew next Q hn=>main w0 Z0 s' a m n o ho hdst hr hrd next Q fun cs w' hr' hz _=>?_⟩
        have hz:=hz h0;subst hz;rw [decide_eq_false (show ¬ 0<=i by omega)];refine hn _ ⟨w',m.Z,m.ρ,m.β⟩ (hr'.put (hlt d rfl) ⟨_,rfl,⟨zc F.k,rfl,C26 _ _ _⟩,⟨_,rfl,rfl⟩,trivial⟩)
       | false=>
        rw [h0] at h;have h0:¬ i<0:=of_decide_eq_false h0;refine ⟨_,h,hreads,fun n o ho hdst hlt w0 Z0 s' a m hr hrd hnew next Q hn=>main w0 Z0 s' a m n o ho hdst hr hrd next Q fun cs w' hr' _ hz=>?_⟩
        obtain ⟨k1,k2,k3⟩:=hz (by omega);have hrow:=(Reads.app.1 (Reads.app.1 hrd).2).2 (.r rid,.r row) (by simp);have hr2:=hr'.xw [(d,i)] (fun q hq=>by rw [List.mem_singleton.1 hq];exact hnew _ (by simp));have hrow2:St.get ((.x d,some (.x i))::s') (.r rid)=some (.r row):=(St.get_cons_ne (by simp) _ _).trans hrow;obtain ⟨g,cap,ds,hv0,_,how,hcell⟩:=B4d (hr2.rw rid row hrow2) k1;have hcd:cs=ds:=by
         apply List.ext_getElem
         ·rw [k2,how.len]
         ·intro j h1 h2;have a1:=k3 g cap hv0 j _ (List.getElem?_eq_getElem h1);have a2:=hcell j _ (List.getElem?_eq_getElem h2);rw [a1] at a2;injection a2
        subst hcd;rw [decide_eq_true (show 0<=i by omega)];refine hn _ ⟨w',m.Z,m.ρ,m.β⟩ (hr2.put (hlt d rfl) ⟨_,rfl,⟨cs,rfl,?_⟩,⟨_,rfl,rfl⟩,trivial⟩);rw [A9r k1];refine B4c how fun j v hj=>⟨how.one v (List.mem_of_getElem? hj),fun r' i' hr1 hi1=>?_⟩
        have hr1:St.get ((.x d,some (.x i))::s') (.r rid)=some (.r r'):=hr1;have hi1:St.get ((.x d,some (.x i))::s') (.x d)=some (.x i'):=hi1;rw [hrow2] at hr1;rw [St.get_cons_same] at hi1;injection hr1 with hr1;injection hr1 with hr1;subst hr1
        injection hi1 with hi1;injection hi1 with hi1;subst hi1
        have hjl:=(List.getElem?_eq_some_iff.1 hj).1;rw [how.len] at hjl;refine ⟨Nat.le_refl _,fun _=>⟨by omega,k1,by omega,?_⟩⟩;show w'.cell? ((A0Q (m.ρ rid)).add _)=_;have hv1:m.ρ rid=.slice (some ⟨g,0,none⟩) row.xs.length cap:=hv0;rw [hv1,M1,add_plain,Nat.zero_add,Nat.zero_add];exact hcell j v hj
      ·cases h
     ·cases h
    ·cases h
   ·cases h
  ·cases h
 ·cases h
end Go.Proofs.YthnfghmjipikhaaGreatDoor.Ev
namespace Go.Proofs.YthnfghmjipikhaaGreatDoor.Ev
def D2p{R:Type}(s:St)(d g:Nat)(args:List Operand)(κ:Ke R):Option R:=
 match args with
 | [x,y]=>match I0 s x,I0 s y with
  | some (.one (.ro e (.int .u8) xs),rx),some (.one (.int .i64 n),ry)=>bif decide (0<n) then κ ⟨rx++ry,[(.t d,some (.t (.one (.chk g e (.int .u8) xs n))))],[]⟩ else none
  | _,_=>none
 | _=>none
theorem D6k{R:Type}{P:Program}{f g:Nat}(hF:(∀ args w,(callFunc f args).run P w=.ok (.enter f args) w)/\C1V P f g){s:St}{d:Nat}{args:List Operand}{κ:Ke R}{r:R}(h:D2p s d g args κ=some r)(at':Array TypeId) :
  OutG P s (.call {callee:=.value (.func f),args:=args.toArray,argTypes:=at'}) (some d) κ r:=by
 obtain ⟨hent,hF⟩:=hF;unfold D2p at h;split at h
 ·rename_i x y;split at h
  ·rename_i e xs rx n ry ex ey;cases h0:decide (0<n) with
   | false=>rw [h0] at h;cases h
   | true=>
    rw [h0] at h;simp only [cond_true] at h;have h0:=of_decide_eq_true h0;refine ⟨_,h,Reads.app.2 ⟨A6 ex,A6 ey⟩,fun N o ho hdst hlt w0 Z0 s' a m hr hrd hnew next Q hn=>?_⟩
    obtain ⟨hrx,hry⟩:=Reads.app.1 hrd;have hx:Ro (.rs e (.int .u8)) m.w m.Z xs [a.eval x]:=B5 ex hr hrx;have hy:a.eval y=.int .i64 n:=B5 ey hr hry;obtain ⟨A,cap,eA,_⟩:=hx;injection eA with eA _
    have hx:Ro (.rs e (.int .u8)) m.w m.Z xs [.slice A xs.length cap]:=by rw [<- eA];exact B5 ex hr hrx
    have hrun:(execOp a.eval o).run P m.w=.ok (.enter f #[.slice A xs.length cap,.int .i64 n]) m.w:=by
     have he:=hent #[a.eval x,a.eval y] m.w;have:execOp a.eval o=callFunc f #[a.eval x,a.eval y]:=by
      simp [execOp,ho,resolve,invoke,Act.eval,Deferred.ofValue]
     rw [this,he,hy,eA]
    simp only [Oper.wp,hrun,Oper.upon,hdst];refine (hF.2 m.w A xs.length cap n h0).mono fun e' w' hpost=>?_
    obtain ⟨b1,b2,rfl,⟨g1,g2,g3,g4⟩,g5,l1,l2,c1,c2⟩:=hpost;show next (a.put (some d) _) w'
    have hsame:∀ b,b<m.w.heap.size->w'.heap[b]? = m.w.heap[b]?/\(if b<m.w.heap.size then m.Z b else none)=m.Z b:=fun b hb=>⟨g5 b hb,if_pos hb⟩
    have hkeep:Keeps m.w w' m.Z (fun b=>if b<m.w.heap.size then m.Z b else none):=fun b h1 h2=>⟨g5 b h2,(if_pos h2).trans h1⟩
    have hfore:Fore m.w w' m.Z (fun b=>if b<m.w.heap.size then m.Z b else none):=fun b h1 h2=>⟨g5 b h2,(if_pos h2).trans h1⟩
    have hr':Rel N w0 Z0 s' a ⟨w',fun b=>if b<m.w.heap.size then m.Z b else none,m.ρ,m.β⟩:=
     hr.alien (ds:=a.defers) (fun b _ hb=>hsame b hb) (hr.fo.trans hfore hr.hs) g1 g2 g3 g4 (hr.df.fore hfore)
    refine hn _ ⟨w',fun b=>if b<m.w.heap.size then m.Z b else none,m.ρ,m.β⟩ (hr'.put (hlt d rfl) ⟨b1,b2,_,rfl,?_,?_,c1,c2,Ro.keep (k:=.rs e (.int .u8)) hx hkeep⟩)
    ·exact if_neg (by omega)
    ·exact if_neg (by omega)
  ·cases h
 ·cases h
def Cfg.ckOf(c:Cfg)(f:Nat):Option Nat:=match c.ck with
 | some (f',g)=>match Nat.beq f' f with
  | true=>some g
  | false=>none
 | none=>none
theorem E1f{c:Cfg}{f g:Nat}(h:c.ckOf f=some g):c.ck=some (f,g):=by
 unfold Cfg.ckOf at h;split at h
 ·rename_i f' g' e;split at h
  ·rename_i hb;injection h with h
   rw [e,Nat.eq_of_beq_eq_true hb,h]
  ·cases h
 ·cases h
end Go.Proofs.YthnfghmjipikhaaGreatDoor.Ev
namespace Go.Proofs.YthnfghmjipikhaaGreatDoor.Ev
def kp{R:Type}(d:Nat)(κ:Ke R):Kp R:=fun rds xw v=>κ ⟨rds,(.t d,some (.t v))::xw.map (fun q=>(Loc.x q.1,some (LV.x q.2))),xw.map (fun q=>Loc.x q.1)⟩
theorem OutP.g{R:Type}{P:Program}{s:St}{op:Op}{d:Nat}{κ:Ke R}{r:R}(h:OutP P s op (kp d κ) r):OutG P s op (some d) κ r:=by
 obtain ⟨rds,xw,v,h1,h2,h3⟩:=h;exact ⟨_,h1,h2,fun n o ho hd hlt=>(h3 n o ho).good hd (hlt d rfl)⟩
theorem OutE.g{R:Type}{P:Program}{s:St}{op:Op}{d:Nat}{κ:Ke R}{r:R}(h:OutE P s op d κ r):OutG P s op (some d) κ r:=by
 obtain ⟨δ,h1,h2,h3⟩:=h;exact ⟨δ,h1,h2,fun n o ho hd hlt=>h3 n o ho hd (hlt d rfl)⟩
theorem OutS.g{R:Type}{P:Program}{s:St}{op:Op}{κ:Ke R}{r:R}(h:OutS P s op κ r):OutG P s op none κ r:=by
 obtain ⟨δ,h1,h2,h3⟩:=h;exact ⟨δ,h1,h2,fun n o ho hd hlt=>h3 n o ho hd⟩
def D2q{R:Type}(cfg:Cfg)(Γ:List (Nat×Fn))(s:St)(c:Call)(d:Option Nat)(κ:Ke R):Option R:=
 match c.callee,c.args.toList,c.argTypes.toList,d with
 | .builtin .len,[x],[t],some d=>E2v cfg s t x (kp d κ)
 | .builtin .min,[x,y],_,some d=>E38 s x y (kp d κ)
 | .builtin .max,[x,y],_,some d=>E39 s x y (kp d κ)
 | .builtin .append,[x,y],[t,t'],some d=>match Nat.beq t t',E3m s x with
  | true,false=>match E3o s x y with
   | false=>E31 cfg s d t t' x y κ
   | true=>D9A cfg s d t t' x y κ
  | true,true=>D97 cfg s d t t' x y κ
  | false,_=>D94 cfg s d t t' x y κ
 | .value (.func f),args,_,d=>match cfg.pk f,d with
  | some F,some d'=>D9D s d' F args κ
  | _,_=>match cfg.ckOf f,d with
   | some g,some d'=>D2p s d' g args κ
   | _,_=>match d,E3l Γ s f args with
    | some d',true=>E3B Γ s d' f args κ
    | _,_=>C2c cfg Γ d f args 16 s κ
 | .value (.tmp t),args,_,d=>match s.getT t with
  | some (.one (.fn f))=>match Nat.beq f 999999999 with
   | false=>C2c cfg Γ d f args 16 s fun δ=>κ ⟨(.t t,.t (.one (.fn f)))::δ.rd,δ.wr,δ.new⟩
   | true=>none
  | _=>none
 | _,_,_,_=>none
theorem D6l{R:Type}{P:Program}{cfg:Cfg}(hc:E8 P cfg){Γ:List (Nat×Fn)}(hΓ:A2o P Γ){s:St}{c:Call}{d:Option Nat}{κ:Ke R}{r:R}(h:D2q cfg Γ s c d κ=some r):OutG P s (.call c) d κ r:=by
 obtain ⟨callee,args,ats⟩:=c;unfold D2q at h;split at h
 ·rename_i e1 e2 e3;simp only at e1 e2 e3;subst e1;have e2:args=#[_]:=Array.toList_inj.1 e2;have e3:ats=#[_]:=Array.toList_inj.1 e3;subst e2;subst e3;exact (E19 hc h).g
 ·rename_i e1 e2;simp only at e1 e2;subst e1;have e2:args=#[_,_]:=Array.toList_inj.1 e2;subst e2;exact (E1V h _).g
 ·rename_i e1 e2;simp only at e1 e2;subst e1;have e2:args=#[_,_]:=Array.toList_inj.1 e2;subst e2;exact (E1W h _).g
 ·rename_i e1 e2 e3;simp only at e1 e2 e3;subst e1;have e2:args=#[_,_]:=Array.toList_inj.1 e2;have e3:ats=#[_,_]:=Array.toList_inj.1 e3;subst e2;subst e3;split at h
  ·split at h
   ·exact (E1E hc h).g
   ·exact (D9C hc h).g
  ·exact (D98 hc h).g
  ·exact (D95 hc h).g
 ·rename_i f _ _ _ e1;simp only at e1;subst e1;split at h
  ·rename_i F d' e2;have:=D9E (hc.pk e2) h ats;simpa using this
  ·split at h
   ·rename_i g d' e3 _;have:=D6k (hc.ck (E1f e3)) h ats;simpa using this
   ·split at h
    ·have:=(E1d hΓ h ats).g;simpa using this
    ·have:=B8n hΓ ats h;simpa using this
 ·rename_i t e1;simp only at e1;subst e1;split at h
  ·rename_i f ht;split at h
   rotate_left
   ·cases h
   rename_i hff;have:=B8n hΓ ats h;simp only [Array.toArray_toList] at this;obtain ⟨δ,h1,h2,h3⟩:=this;refine ⟨_,h1,fun p hp=>?_,fun n o ho hd hlt=>?_⟩
   ·rcases List.mem_cons.1 hp with rfl | hp
    ·exact St.getT_some.1 ht
    ·exact h2 p hp
   ·intro w0 Z0 s' a m hr hrd hnew next Q hn
    have hv:a.tmps.getD t undef=.func (.func f) #[] #[]:=(hr.tm t _ (hrd _ List.mem_cons_self)).trans (E2M hff);have hg:=h3 n {o with op:=.call {callee:=.value (.func f),args:=args,argTypes:=ats}} (by simp) hd hlt w0 Z0 s' a m hr (fun p hp=>hrd p (List.mem_cons_of_mem _ hp)) hnew next Q hn
    have he:execOp a.eval o=execOp a.eval {o with op:=.call {callee:=.value (.func f),args:=args,argTypes:=ats}}:=by
     simp [execOp,ho,resolve,Act.eval,hv]
    unfold Oper.wp at hg ⊢;rw [he];exact hg
  ·cases h
 ·cases h
def C7w(cfg:Cfg)(Γ:List (Nat×Fn)):A5C:=fun {R} s op d κ=>match op,d with
 | .move x,some d=>D4q s x (kp d κ)
 | .assign x,some d=>D4q s x (kp d κ)
 | .pick c x y,some d=>D84 s c x y (kp d κ)
 | .binOp .eql t x (.const (.slice none 0 0)) _,some d=>C7s cfg s false t x (kp d κ)
 | .binOp .neq t x (.const (.slice none 0 0)) _,some d=>C7s cfg s true t x (kp d κ)
 | .binOp op t x y _,some d=>E2r cfg s op t x y (kp d κ)
 | .unOp op t x,some d=>pUn s op x (kp d κ)
 | .convert a b x,some d=>match D2G cfg a,A5B cfg a,A5B cfg b with
  | none,false,false=>E3A cfg s d a b x κ
  | none,true,false=>D2l cfg s d a b x κ
  | _,_,_=>D86 cfg s a b x (kp d κ)
 | .build t ps,some d=>match cfg.ar t with
  | some _=>C7q cfg s t ps (kp d κ)
  | none=>D2h cfg s t ps (kp d κ)
 | .field t x f,some d=>D2H cfg s t x f (kp d κ)
 | .extract x i,some d=>C22 s x i (kp d κ)
 | .makeFunc (.func g) fs cs,some d=>E2t s g fs cs (kp d κ)
 | .fieldAddr t x f,some d=>B6C cfg s t x f (kp d κ)
 | .nilCheck x,some d=>E2u s x (kp d κ)
 | .load t x,some d=>match cfg.pt.any (Nat.beq t) with
  | true=>D2J s x (kp d κ)
  | false=>D8A cfg s t x (kp d κ)
 | .index t x i,some d=>match cfg.ar t with
  | some _=>C7r cfg s t x i (kp d κ)
  | none=>D2I cfg s t x i (kp d κ)
 | .indexAddr t x i,some d=>match cfg.ar t with
  | some _=>B8h cfg s d t x i (kp d κ)
  | none=>B6D cfg s d t x i (kp d κ)
 | .slice t x lo hi mx,some d=>D2K cfg s t x lo hi mx (kp d κ)
 | .box t x,some d=>E2w cfg s d t x κ
 | .alloc t,some d=>match cfg.ar t with
  | some _=>C7f cfg d t κ
  | none=>D2M cfg d t κ
 | .makeSlice t l c,some d=>D8F cfg s d t l c κ
 | .buildSlice t n ps,some d=>E30 cfg s d t n ps κ
 | .store t x y,none=>match E3n s y with
  | false=>D2R cfg s t x y κ
  | true=>C7v cfg s t x y κ
 | .call c,d=>D2q cfg Γ s c d κ
 | _,_=>none
theorem B4n{P:Program}{cfg:Cfg}(hc:E8 P cfg){Γ:List (Nat×Fn)}(hΓ:A2o P Γ):A1W P (C7w cfg Γ):=by
 intro R s op d κ r h;unfold C7w at h;dsimp only at h;split at h
 ·exact (C9N h (.inl rfl)).g
 ·exact (C9N h (.inr rfl)).g
 ·exact (D85 h).g
 ·exact (C6p (neg:=false) hc h _).g
 ·exact (C6p (neg:=true) hc h _).g
 ·exact (E16 hc h _).g
 ·exact (E2s h _).g
 ·split at h
  ·exact (E1c hc h).g
  ·exact (D6j hc h).g
  ·exact (D87 hc h).g
 ·split at h
  ·exact (D2i hc h).g
  ·exact (D6f hc h).g
 ·exact (D6H hc h).g
 ·exact (C9O h).g
 ·exact (E17 h).g
 ·exact (C5D hc h).g
 ·exact (E18 h).g
 ·split at h
  ·rename_i e;exact (D6J (hc.pt e) h).g
  ·exact (D8B hc h).g
 ·split at h
  ·exact (D2j hc h).g
  ·exact (D6I hc h).g
 ·split at h
  ·exact (C7d hc h).g
  ·exact (C5E hc h).g
 ·exact (D6K hc h).g
 ·exact (E1B h).g
 ·split at h
  ·exact (D2N hc h).g
  ·exact (D6L hc h).g
 ·exact (D8H hc h).g
 ·exact (E1D hc h).g
 ·split at h
  ·exact (D6M hc h).g
  ·exact (D2o hc h).g
 ·exact D6l hc hΓ h
 ·cases h
end Go.Proofs.YthnfghmjipikhaaGreatDoor.Ev
namespace Go.Proofs.YthnfghmjipikhaaGreatDoor.Ev
def D5I(cfg:Cfg)(s:St):ResultVar->Option AV
 | .tmp t=>s.getT t
 | .cell a T=>match s.getT a,cfg.ty T with
  | some (.one (.ptr b off)),some ti=>match s.getB b with
   | some c=>match Nat.beq ((c.drop off).take ti.k.sz).length ti.k.sz with
    | true=>A6J ti.agg ((c.drop off).take ti.k.sz)
    | false=>none
   | none=>none
  | _,_=>none
def B8p(tmps:Array Value):ResultVar->Sem Value
 | .tmp t=>pure (tmps.getD t undef)
 | .cell a t=>do loadVar t (<- asAddr (tmps.getD a undef))
theorem D9F{P:Program}{cfg:Cfg}(hc:E8 P cfg){s:St}{rv:ResultVar}{v:AV}(h:D5I cfg s rv=some v){n:Nat}{w0:World}{Z0:Gh}{a:Act}{m:Mem}(hr:Rel n w0 Z0 s a m) :
  ∃ val,(B8p a.tmps rv).run P m.w=.ok val m.w/\AVC s m v val:=by
 cases rv with
 | tmp t=>
  simp only [D5I] at h;exact ⟨_,rfl,hr.tm t v (St.getT_some.1 h)⟩
 | cell x T=>
  simp only [D5I] at h;split at h
  ·rename_i b off ti e1 et;split at h
   ·rename_i c ec;split at h
    ·rename_i el;have hb:=St.getB_some.1 ec;have hx:=(hr.tm x _ (St.getT_some.1 e1)).2 c hb;obtain ⟨cs,hcs,_,_,hg⟩:=hr.bx b c hb;obtain ⟨y,hy,hv⟩:=A8d (P:=P) hc et h (Nat.eq_of_beq_eq_true el) ((hcs.drop off).take ti.k.sz) (ad:=⟨(m.β b).g,(m.β b).pre.length+off,none⟩) (fun j u hu=>by
      have hj:=(List.getElem?_eq_some_iff.1 hu).1;have hj':j<ti.k.sz:=by rw [List.length_take] at hj;omega
      rw [List.getElem?_take_of_lt hj',List.getElem?_drop] at hu;rw [add_plain,cell_of_row m.w _ _ _ _ _ hg];have hlt:=(List.getElem?_eq_some_iff.1 hu).1;rw [List.getElem?_toArray,List.append_assoc,List.getElem?_append_right (by omega),List.getElem?_append_left (by omega)];rw [<- hu];congr 1;omega)
     refine ⟨y,?_,hv⟩;simp only [B8p];rw [hx];simp [asAddr,Sem.run_bind,hy]
    ·cases h
   ·cases h
  ·cases h
def B8q(cfg:Cfg)(s:St):List ResultVar->Option (List AV)
 | []=>some []
 | rv::rvs=>match D5I cfg s rv,B8q cfg s rvs with
  | some v,some vs=>some (v::vs)
  | _,_=>none
theorem C6q{P:Program}{cfg:Cfg}(hc:E8 P cfg){s:St}{n:Nat}{w0:World}{Z0:Gh}{a:Act}{m:Mem}(hr:Rel n w0 Z0 s a m):∀ {rvs:List ResultVar} {vs:List AV},B8q cfg s rvs=some vs->
  ∃ vals,(rvs.mapM (B8p a.tmps)).run P m.w=.ok vals m.w/\All2 (AVC s m) vs vals
 | [],vs,h=>by
  simp only [B8q] at h;injection h with h;subst h
  exact ⟨[],by simp,trivial⟩
 | rv::rvs,vs,h=>by
  simp only [B8q] at h;split at h
  ·rename_i v vs' e1 e2;injection h with h;subst h
   obtain ⟨val,h1,h2⟩:=D9F hc e1 hr;obtain ⟨vals,h3,h4⟩:=C6q hc hr e2;exact ⟨val::vals,by simp [List.mapM_cons,Sem.run_bind,h1,h3],h2,h4⟩
  ·cases h
theorem B6J{P:Program}{cfg:Cfg}(hc:E8 P cfg){s:St}{n:Nat}{w0:World}{Z0:Gh}{a:Act}{m:Mem}(hr:Rel n w0 Z0 s a m){fn:Func}{vs:List AV}(h:B8q cfg s fn.results.toList=some vs) :
  ∃ vals,(results fn a.tmps).run P m.w=.ok (pack vals) m.w/\All2 (AVC s m) vs vals:=by
 obtain ⟨vals,h1,h2⟩:=C6q hc hr h;refine ⟨vals,?_,h2⟩;have e:fn.results.mapM (B8p a.tmps)=List.toArray <$> fn.results.toList.mapM (B8p a.tmps):=Array.mapM_eq_mapM_toList;have hres:results fn a.tmps=(do
  let vs <- fn.results.mapM (B8p a.tmps)
  pure (if h:vs.size=1 then vs[0] else .tuple vs)):=by
  unfold results
  congr 1
 rw [hres,e];simp only [Sem.run_bind,map_eq_pure_bind,h1,Result.andThen_ok];cases vals with
 | nil=>simp [pack]
 | cons v vals=>
  cases vals with
  | nil=>simp [pack]
  | cons v2 vals=>simp [pack]
end Go.Proofs.YthnfghmjipikhaaGreatDoor.Ev
namespace Go.Proofs.YthnfghmjipikhaaGreatDoor.Ev
def E3p(g:Bool)(ls:List Lf):AV:=match g with
 | true=>.agg ls
 | false=>match ls with
  | [l]=>.one l
  | ls=>.agg ls
def B6K:Nat->(ps:List PK)->Ts (ins ps)->St
 | _,[],_=> []
 | i,.val g k _::ps,x=>(.t i,some (.t (E3p g (leaves k x.1 Lf.own (pR i)))))::(A15 (J7 (pR i) k x.1)++B6K (i+1) ps x.2)
 | i,.ptr k::ps,x=>(.t i,some (.t (.one (.ptr (pB i) 0))))::(.b (pB i),some (.b (leaves k x.1 Lf.own (pR i))))::(A15 (J7 (pR i) k x.1)++B6K (i+1) ps x.2)
def B3I(w:World)(pls:Nat->Plc)(ps:List PK)(args:List Value)(i:Nat):List Value:=match ps[i]? with
 | some (.ptr _)=>(A0R w (pls i).g).drop (pls i).pre.length
 | _=>match args[i]? with
  | some v=>v.cells.toList
  | none=> []
def A60(w:World)(Z:Col)(pls:Nat->Plc)(ps:List PK)(args:List Value):Mem:=
 ⟨w,Z,fun id=>(B3I w pls ps args ((id-1000) / 100)).getD ((id-1000) % 100) undef,fun b=>pls (b-1000)⟩
def D6m(m:Mem):Gh:=⟨m.Z,m.ρ,m.β,[]⟩
def E4h(s1:St)(m1:Mem)(args:List Value):Loc->LV->Prop
 | .t d,.t v=>∃ u,args[d]? = some u/\AVC s1 m1 v u
 | .r id,.r row=>OwL (Ow row.k m1.w m1.Z) row.e row.k.sz m1.w m1.Z [2*id] row.xs (m1.ρ id)
 | .b b,.b c=>BxC s1 m1 (m1.β b) b c
 | _,_=>False
theorem C2e(w:World)(Z:Col)(a:Nat):∀ n,Roots w Z Z (B6G a a n)
 | 0=>fun p hp=>(nomatch hp)
 | n+1=>fun p hp q=>by
  rcases List.mem_cons.1 hp with e | hp
  ·subst e;exact fun b q' hb _=>⟨rfl,hb⟩
  ·exact C2e w Z a n p hp q
theorem C6r{w:World}{Z:Col}{base:Nat}{g:Bool}{k:K}{x:k.T}{cs:List Value}(h:LvC w Z base k x cs)(hg:g=true\/k.sz=1):(toV g cs).cells.toList=cs:=by
 cases g with
 | true=>simp [toV,Value.cells]
 | false=>
  have hn:k.sz=1:=hg.resolve_left (by simp);have hl:=h.len;rw [hn] at hl;obtain ⟨c,rfl⟩:∃ c,cs = [c]:=by
   cases cs with
   | nil=>simp at hl
   | cons c cs=>exact ⟨c,by simpa using hl⟩
  have h1:=h.one c (by simp);simp only [toV];cases c<;>first | rfl | (simp [Value.oneCell'] at h1)
theorem E1g{g:Bool}{ls:List Lf}{cs:List Value}{s:St}{m:Mem}{n:Nat}(h:All2 (LfC s m) ls cs)(hl:cs.length=n)(hg:g=true\/n=1):AVC s m (E3p g ls) (toV g cs):=by
 cases g with
 | true=>exact ⟨cs,rfl,h⟩
 | false=>
  have hn:n=1:=hg.resolve_left (by simp);subst hn;cases cs with
  | nil=>simp at hl
  | cons c cs=>
   have:cs = []:=List.eq_nil_of_length_eq_zero (by simpa using hl);subst this;cases ls with
   | nil=>exact h.elim
   | cons l ls=>
    have:ls = []:=by cases ls with
     | nil=>rfl
     | cons _ _=>exact h.2.elim
    subst this;exact h.1
theorem D9G{w:World}{Z:Col}{pls:Nat->Plc}{ps0:List PK}{args:List Value}{s1:St}(hsz:∀ p∈ps0,B1J p.k=true) :
  ∀ {ps:List PK} {i:Nat} {x:Ts (ins ps)} {vs:List Value},ArgsC w Z pls i ps x vs->(∀ idx p,ps[idx]? = some p->ps0[i+idx]? = some p)->(∀ idx v,vs[idx]? = some v->args[i+idx]? = some v)->
   (∀ l lv,(l,some lv)∈B6K i ps x->E4h s1 (A60 w Z pls ps0 args) args l lv)/\vs.length=ps.length
 | [],i,x,vs,h,_,_=>by
  obtain ⟨rfl,_⟩:=h;exact ⟨fun l lv hm=>(nomatch hm),rfl⟩
 | .val g k kp::ps,i,x,vs,h,hps,hvs=>by
  obtain ⟨cs,r,rfl,hl,hg,hrest⟩:=h;have hp0:=hps 0 _ rfl;have hv0:=hvs 0 _ rfl;rw [Nat.add_zero] at hp0 hv0;have hsz0:k.sz<=100:=Nat.le_of_ble_eq_true (hsz _ (List.mem_of_getElem? hp0));obtain ⟨f1,f2⟩:=D9G (s1:=s1) hsz hrest (fun idx p hp=>by
   have:=hps (idx+1) p (by simpa using hp)
   rwa [show i+(idx+1)=i+1+idx by omega] at this) (fun idx v hv=>by
   have:=hvs (idx+1) v (by simpa using hv)
   rwa [show i+(idx+1)=i+1+idx by omega] at this)
  have hac:B3I w pls ps0 args i=cs:=by
   simp only [B3I,hp0,hv0];exact C6r hl hg
  obtain ⟨e1,e2⟩:=B03 (s1:=s1) (m1:=A60 w Z pls ps0 args) (nb:=pR i) hl (.inr (Keeps.refl _ _)) (C2e _ _ _ _) rfl rfl fun c v hc hlk=>by
   have hlt:=(List.getElem?_eq_some_iff.1 hc).1;have hlen:=hl.len;show (B3I w pls ps0 args ((pR i+c-1000) / 100)).getD ((pR i+c-1000) % 100) undef=v;have h1:(pR i+c-1000) / 100=i:=by simp only [pR];omega
   have h2:(pR i+c-1000) % 100=c:=by simp only [pR];omega
   rw [h1,h2,hac,List.getD_eq_getElem?_getD,hc];rfl
  refine ⟨fun l lv hm=>?_,by simp [f2]⟩;rcases List.mem_cons.1 hm with e | hm
  ·injection e with e1' e2';injection e2' with e2';subst e1';subst e2'
   exact ⟨_,hv0,E1g e2 hl.len hg⟩
  ·rcases List.mem_append.1 hm with hm | hm
   ·have:=e1 l lv hm;obtain ⟨c,row,rfl,rfl,_⟩:=B4l hm;exact this
   ·exact f1 l lv hm
 | .ptr k::ps,i,x,vs,h,hps,hvs=>by
  obtain ⟨cs,r,rfl,⟨hheap,hcol⟩,hl,hrest⟩:=h;have hp0:=hps 0 _ rfl;have hv0:=hvs 0 _ rfl;rw [Nat.add_zero] at hp0 hv0;have hsz0:k.sz<=100:=Nat.le_of_ble_eq_true (hsz _ (List.mem_of_getElem? hp0));obtain ⟨f1,f2⟩:=D9G (s1:=s1) hsz hrest (fun idx p hp=>by
   have:=hps (idx+1) p (by simpa using hp)
   rwa [show i+(idx+1)=i+1+idx by omega] at this) (fun idx v hv=>by
   have:=hvs (idx+1) v (by simpa using hv)
   rwa [show i+(idx+1)=i+1+idx by omega] at this)
  have hac:B3I w pls ps0 args i=cs++(pls i).post:=by
   simp only [B3I,hp0,A0R,hheap];rw [List.append_assoc,List.drop_left]
  obtain ⟨e1,e2⟩:=B03 (s1:=s1) (m1:=A60 w Z pls ps0 args) (nb:=pR i) hl (.inr (Keeps.refl _ _)) (C2e _ _ _ _) rfl rfl fun c v hc hlk=>by
   have hlt:=(List.getElem?_eq_some_iff.1 hc).1;have hlen:=hl.len;show (B3I w pls ps0 args ((pR i+c-1000) / 100)).getD ((pR i+c-1000) % 100) undef=v;have h1:(pR i+c-1000) / 100=i:=by simp only [pR];omega
   have h2:(pR i+c-1000) % 100=c:=by simp only [pR];omega
   rw [h1,h2,hac,List.getD_eq_getElem?_getD,List.getElem?_append_left hlt,hc];rfl
  have hβ:(A60 w Z pls ps0 args).β (pB i)=pls i:=by
   show pls (pB i-1000)=pls i;rw [show pB i-1000=i by simp only [pB];omega]
  refine ⟨fun l lv hm=>?_,by simp [f2]⟩;rcases List.mem_cons.1 hm with e | hm
  ·injection e with e1' e2';injection e2' with e2';subst e1';subst e2'
   exact ⟨_,hv0,rfl,fun c _=>by rw [hβ];rfl⟩
  ·rcases List.mem_cons.1 hm with e | hm
   ·injection e with e1' e2';injection e2' with e2';subst e1';subst e2'
    show BxC s1 _ ((A60 w Z pls ps0 args).β (pB i)) (pB i) _;rw [hβ];exact ⟨cs,e2,hl.one,hcol,hheap⟩
   ·rcases List.mem_append.1 hm with hm | hm
    ·have:=e1 l lv hm;obtain ⟨c,row,rfl,rfl,_⟩:=B4l hm;exact this
    ·exact f1 l lv hm
theorem C2f{b:Nat}{v:Option LV}:∀ {ps:List PK} {i:Nat} {x:Ts (ins ps)},(Loc.b b,v)∈B6K i ps x->1000+i<=b/\b<1000+i+ps.length
 | [],_,_,h=>by cases h
 | .val g k kp::ps,i,x,h=>by
  simp only [B6K] at h;rcases List.mem_cons.1 h with h | h
  ·cases h
  ·rcases List.mem_append.1 h with h | h
   ·simp only [A15,List.mem_map] at h;obtain ⟨p,_,e⟩:=h;cases e
   ·have:=C2f h;simp only [List.length_cons];omega
 | .ptr k::ps,i,x,h=>by
  simp only [B6K] at h;rcases List.mem_cons.1 h with h | h
  ·cases h
  ·rcases List.mem_cons.1 h with h | h
   ·injection h with h _
    injection h with h
    subst h;simp only [List.length_cons,pB];omega
   ·rcases List.mem_append.1 h with h | h
    ·simp only [A15,List.mem_map] at h;obtain ⟨p,_,e⟩:=h;cases e
    ·have:=C2f h;simp only [List.length_cons];omega
theorem B8r{w:World}{Z:Col}{pls:Nat->Plc}{ps:List PK}{x:Ts (ins ps)}{args:List Value}(h:ArgsC w Z pls 0 ps x args)(hsz:∀ p∈ps,B1J p.k=true){n:Nat}(hn:ps.length<=n)(hn2:n<=1000) :
  Rel n w (D6m (A60 w Z pls ps args)) (B6K 0 ps x) ⟨args.toArray++Array.replicate (n-args.toArray.size) undef,[]⟩ (A60 w Z pls ps args):=by
 obtain ⟨f1,f2⟩:=D9G (s1:=B6K 0 ps x) hsz h (fun idx p hp=>by rw [Nat.zero_add];exact hp) (fun idx v hv=>by rw [Nat.zero_add];exact hv);refine ⟨by simp;omega,DfOk.nil _ _ _,fun d v hg=>?_,fun id r hg=>f1 _ _ (get_mem hg),fun b c hg=>f1 _ _ (get_mem hg),Keeps.refl _ _,Fore.refl _ _,⟨hn2,h.gi⟩,fun _ _ _ _ _=>rfl,fun b c hg=>⟨fun _ _=>rfl,fun hb=>by have:=C2f (get_mem hg);omega⟩,Nat.le_refl _,rfl,rfl,rfl⟩;obtain ⟨u,hu,hv⟩:=f1 _ _ (get_mem hg);have hlt:=(List.getElem?_eq_some_iff.1 hu).1;have:(args.toArray++Array.replicate (n-args.toArray.size) undef).getD d undef=u:=by
  rw [Array.getD_eq_getD_getElem?,Array.getElem?_append_left (by simpa using hlt)];simp [hu]
 show AVC _ _ v ((args.toArray++Array.replicate (n-args.toArray.size) undef).getD d undef);rw [this];exact hv
end Go.Proofs.YthnfghmjipikhaaGreatDoor.Ev
namespace Go.Proofs.YthnfghmjipikhaaGreatDoor.Ev
theorem A0r{n:Nat}{P:Program}{w0:World}{Z0:Gh}{s:St}{fn:Func}{R:Ending->World->Prop}:∀ (ds:List Deferred) {a:Act} {m:Mem},a.defers=ds->Z0.al = []->Rel n w0 Z0 s a m->
  (∀ a' m',a'.tmps=a.tmps->Rel n w0 Z0 s a' m'->∃ v,(results fn a'.tmps).run P m'.w=.ok v m'.w/\R (.returned v) m'.w)->LeavesInM Fence.wide 3 P fn a.tmps R ds .returning m.w
 | [],a,m,e,_,h,hK=>by
  obtain ⟨v,h1,h2⟩:=hK a m rfl h;exact ⟨v,h1,h2⟩
 | d::ds,a,m,e,he,h,hK=>by
  have hdf:=h.df;rw [e,he] at hdf;obtain ⟨D,e1,h1,h2,h3⟩:=hdf.1.2 d List.mem_cons_self;subst e1;have hn:=List.nodup_cons.1 hdf.1.1;refine ⟨by simp,.inl ⟨D,m.w.putObj D (.deferred none),rfl,run_takeDeferred h3,?_⟩⟩;have h':=h.turn (o':=.deferred none) (ds:=ds) h2 h1 ⟨⟨hn.2,fun d' hd'=>by
   obtain ⟨D',e',g1,g2,g3⟩:=hdf.1.2 d' (List.mem_cons_of_mem _ hd');exact ⟨D',e',g1,g2,(World.putObj_heap_other (fun hh=>hn.1 (by rw [<- hh,<- e'];exact hd'))).trans g3⟩⟩,fun p hp=>by rw [he] at hp;cases hp⟩
  exact A0r ds (a:={a with defers:=ds}) rfl he h' fun a' m' ht hr=>hK a' m' ht hr
end Go.Proofs.YthnfghmjipikhaaGreatDoor.Ev
namespace Go.Proofs.YthnfghmjipikhaaGreatDoor.Ev
def K.rsOnly:K->Bool
 | .sl _ _=>false
 | .pair a b=>a.rsOnly&&b.rsOnly
 | _=>true
theorem Ow.ofRo:∀ {k:K} {w:World} {Z:Col} {p:D6} {x:k.T} {cs:List Value},k.rsOnly=true->Ro k w Z x cs->Ow k w Z p x cs
 | .int _,_,_,_,_,_,_,h=>h
 | .bool,_,_,_,_,_,_,h=>h
 | .fnc _,_,_,_,_,_,_,h=>h
 | .str,_,_,_,_,_,_,h=>h
 | .rs _ _,_,_,_,_,_,_,h=>h
 | .pa _ _,_,_,_,_,_,_,h=>h
 | .sl _ _,_,_,_,_,_,hk,_=>by cases hk
 | .pair a b,_,_,_,_,_,hk,h=>by
  simp only [K.rsOnly,Bool.and_eq_true] at hk;obtain ⟨c0,c1,rfl,h0,h1⟩:=h;exact ⟨c0,c1,rfl,Ow.ofRo hk.1 h0,Ow.ofRo hk.2 h1⟩
theorem OwL.heq{α β:Type}(e:α=β){R:D6->α->List Value->Prop}{R':D6->β->List Value->Prop}{e0 sz sz':Nat}(hs:sz=sz'){w:World}{Z Z':Col}{p p':D6}{xs:List α}{ys:List β}{v:Value}
  (h:OwL R e0 sz w Z p xs v) (hx:HEq xs ys) (hc:∀ g,Z g=some p->Z' g=some p') (hR:∀ i x y ds,HEq x y->R (p ++ [i]) x ds->R' (p' ++ [i]) y ds):OwL R' e0 sz' w Z' p' ys v:=by
 cases e;cases hx;cases hs;obtain ⟨inner,ho,h1,h2⟩:=h;exact ⟨inner,ho,fun g hg=>hc g (h1 g hg),fun i hi=>hR i _ _ _ HEq.rfl (h2 i hi)⟩
@[reducible] def I2(id:Nat):Nat:=900000000+id
def Lf.rn(id:Nat):Lf->Lf
 | .own i=>match Nat.beq i id with
  | true=>.own (I2 id)
  | false=>.own i
 | l=>l
def AV.rn(id:Nat):AV->AV
 | .one l=>.one (l.rn id)
 | .agg ls=>.agg (ls.map (Lf.rn id))
 | v=>v
theorem Lf.rn_ok{s s1:St}{m m1:Mem}{id:Nat}(hown:∀ u,LfC s m (.own id) u->LfC s1 m1 (.own (I2 id)) u){l:Lf}{u:Value}(h0:LfC s m l u)(h1:LfC s1 m1 l u):LfC s1 m1 (l.rn id) u:=by
 cases l with
 | own i=>
  simp only [Lf.rn];cases e:Nat.beq i id with
  | true=>
   rw [Nat.eq_of_beq_eq_true e] at h0;exact hown u h0
  | false=>exact h1
 | _=>exact h1
theorem All2.rn{s s1:St}{m m1:Mem}{id:Nat}(hown:∀ u,LfC s m (.own id) u->LfC s1 m1 (.own (I2 id)) u):∀ {ls:List Lf} {cs:List Value},All2 (LfC s m) ls cs->All2 (LfC s1 m1) ls cs->All2 (LfC s1 m1) (ls.map (Lf.rn id)) cs
 | [],[],_,_=>trivial
 | _::_,_::_,h0,h1=>⟨Lf.rn_ok hown h0.1 h1.1,All2.rn hown h0.2 h1.2⟩
theorem AVC.rn{s s1:St}{m m1:Mem}{id:Nat}(hown:∀ u,LfC s m (.own id) u->LfC s1 m1 (.own (I2 id)) u){v:AV}{x:Value}(h0:AVC s m v x)(h1:AVC s1 m1 v x):AVC s1 m1 (v.rn id) x:=by
 cases v with
 | one l=>exact Lf.rn_ok hown h0 h1
 | agg ls=>
  obtain ⟨cs,rfl,h0⟩:=h0;obtain ⟨ds,e,h1⟩:=h1;injection e with e
  obtain rfl:=B7D e;exact ⟨cs,rfl,All2.rn hown h0 h1⟩
 | tup ps=>exact h1
 | und=>exact h1
def B9u(id e:Nat)(k:K)(ys:List k.T)(s:St):St:=(.r (I2 id),some (.r ⟨e,k,ys,0⟩))::(.r id,none)::s
theorem C6s{id e:Nat}{k:K}{ys:List k.T}{s:St}{l:Loc}(h:∀ i,l≠.r i):(B9u id e k ys s).get l=s.get l:=by
 unfold B9u;rw [St.get_cons_ne (Ne.symm (h _)),St.get_cons_ne (Ne.symm (h _))]
theorem Rel.thin0{n:Nat}{w0:World}{Z0:Gh}{s:St}{a:Act}{m:Mem}(h:Rel n w0 Z0 s a m){id:Nat}{row:Row}{k:K}{ys:List k.T}(hk:k.rsOnly=true)(hc:A47 row.k k row.xs=some ys)
  (hr:s.get (.r id)=some (.r row)) (hf:fresh s (.r (I2 id))=true):∃ Z' ρ',Rel n w0 Z0 (B9u id row.e k ys s) a ⟨m.w,Z',ρ',m.β⟩/\∀ u,LfC s m (.own id) u->LfC (B9u id row.e k ys s) ⟨m.w,Z',ρ',m.β⟩ (.own (I2 id)) u:=by
 obtain ⟨hsim,hx⟩:=T1 hc
 let f:D6->Option D6:=fun q=>match q with
  | []=>some [2*I2 id]
  | _::_=>none
 have hl:A0V [(id,f)] (2*id)=some f:=by simp [A0V]
 have h1:Rel n w0 Z0 ((.r id,none)::s) a ⟨m.w,G4 [(id,f)] m.Z,m.ρ,m.β⟩:=h.drop [(id,f)];have hnl:¬ Live ((.r id,none)::s) (.r (I2 id)):=by
  rintro ⟨l',lv,hg,hm⟩;by_cases e:l' = .r id
  ·subst e;rw [St.get_cons_same] at hg;cases hg
  ·rw [St.get_cons_ne (Ne.symm e)] at hg;exact A5A hf ⟨l',lv,hg,hm⟩
 have hne:∀ {l:Loc},l≠.r (I2 id)->St.get ((.r (I2 id),some (.r ⟨row.e,k,ys,0⟩))::(.r id,none)::s) l=St.get ((.r id,none)::s) l:=fun hl=>St.get_cons_ne (Ne.symm hl) _ _
 have hX:Ext ((.r id,none)::s) ⟨m.w,G4 [(id,f)] m.Z,m.ρ,m.β⟩ ((.r (I2 id),some (.r ⟨row.e,k,ys,0⟩))::(.r id,none)::s) ⟨m.w,G4 [(id,f)] m.Z,fun i=>if i=I2 id then m.ρ id else m.ρ i,m.β⟩ (Live ((.r id,none)::s)):=by
  refine ⟨Keeps.refl _ _,fun id' r' hL hr'=>?_,fun b c' _ hc'=>⟨c',by rwa [hne (by simp)] at hc',rfl⟩,fun q i _ hi=>by rwa [hne (by simp)] at hi⟩;have hid:id'≠I2 id:=fun e=>hnl (e▸hL)
  refine ⟨r',by rwa [hne (by simpa using hid)] at hr',?_,rfl,rfl,Nat.le_refl _,fun _ _ _ _ hc=>hc,fun _=>Moves.refl _ _ _⟩;show (if id' = I2 id then m.ρ id else m.ρ id')=m.ρ id';rw [if_neg hid]
 have h2:Rel n w0 Z0 ((.r (I2 id),some (.r ⟨row.e,k,ys,0⟩))::(.r id,none)::s) a ⟨m.w,G4 [(id,f)] m.Z,fun i=>if i=I2 id then m.ρ id else m.ρ i,m.β⟩:=by
  refine h1.change (fun d=>hne (by simp)) hX (fun id' r' hg=>?_) (fun b c hg=>?_) (Fore.refl _ _) (Nat.le_refl _) rfl rfl rfl (fun id' r' g1 g2 hg=>?_) (fun b c hg=>.inl ⟨⟨c,by rwa [hne (by simp)] at hg⟩,rfl⟩)
  ·by_cases hid:id' = I2 id
   ·subst hid;rw [St.get_cons_same] at hg;injection hg with hg;injection hg with hg;subst hg
    show OwL (Ow k m.w (G4 [(id,f)] m.Z)) row.e k.sz m.w (G4 [(id,f)] m.Z) [2*I2 id] ys (if I2 id=I2 id then m.ρ id else m.ρ (I2 id));rw [if_pos rfl];refine OwL.heq (K.sim_T hsim) (K.sim_sz hsim) (h.rw id row hr) hx (fun g hg=>by simp only [G4,hg,hl];rfl) (fun i x y ds hxy hds=>Ow.ofRo hk (Ro.sim hsim hxy (Ow.free hds ?_ (P3 _ _ _))));exact B31 (p:= [i]) hl fun q=>rfl
   ·rw [hne (by simpa using hid)] at hg;show OwL (Ow r'.k m.w (G4 [(id,f)] m.Z)) r'.e r'.k.sz m.w (G4 [(id,f)] m.Z) [2*id'] r'.xs (if id' = I2 id then m.ρ id else m.ρ id');rw [if_neg hid];exact h1.rw id' r' hg
  ·rw [hne (by simp)] at hg;obtain ⟨cs,g1,g2,g3,g4⟩:=h1.bx b c hg;exact ⟨cs,All2.imp (fun l hm x hb=>hb.ext (hX.sub fun q hq=>⟨.b b,.b c,hg,List.mem_flatMap.2 ⟨l,hm,hq⟩⟩)) g1,g2,g3,g4⟩
  ·have hid:id'≠I2 id:=by simp only [I2];omega
   refine ⟨⟨r',by rwa [hne (by simpa using hid)] at hg⟩,?_⟩;show (if id' = I2 id then m.ρ id else m.ρ id')=m.ρ id';rw [if_neg hid]
 have hown:∀ u,LfC s m (.own id) u->LfC ((.r (I2 id),some (.r ⟨row.e,k,ys,0⟩))::(.r id,none)::s) ⟨m.w,G4 [(id,f)] m.Z,fun i=>if i=I2 id then m.ρ id else m.ρ i,m.β⟩ (.own (I2 id)) u:=fun u hu=>by
  have hu:u.oneCell' = true/\∀ r,s.get (.r id)=some (.r r)->u=m.ρ id:=hu;show u.oneCell' = true/\∀ r',St.get ((.r (I2 id),some (.r ⟨row.e,k,ys,0⟩))::(.r id,none)::s) (.r (I2 id))=some (.r r')->u=(if I2 id=I2 id then m.ρ id else m.ρ (I2 id));refine ⟨hu.1,fun _ _=>?_⟩;rw [if_pos rfl];exact hu.2 row hr
 exact ⟨_,_,h2,hown⟩
theorem Rel.thin{n:Nat}{w0:World}{Z0:Gh}{s:St}{a:Act}{m:Mem}(h:Rel n w0 Z0 s a m){t id:Nat}{v:AV}{row:Row}{k:K}{ys:List k.T}(hk:k.rsOnly=true)(hc:A47 row.k k row.xs=some ys)
  (ht:s.get (.t t)=some (.t v)) (hr:s.get (.r id)=some (.r row)) (hf:fresh s (.r (I2 id))=true):∃ Z' ρ',Rel n w0 Z0 ((.t t,some (.t (v.rn id)))::B9u id row.e k ys s) a ⟨m.w,Z',ρ',m.β⟩:=by
 obtain ⟨Z',ρ',h2,hown⟩:=h.thin0 hk hc hr hf;exact ⟨Z',ρ',h2.retell (d:=t) (v:=v.rn id) (AVC.rn hown (h.tm t v ht) (h2.tm t v ((C6s (by simp)).trans ht)))⟩
theorem Rel.thinB{n:Nat}{w0:World}{Z0:Gh}{s:St}{a:Act}{m:Mem}(h:Rel n w0 Z0 s a m){b id:Nat}{c:List Lf}{row:Row}{k:K}{ys:List k.T}(hk:k.rsOnly=true)(hc:A47 row.k k row.xs=some ys)
  (hb:s.get (.b b)=some (.b c)) (hr:s.get (.r id)=some (.r row)) (hf:fresh s (.r (I2 id))=true):∃ Z' ρ',Rel n w0 Z0 ((.b b,some (.b (c.map (Lf.rn id))))::B9u id row.e k ys s) a ⟨m.w,Z',ρ',m.β⟩:=by
 obtain ⟨Z',ρ',h2,hown⟩:=h.thin0 hk hc hr hf;obtain ⟨ds,d1,_,_,d4⟩:=h.bx b c hb;refine ⟨Z',ρ',(h2.retellB (b:=b) (c:=c) (c':=c.map (Lf.rn id)) ((C6s (by simp)).trans hb) fun cs hcs h1=>?_).1⟩;have hcs2:BoxIs m b cs:=hcs;have:cs=ds:=BoxIs.inj hcs2 d4;subst this;exact All2.rn hown d1 h1
def K.same:K->K->Bool
 | .int a,.int b=>decide (a=b)
 | .bool,.bool=>true
 | .fnc a,.fnc b=>Nat.beq a b
 | .str,.str=>true
 | .sl e k,.sl e' k'=>Nat.beq e e'&&k.same k'
 | .rs e k,.rs e' k'=>Nat.beq e e'&&k.same k'
 | .pa e k,.pa e' k'=>Nat.beq e e'&&k.same k'
 | .pair a b,.pair a' b'=>a.same a'&&b.same b'
 | _,_=>false
def C2g(s:St):K->List Lf->Option (Nat×K)×List Lf
 | .pair a b,ls=>match C2g s a ls with
  | (some r,_)=>(some r,[])
  | (none,ls')=>C2g s b ls'
 | .sl _ k,.own id::ls=>match s.getR id with
  | some row=>match k.rsOnly&&!(row.k.same k) with
   | true=>(some (id,k),ls)
   | false=>(none,ls)
  | none=>(none,ls)
 | _,_::ls=>(none,ls)
 | _,[]=>(none,[])
def E3q(s:St)(k:K):AV->Option (Nat×K)
 | .one l=>(C2g s k [l]).1
 | .agg ls=>(C2g s k ls).1
 | _=>none
def C1k(t:Nat)(k:K):Nat->St->St
 | 0,s=>s
 | n+1,s=>match s.getT t with
  | some v=>match E3q s k v with
   | some (id,k')=>match s.getR id with
    | some row=>match k'.rsOnly&&fresh s (.r (I2 id)) with
     | true=>match A47 row.k k' row.xs with
      | some ys=>C1k t k n ((.t t,some (.t (v.rn id)))::B9u id row.e k' ys s)
      | none=>s
     | false=>s
    | none=>s
   | none=>s
  | none=>s
theorem D2r{n:Nat}{w0:World}{Z0:Gh}{a:Act}{w:World}{β:Nat->Plc}{t:Nat}{k:K}:∀ {f:Nat} {s:St} {Z:Col} {ρ:Nat->Value},Rel n w0 Z0 s a ⟨w,Z,ρ,β⟩->∃ Z' ρ',Rel n w0 Z0 (C1k t k f s) a ⟨w,Z',ρ',β⟩:=by
 intro f
 induction f with
 | zero=>intro s Z ρ h;exact ⟨Z,ρ,h⟩
 | succ f ih=>
  intro s Z ρ h;unfold C1k;split
  ·rename_i v ht;split
   ·rename_i id k' _;split
    ·rename_i row hr;split
     ·rename_i hb;simp only [Bool.and_eq_true] at hb;split
      ·rename_i ys hc;obtain ⟨Z',ρ',h2⟩:=h.thin hb.1 hc (St.getT_some.1 ht) (St.getR_some.1 hr) hb.2;exact ih h2
      ·exact ⟨Z,ρ,h⟩
     ·exact ⟨Z,ρ,h⟩
    ·exact ⟨Z,ρ,h⟩
   ·exact ⟨Z,ρ,h⟩
  ·exact ⟨Z,ρ,h⟩
def B3J(b off:Nat)(k:K):Nat->St->St
 | 0,s=>s
 | n+1,s=>match s.getB b with
  | some c=>match (C2g s k (c.drop off)).1 with
   | some (id,k')=>match s.getR id with
    | some row=>match k'.rsOnly&&fresh s (.r (I2 id)) with
     | true=>match A47 row.k k' row.xs with
      | some ys=>B3J b off k n ((.b b,some (.b (c.map (Lf.rn id))))::B9u id row.e k' ys s)
      | none=>s
     | false=>s
    | none=>s
   | none=>s
  | none=>s
theorem C9m{n:Nat}{w0:World}{Z0:Gh}{a:Act}{w:World}{β:Nat->Plc}{b off:Nat}{k:K}:∀ {f:Nat} {s:St} {Z:Col} {ρ:Nat->Value},Rel n w0 Z0 s a ⟨w,Z,ρ,β⟩->∃ Z' ρ',Rel n w0 Z0 (B3J b off k f s) a ⟨w,Z',ρ',β⟩:=by
 intro f
 induction f with
 | zero=>intro s Z ρ h;exact ⟨Z,ρ,h⟩
 | succ f ih=>
  intro s Z ρ h;unfold B3J;split
  ·rename_i c hcb;split
   ·rename_i id k' _;split
    ·rename_i row hr;split
     ·rename_i hb;simp only [Bool.and_eq_true] at hb;split
      ·rename_i ys hc;obtain ⟨Z',ρ',h2⟩:=h.thinB hb.1 hc (St.getB_some.1 hcb) (St.getR_some.1 hr) hb.2;exact ih h2
      ·exact ⟨Z,ρ,h⟩
     ·exact ⟨Z,ρ,h⟩
    ·exact ⟨Z,ρ,h⟩
   ·exact ⟨Z,ρ,h⟩
  ·exact ⟨Z,ρ,h⟩
def C80(k:K)(s:St):ResultVar->St
 | .tmp t=>C1k t k 8 s
 | .cell a _=>match s.getT a with
  | some (.one (.ptr b off))=>B3J b off k 8 s
  | _=>s
def B7L:List RK->List ResultVar->St->St
 | .val _ k::res,rv::rvs,s=>B7L res rvs (C80 k s rv)
 | .new _::res,_::rvs,s=>B7L res rvs s
 | _,_,s=>s
theorem B6L{n:Nat}{w0:World}{Z0:Gh}{a:Act}{w:World}{β:Nat->Plc}:∀ {res:List RK} {rvs:List ResultVar} {s:St} {Z:Col} {ρ:Nat->Value},Rel n w0 Z0 s a ⟨w,Z,ρ,β⟩->∃ Z' ρ',Rel n w0 Z0 (B7L res rvs s) a ⟨w,Z',ρ',β⟩:=by
 intro res
 induction res with
 | nil=>intro rvs s Z ρ h;cases rvs<;>exact ⟨Z,ρ,h⟩
 | cons r res ih=>
  intro rvs s Z ρ h;cases rvs with
  | nil=>
   have e:B7L (r::res) [] s=s:=by cases r<;>rfl
   rw [e];exact ⟨Z,ρ,h⟩
  | cons rv rvs=>
   cases r with
   | new k=>exact ih h
   | val g k=>
    have key:∃ Z' ρ',Rel n w0 Z0 (C80 k s rv) a ⟨w,Z',ρ',β⟩:=by
     cases rv with
     | tmp t=>exact D2r (t:=t) (k:=k) (f:=8) h
     | cell a' T=>
      have e:C80 k s (.cell a' T)=(match s.getT a' with
       | some (.one (.ptr b off))=>B3J b off k 8 s
       | _=>s):=rfl
      rw [e];split
      ·exact C9m h
      ·exact ⟨Z,ρ,h⟩
    obtain ⟨Z',ρ',h2⟩:=key;exact ih h2
end Go.Proofs.YthnfghmjipikhaaGreatDoor.Ev
namespace Go.Proofs.YthnfghmjipikhaaGreatDoor.Ev
def B9v(cfg:Cfg)(s:St):Nat->(ps:List PK)->Ts (ins ps)->Option (Ts (kk ps)×List Hd×List Nat×List Bx)
 | _,[],_=>some ((),[],[],[])
 | i,.val g k true::ps,x=>match gv cfg s true (pR i) k (leaves k x.1 Lf.own (pR i)) with
  | some (y,[],hd,bo,_)=>match B9v cfg s (i+1) ps x.2 with
   | some (z,hd',bo',bx)=>some ((y,z),hd++hd',bo++bo',bx)
   | none=>none
  | _=>none
 | i,.val g k false::ps,x=>B9v cfg s (i+1) ps x.2
 | i,.ptr k::ps,x=>match s.getB (pB i) with
  | some c=>match gv cfg s false (pR i) k c with
   | some (y,[],hd,bo,_)=>match B9v cfg s (i+1) ps x.2 with
    | some (z,hd',bo',bx)=>some ((y,z),hd++hd',bo++bo',⟨pB i,0,k.sz,i⟩::bx)
    | none=>none
   | _=>none
  | none=>none
def E2Q(b:Nat):Bool:=Nat.blt b 1000||Nat.ble 4096 b
def B6M(cfg:Cfg)(s:St):Nat->(res:List RK)->(ps:List PK)->List AV->Ts (kk ps)->Option (Ts (outs res ps)×List Hd×List Nat×List Bx)
 | _,[],_,[],y=>some (y,[],[],[])
 | j,.val g k::res,ps,v::vs,y=>match avG g k v with
  | some ls=>match gv cfg s false (rR j) k ls with
   | some (x,[],hd,bo,_)=>match B6M cfg s (j+1) res ps vs y with
    | some (z,hd',bo',bx')=>some ((x,z),hd++hd',bo++bo',bx')
    | none=>none
   | _=>none
  | none=>none
 | j,.new k::res,ps,.one (.ptr b 0)::vs,y=>match s.getB b,E2Q b with
  | some c,true=>match gv cfg s false (rR j) k c with
   | some (x,[],hd,bo,_)=>match B6M cfg s (j+1) res ps vs y with
    | some (z,hd',bo',bx')=>some ((x,z),hd++hd',bo++bo',⟨b,0,k.sz,4000+j⟩::bx')
    | none=>none
   | _=>none
  | _,_=>none
 | _,_,_,_,_=>none
def C81(hd:List Hd)(bo:List Nat)(bx:List Bx):Bool:=
 nodupB ((A8G hd bx).map (·.1))&&bo.all fun b=>hd.all fun h=>!(Nat.beq h.id b)
def C82(cfg:Cfg)(rvs:List ResultVar)(res:List RK)(ps:List PK)(x:Ts (ins ps))(s:St):Option (Ts (outs res ps)):=
 match B8q cfg s rvs with
 | some vs=>match B9v cfg s 0 ps x with
  | some (y,hd2,bo2,bx)=>match B6M cfg s 0 res ps vs y with
   | some (z,hd1,bo1,bx1)=>match C81 (hd1++hd2) (bo1++bo2) (bx1++bx) with
    | true=>some z
    | false=>none
   | none=>none
  | none=>none
 | none=>none
def B05(cfg:Cfg)(rvs:List ResultVar)(res:List RK)(ps:List PK)(x:Ts (ins ps))(s:St):Option (Ts (outs res ps)):=C82 cfg rvs res ps x (B7L res rvs s)
theorem B3K{w:World}{Z:Col}{s:St}{m:Mem}(hk:Keeps w m.w Z m.Z):∀ {k:K} {base nb:Nat} {x:k.T} {cs:List Value},LvC w Z base k x cs->
  (∀ j v,cs[j]? = some v->(K5 k j).isSome=true->LfC s m (.own (nb+j)) v)->All2 (LfC s m) (leaves k x Lf.own nb) cs
 | .int _,_,_,_,_,h,_=>by simp only [LvC] at h;subst h;exact ⟨rfl,trivial⟩
 | .bool,_,_,_,_,h,_=>by simp only [LvC] at h;subst h;exact ⟨rfl,trivial⟩
 | .fnc _,_,_,_,_,h,_=>by simp only [LvC] at h;subst h;exact ⟨rfl,trivial⟩
 | .str,_,_,_,_,h,_=>by simp only [LvC] at h;subst h;exact ⟨rfl,trivial⟩
 | .pa n k,base,nb,xs,cs,h,_=>by
  have h':Ro (.pa n k) w Z xs cs:=h;have h2:=h'.keep hk;rcases h with ⟨rfl,rfl⟩ | ⟨A,rfl,_⟩<;>exact ⟨h2,trivial⟩
 | .rs e k,base,nb,xs,cs,h,_=>by
  have h':Ro (.rs e k) w Z xs cs:=h;have h2:=h'.keep hk;obtain ⟨A,c,rfl,_⟩:=h;exact ⟨h2,trivial⟩
 | .sl e k,base,nb,xs,cs,h,hm=>by
  obtain ⟨v,rfl,h⟩:=h;exact ⟨hm 0 v rfl rfl,trivial⟩
 | .pair a b,base,nb,x,cs,h,hm=>by
  obtain ⟨c0,c1,rfl,h0,h1⟩:=h;refine All2.app (B3K hk h0 fun j v hv hl=>?_) (B3K hk h1 fun j v hv hl=>?_)
  ·have hj:j<a.sz:=by rw [<- h0.len];exact (List.getElem?_eq_some_iff.1 hv).1
   refine hm j v ?_ (by rw [A7R hj];exact hl);rw [List.getElem?_append_left (by rw [h0.len];exact hj)];exact hv
  ·rw [Nat.add_assoc];refine hm (a.sz+j) v ?_ (by rw [A5u];exact hl);rw [List.getElem?_append_right (by rw [h0.len];omega),h0.len,Nat.add_sub_cancel_left];exact hv
theorem B06{cfg:Cfg}{w:World}{Z:Col}{pls:Nat->Plc}{ps0:List PK}{args:List Value}(hsz:∀ p∈ps0,B1J p.k=true){s:St}{n:Nat}{a:Act}{m:Mem}(hr:Rel n w (D6m (A60 w Z pls ps0 args)) s a m){Z':Col}(hk:Keeps m.w m.w m.Z Z') :
  ∀ {ps:List PK} {i:Nat} {x:Ts (ins ps)} {vs:List Value} {y:Ts (kk ps)} {hd:List Hd} {bo:List Nat} {bx:List Bx},B9v cfg s i ps x=some (y,hd,bo,bx)->ArgsC w Z pls i ps x vs->
   (∀ idx p,ps[idx]? = some p->ps0[i+idx]? = some p)->(∀ idx v,vs[idx]? = some v->args[i+idx]? = some v)->i+ps.length<=16->CalOk m Z' hd bo->(∀ z∈bx,Moves m.w m.w m.Z Z' [2*z.b+1] [2*pB z.i+1])->B9p m.w Z' pls i ps y vs
 | [],i,x,vs,y,hd,bo,bx,h,ha,_,_,_,_,_=>ha.1
 | .val g k false::ps,i,x,vs,y,hd,bo,bx,h,ha,hps,hvs,hi,hc,hbx=>by
  obtain ⟨cs,r,rfl,hl,hg,hrest⟩:=ha;simp only [B9v] at h;exact ⟨_,r,rfl,B06 hsz hr hk h hrest (fun idx p hp=>by
   have:=hps (idx+1) p (by simpa using hp)
   rwa [show i+(idx+1)=i+1+idx by omega] at this) (fun idx v hv=>by
   have:=hvs (idx+1) v (by simpa using hv)
   rwa [show i+(idx+1)=i+1+idx by omega] at this) (by simp at hi;omega) hc hbx⟩
 | .val g k true::ps,i,x,vs,y,hd,bo,bx,h,ha,hps,hvs,hi,hc,hbx=>by
  obtain ⟨cs,r,rfl,hl,hg,hrest⟩:=ha;simp only [B9v] at h;split at h
  ·rename_i y1 hd1 bo1 rd1 e1;split at h
   ·rename_i z hd2 bo2 bx2 e2;injection h with h;injection h with h1 h;injection h with h2 h;injection h with h3 h4;subst h1;subst h2;subst h3;subst h4
    have hp0:=hps 0 _ rfl;have hv0:=hvs 0 _ rfl;rw [Nat.add_zero] at hp0 hv0;have hsz0:k.sz<=100:=Nat.le_of_ble_eq_true (hsz _ (List.mem_of_getElem? hp0));have hac:B3I w pls ps0 args i=cs:=by
     simp only [B3I,hp0,hv0];exact C6r hl hg
    have hlv:=B3K (s:=s) (m:=m) hr.kp (nb:=pR i) hl fun j v hv hlk=>by
     have hlt:=(List.getElem?_eq_some_iff.1 hv).1;have hlen:=hl.len;refine ⟨hl.one v (List.mem_of_getElem? hv),fun rr hrr=>?_⟩;rw [hr.gr (pR i+j) rr (by simp only [pR];omega) (by simp only [pR];simp at hi;omega) hrr];show v=(B3I w pls ps0 args ((pR i+j-1000) / 100)).getD ((pR i+j-1000) % 100) undef;have h1:(pR i+j-1000) / 100=i:=by simp only [pR];omega
     have h2:(pR i+j-1000) % 100=j:=by simp only [pR];omega
     rw [h1,h2,hac,List.getD_eq_getElem?_getD,hv];rfl
    obtain ⟨v0,v1,ev,hl',hrest'⟩:=B9q hr hk e1 (A5t e1) hc.left hlv;have:v1 = []:=by cases v1 with
     | nil=>rfl
     | cons _ _=>exact hrest'.elim
    subst this;rw [List.append_nil] at ev;subst ev;exact ⟨cs,r,rfl,hl',hg,B06 hsz hr hk e2 hrest (fun idx p hp=>by
     have:=hps (idx+1) p (by simpa using hp)
     rwa [show i+(idx+1)=i+1+idx by omega] at this) (fun idx v hv=>by
     have:=hvs (idx+1) v (by simpa using hv)
     rwa [show i+(idx+1)=i+1+idx by omega] at this) (by simp at hi;omega) hc.right hbx⟩
   ·cases h
  ·cases h
 | .ptr k::ps,i,x,vs,y,hd,bo,bx,h,ha,hps,hvs,hi,hc,hbx=>by
  obtain ⟨cs0,r,rfl,_,_,hrest⟩:=ha;simp only [B9v] at h;split at h
  ·rename_i c hcb;split at h
   ·rename_i y1 hd1 bo1 rd1 e1;split at h
    ·rename_i z hd2 bo2 bx2 e2;injection h with h;injection h with h1 h;injection h with h2 h;injection h with h3 h4;subst h1;subst h2;subst h3;subst h4
     have hgb:=St.getB_some.1 hcb;obtain ⟨cs,hcs,hone,hcol,hg⟩:=hr.bx _ c hgb;have hβ:m.β (pB i)=pls i:=by
      rw [(hr.gb (pB i) c hgb).1 (by simp only [pB];omega) (by simp only [pB];simp at hi;omega)];show pls (pB i-1000)=pls i;rw [show pB i-1000=i by simp only [pB];omega]
     rw [hβ] at hcol hg;obtain ⟨v0,v1,ev,hl',hrest'⟩:=B9q hr hk e1 (A5t e1) hc.left hcs;have:v1 = []:=by cases v1 with
      | nil=>rfl
      | cons _ _=>exact hrest'.elim
     subst this;rw [List.append_nil] at ev;subst ev;have hlt:(pls i).g<m.w.heap.size:=(Array.getElem?_eq_some_iff.1 hg).1;refine ⟨cs,_,r,rfl,⟨hg,(hbx _ List.mem_cons_self (pls i).g [] hcol hlt).2⟩,hl',B06 hsz hr hk e2 hrest (fun idx p hp=>by
      have:=hps (idx+1) p (by simpa using hp)
      rwa [show i+(idx+1)=i+1+idx by omega] at this) (fun idx v hv=>by
      have:=hvs (idx+1) v (by simpa using hv)
      rwa [show i+(idx+1)=i+1+idx by omega] at this) (by simp at hi;omega) hc.right (fun z hz=>hbx z (List.mem_cons_of_mem _ hz))⟩
    ·cases h
   ·cases h
  ·cases h
theorem B7M{cfg:Cfg}{s:St}{n:Nat}{w0:World}{Z0:Gh}{a:Act}{m:Mem}(hr:Rel n w0 Z0 s a m){Z':Col}(hk:Keeps m.w m.w m.Z Z'){pls:Nat->Plc}{args:List Value} :
  ∀ {res:List RK} {ps:List PK} {j:Nat} {vs:List AV} {y:Ts (kk ps)} {z:Ts (outs res ps)} {hd:List Hd} {bo:List Nat} {bx:List Bx},B6M cfg s j res ps vs y=some (z,hd,bo,bx)->CalOk m Z' hd bo->B9p m.w Z' pls 0 ps y args->
   (∀ z∈bx,Moves m.w m.w m.Z Z' [2*z.b+1] [2*pB z.i+1])->∀ {vals:List Value},All2 (AVC s m) vs vals->B78 m.w Z' pls ps args j res z vals
 | [],ps,j,vs,y,z,hd,bo,bx,h,_,hkept,_,vals,hv=>by
  cases vs with
  | cons _ _=>simp [B6M] at h
  | nil=>
   simp only [B6M] at h;injection h with h;injection h with h1 _;subst h1
   cases vals with
   | nil=>exact ⟨rfl,hkept⟩
   | cons _ _=>exact hv.elim
 | .new k::res,ps,j,vs,y,z,hd,bo,bx,h,hc,hkept,hbx,vals,hv=>by
  cases vs with
  | nil=>simp [B6M] at h
  | cons v vs=>
   cases vals with
   | nil=>exact hv.elim
   | cons u vals=>
    cases v with
    | tup _=>simp [B6M] at h
    | agg _=>simp [B6M] at h
    | und=>simp [B6M] at h
    | one l=>
     cases l with
     | ptr b off=>
      cases off with
      | succ _=>simp [B6M] at h
      | zero=>
       simp only [B6M] at h;split at h
       ·rename_i c hcb hob;split at h
        ·rename_i x1 hd1 bo1 rd1 e1;split at h
         ·rename_i z2 hd2 bo2 bx2 e2;injection h with h;injection h with h1 h;injection h with h2 h;injection h with h3 h4;subst h1;subst h2;subst h3;subst h4
          have hgb:=St.getB_some.1 hcb;obtain ⟨cs,hcs,hone,hcol,hg⟩:=hr.bx _ c hgb;have hob':¬ (1000<=b/\b<4096):=by
           simp only [E2Q,Bool.or_eq_true] at hob;rcases hob with hob | hob
           ·have:=Nat.blt_eq.mp hob;omega
           ·have:=Nat.le_of_ble_eq_true hob;omega
          obtain ⟨hpre,hpost⟩:=(hr.gb b c hgb).2 hob';have hu:u=.pointer (some ⟨(m.β b).g,0,none⟩):=by
           have:=hv.1.2 c hgb;rw [hpre] at this;simpa using this
          obtain ⟨v0,v1,ev,hl',hrest'⟩:=B9q hr hk e1 (A5t e1) hc.left hcs;have:v1 = []:=by cases v1 with
           | nil=>rfl
           | cons _ _=>exact hrest'.elim
          subst this;rw [List.append_nil] at ev;subst ev;rw [hpre,hpost] at hg;have hlt:(m.β b).g<m.w.heap.size:=(Array.getElem?_eq_some_iff.1 hg).1;have hmv:=(hbx _ List.mem_cons_self (m.β b).g [] hcol hlt).2;refine ⟨(m.β b).g,(m.β b).t,cs,vals,by rw [hu],⟨hg,?_⟩,hl',B7M hr hk e2 hc.right hkept (fun z hz=>hbx z (List.mem_cons_of_mem _ hz)) hv.2⟩;rw [List.append_nil] at hmv;rw [hmv];simp only [pB,rB]
          congr 2
          omega
         ·cases h
        ·cases h
       ·cases h
     | _=>simp [B6M] at h
 | .val g k::res,ps,j,vs,y,z,hd,bo,bx,h,hc,hkept,hbx,vals,hv=>by
  cases vs with
  | nil=>simp [B6M] at h
  | cons v vs=>
   cases vals with
   | nil=>exact hv.elim
   | cons u vals=>
    simp only [B6M] at h;split at h
    ·rename_i ls els;split at h
     ·rename_i x1 hd1 bo1 rd1 e1;split at h
      ·rename_i z2 hd2 bo2 bx2 e2;injection h with h;injection h with h1 h;injection h with h2 h;injection h with h3 h4;subst h1;subst h2;subst h3;subst h4
       obtain ⟨cs,rfl,hcs,hg⟩:=D2c els hv.1;obtain ⟨v0,v1,ev,hl',hrest'⟩:=B9q hr hk e1 (A5t e1) hc.left hcs;have:v1 = []:=by cases v1 with
        | nil=>rfl
        | cons _ _=>exact hrest'.elim
       subst this;rw [List.append_nil] at ev;subst ev;exact ⟨cs,vals,rfl,hl',hg,B7M hr hk e2 hc.right hkept hbx hv.2⟩
      ·cases h
     ·cases h
    ·cases h
noncomputable def D4(cfg:Cfg)(Γ:List (Nat×Fn))(An:Nat->Option Jn)(n:Nat)(rvs:List ResultVar)(c:Code)(ps:List PK)(res:List RK):Fn:=
 ⟨ps,res,fun x=>ev (C7w cfg Γ) cfg.ck n An c 1 (B6K 0 ps x) (Ts (outs res ps)) fun e s=>match e with
  | .exit _=>none
  | _=>B05 cfg rvs res ps x s⟩
theorem D9H{P:Program}(hm:P.follows .mixedOrders=true){cfg:Cfg}(hc:E8 P cfg){Γ:List (Nat×Fn)}(hΓ:A2o P Γ){f:Nat}{fn:Func}{c:Code}(hf:P.funcs[f]? = some fn)(hb:fn.body=some c){An:Nat->Option Jn}
  {ps:List PK} {res:List RK} (hn:ps.length<=fn.ntmps) (hn2:fn.ntmps<=1000) (hp:ps.length<=16) (hsz:∀ p∈ps,B1J p.k=true):B6 P f (D4 cfg Γ An fn.ntmps fn.results.toList c ps res):=by
 intro x y hy w Z pls args hargs;have hent:=B8r hargs hsz hn hn2;refine callsIn_wide.1 (callsIn_of_wp_marks (F:=Fence.wide) (n:=3) hf hb trivial (wpIn_wide.2 ?_));refine D8i hm (B4n hc hΓ) (fun f g e=>(hc.ck e).2.1) c 1 (B6K 0 ps x) _ _ y hy w _ _ (A60 w Z pls ps args) _ hent fun e s a0 m0 hk hs hr0=>?_
 have key:∀ (a:Act) (m:Mem),a.tmps=a0.tmps->Rel fn.ntmps w (D6m (A60 w Z pls ps args)) s a m->B05 cfg fn.results.toList res ps x s=some y->∃ v,(results fn a.tmps).run P m.w=.ok v m.w/\∃ Z' vals,Ending.returned v=.returned (pack vals)/\Keeps w m.w Z Z'/\Fore w m.w Z Z'/\Later w m.w/\B78 m.w Z' pls ps args 0 res y vals:=by
  intro a m ht hr0 h;obtain ⟨Zt,ρt,hr⟩:=B6L (res:=res) (rvs:=fn.results.toList) (w:=m.w) (β:=m.β) (Z:=m.Z) (ρ:=m.ρ) hr0;unfold B05 C82 at h;split at h
  ·rename_i vs evs;split at h
   ·rename_i y1 hd2 bo2 bx e2;split at h
    ·rename_i z hd1 bo1 bx1 e1;split at h
     ·rename_i hok;injection h with h;subst h
      simp only [C81,Bool.and_eq_true] at hok;obtain ⟨vals,hv1,hv2⟩:=B6J hc hr evs;have hcal:CalOk ⟨m.w,Zt,ρt,m.β⟩ (I1 (A8G (hd1++hd2) (bx1++bx)) ((bo1++bo2).map (2*·)) Zt) (hd1++hd2) (bo1++bo2):=by
       refine ⟨fun g hh p=>A0W m.w (N3 hok.1 (List.mem_append_left _ (List.mem_map.2 ⟨g,hh,rfl⟩))) p,fun id hid=>B4g m.w (B3A fun hm=>?_) (List.mem_map.2 ⟨id,hid,rfl⟩) []⟩;obtain ⟨g,hh,e⟩:=List.mem_map.1 hm;injection e with e
       have:=List.all_eq_true.1 (List.all_eq_true.1 hok.2 id hid) g hh;rw [e,Nat.beq_refl] at this;cases this
      have hkp:=B4f m.w (A8G (hd1++hd2) (bx1++bx)) ((bo1++bo2).map (2*·)) Zt;have hkept:=B06 hsz hr hkp e2 hargs (fun idx p hp=>by rw [Nat.zero_add];exact hp) (fun idx v hv=>by rw [Nat.zero_add];exact hv) (by omega) hcal.right
       (fun z hz=>A0W m.w (N3 hok.1 (List.mem_append_right _ (List.mem_map.2 ⟨z,List.mem_append_right _ hz,rfl⟩))) [])
      have hout:=B7M hr hkp e1 hcal.left hkept (fun z hz=>A0W m.w (N3 hok.1 (List.mem_append_right _ (List.mem_map.2 ⟨z,List.mem_append_left _ hz,rfl⟩))) []) hv2;refine ⟨_,hv1,_,vals,rfl,hr.kp.trans hkp hr.hs,hr.fo.trans (fun b hb _=>⟨rfl,by have hb2:Zt b=some []:=hb;simp only [I1,hb2]⟩) hr.hs,⟨hr.hs,hr.os,hr.tp,hr.ou⟩,hout⟩
     ·cases h
    ·cases h
   ·cases h
  ·cases h
 cases e with
 | normal=>exact A0r a0.defers rfl rfl hr0 fun a' m' ht hr=>key a' m' ht hr hk
 | ret=>exact A0r a0.defers rfl rfl hr0 fun a' m' ht hr=>key a' m' ht hr hk
 | exit id=>cases hk
end Go.Proofs.YthnfghmjipikhaaGreatDoor.Ev
namespace Go.Proofs.YthnfghmjipikhaaGreatDoor.Ev
structure R2 (P:Program) (t:Nat) (i:TyI):Prop where
 info:∃ f z,P.info? t=some f/\f.size=i.k.sz/\f.bytes=i.bytes/\f.zero=some z/\z.cells.toList=zc i.k/\(i.agg=true->z=.agg z.cells)
 und:∃ d,P.underlying t=some d/\B8g d=i.agg/\(∀ κ,i.k=.int κ->d=.int κ)/\(i.k=.bool->d=.bool)/\(i.k=.str->d=.string)/\
  (i.agg=true->∃ fs,d=.struct fs/\fs.size=i.flds.length/\∀ (j:Nat) f,i.flds[j]? = some f->∃ fd,fs[j]? = some fd/\C6U P fd f)
def B7{α:Type}:List (Nat×α)->Nat->Option α
 | [],_=>none
 | (t,i)::l,d=>match Nat.beq t d with
  | true=>some i
  | false=>B7 l d
theorem A4B{α:Type}:∀ {l:List (Nat×α)} {t:Nat} {i:α},B7 l t=some i->(t,i)∈l
 | (t0,i0)::l,t,i,h=>by
  simp only [B7] at h;split at h
  ·rename_i hb;injection h with h;subst h;rw [Nat.eq_of_beq_eq_true hb];exact List.mem_cons_self
  ·exact List.mem_cons_of_mem _ (A4B h)
def E1h(tys:List (Nat×TyI))(els:List (Nat×Nat)):Cfg:=⟨B7 tys,B7 els,fun _=>none,none,[],fun _=>none,fun _=>none⟩
theorem E1i{P:Program}{tys:List (Nat×TyI)}{els:List (Nat×Nat)}(h:∀ p∈tys,R2 P p.1 p.2)(he:∀ p∈els,P.underlying p.1=some (.slice p.2)):E8 P (E1h tys els) where
 pk:=fun h=>by cases h
 ck:=fun h=>by cases h
 pt:=fun h=>by cases h
 eq:=fun h=>by cases h
 ar:=fun h=>by cases h
 info:=fun {t i} ht=>(h _ (A4B ht)).info
 agg:=fun {t i} ht=>let ⟨d,h1,h2,_⟩:=(h _ (A4B ht)).und;⟨d,h1,h2⟩
 st:=fun {t i} ht ha=>by
  obtain ⟨d,h1,h2,_,_,_,h6⟩:=(h _ (A4B ht)).und;obtain ⟨fs,rfl,h7⟩:=h6 ha;exact ⟨fs,h1,h7⟩
 int:=fun {t i κ} ht hk=>let ⟨d,h1,_,h3,_⟩:=(h _ (A4B ht)).und;by rw [h1,h3 κ hk]
 bool:=fun {t i} ht hk=>let ⟨d,h1,_,_,h4,_⟩:=(h _ (A4B ht)).und;by rw [h1,h4 hk]
 str:=fun {t i} ht hk=>let ⟨d,h1,_,_,_,h5,_⟩:=(h _ (A4B ht)).und;by rw [h1,h5 hk]
 el:=fun {t e} ht=>he _ (A4B ht)
theorem C2h{P:Program}{t:Nat}{f:TypeInfo}{κ:IntKind}{b:Nat}(h1:P.info? t=some f)(h2:f.size=1)(h3:f.bytes=b)(h4:f.zero=some (.int κ 0))(h5:P.underlying t=some (.int κ)):R2 P t ⟨false,.int κ,b,[]⟩:=
 ⟨⟨f,_,h1,h2,h3,h4,rfl,fun h=>by cases h⟩,_,h5,rfl,fun κ' h=>by injection h with h;rw [h],fun h=>by (cases h),fun h=>by (cases h),fun h=>by cases h⟩
theorem D6n{P:Program}{t:Nat}{f:TypeInfo}{b:Nat}(h1:P.info? t=some f)(h2:f.size=1)(h3:f.bytes=b)(h4:f.zero=some (.bool false))(h5:P.underlying t=some .bool):R2 P t ⟨false,.bool,b,[]⟩:=
 ⟨⟨f,_,h1,h2,h3,h4,rfl,fun h=>by cases h⟩,_,h5,rfl,fun κ' h=>by (cases h),fun h=>rfl,fun h=>by (cases h),fun h=>by cases h⟩
theorem D9I{P:Program}{t:Nat}{f:TypeInfo}{b:Nat}(h1:P.info? t=some f)(h2:f.size=1)(h3:f.bytes=b)(h4:f.zero=some (.string ⟨#[]⟩))(h5:P.underlying t=some .string):R2 P t ⟨false,.str,b,[]⟩:=
 ⟨⟨f,_,h1,h2,h3,h4,rfl,fun h=>by cases h⟩,_,h5,rfl,fun κ' h=>by (cases h),fun h=>by (cases h),fun h=>rfl,fun h=>by cases h⟩
theorem A6u{P:Program}{t e:Nat}{k:K}{f:TypeInfo}{b:Nat}(h1:P.info? t=some f)(h2:f.size=1)(h3:f.bytes=b)(h4:f.zero=some (.slice none 0 0))(h5:P.underlying t=some (.slice e)):R2 P t ⟨false,.sl e k,b,[]⟩:=
 ⟨⟨f,_,h1,h2,h3,h4,rfl,fun h=>by cases h⟩,_,h5,rfl,fun κ' h=>by (cases h),fun h=>by (cases h),fun h=>by (cases h),fun h=>by cases h⟩
end Go.Proofs.YthnfghmjipikhaaGreatDoor.Ev
namespace Go.Proofs.YthnfghmjipikhaaGreatDoor.Ev
def M5(k:IntKind)(x y:Int):Int:=k.wrap ((BitVec.ofInt k.bits x &&& BitVec.ofInt k.bits y).toNat:Int)
def bOr(k:IntKind)(x y:Int):Int:=k.wrap ((BitVec.ofInt k.bits x ||| BitVec.ofInt k.bits y).toNat:Int)
def E3r(k:IntKind)(x y:Int):Int:=k.wrap ((BitVec.ofInt k.bits x ^^^ BitVec.ofInt k.bits y).toNat:Int)
def A1c(k:IntKind)(x y:Int):Int:=k.wrap ((BitVec.ofInt k.bits x &&& ~~~ (BitVec.ofInt k.bits y)).toNat:Int)
theorem D6o{P:Program}(hm:P.follows .mixedOrders=true){cfg:Cfg}(hc:E8 P cfg){Γ:List (Nat×Fn)}(hΓ:A2o P Γ){f:Nat}{fn:Func}{c:Code}(hf:P.funcs[f]? = some fn)(hb:fn.body=some c){An:Nat->Option Jn}
  {ps:List PK} {res:List RK} (hn:ps.length<=fn.ntmps) (hn2:fn.ntmps<=1000) (hp:ps.length<=16) (hsz:∀ p∈ps,B1J p.k=true) {g:Ts (ins ps)->Option (Ts (outs res ps))}
  (e:∀ x,(D4 cfg Γ An fn.ntmps fn.results.toList c ps res).fn x=g x):B6 P f ⟨ps,res,g⟩:=by
 have h:=D9H hm hc hΓ hf hb (An:=An) (res:=res) hn hn2 hp hsz;rw [show g=(D4 cfg Γ An fn.ntmps fn.results.toList c ps res).fn from (funext e).symm];exact h
theorem A8{P:Program}:A2o P []:=fun p hp=>by cases hp
theorem D9J{P:Program}{g:Nat}{F:Fn}{Γ:List (Nat×Fn)}(h1:Enters P g)(h2:B6 P g F)(h:A2o P Γ)(h0:Nat.blt g 1000000=true):A2o P ((g,F)::Γ):=fun p hp=>by
 rcases List.mem_cons.1 hp with rfl | hp
 ·exact .inl ⟨h0,h1,h2⟩
 ·exact h p hp
def okN(ps:List PK)(n:Nat):Bool:=Nat.ble ps.length n&&Nat.ble n 1000&&Nat.ble ps.length 16&&ps.all fun p=>B1J p.k
theorem sm{P:Program}(hm:P.follows .mixedOrders=true){cfg:Cfg}(hc:E8 P cfg){Γ:List (Nat×Fn)}(hΓ:A2o P Γ){f:Nat}{fn:Func}{c:Code}(hf:P.funcs[f]? = some fn)(hb:fn.body=some c){An:Nat->Option Jn}
  {ps:List PK} {res:List RK} (h:okN ps fn.ntmps=true) {g:Ts (ins ps)->Option (Ts (outs res ps))}
  (e:∀ x,(D4 cfg Γ An fn.ntmps fn.results.toList c ps res).fn x=g x):B6 P f ⟨ps,res,g⟩:=by
 simp only [okN,Bool.and_eq_true] at h;exact D6o hm hc hΓ hf hb (Nat.le_of_ble_eq_true h.1.1.1) (Nat.le_of_ble_eq_true h.1.1.2) (Nat.le_of_ble_eq_true h.1.2) (fun p hp=>List.all_eq_true.1 h.2 p hp) e
theorem tc{P:Program}{g:Nat}{F:Fn}{Γ:List (Nat×Fn)}(h1:Enters P g)(h2:B6 P g F)(h:A2o P Γ)(h0:Nat.blt g 1000000=true:=by rfl):A2o P ((g,F)::Γ):=D9J h1 h2 h h0
def lt:Nat->Nat->List Loc->List Loc
 | _,0,l=>l
 | a,n+1,l=>.t a::lt (a+1) n l
def lx:Nat->Nat->List Loc->List Loc
 | _,0,l=>l
 | a,n+1,l=>.x a::lx (a+1) n l
def D2s(P:Program):List Field->List (Nat×Nat×Bool)->Prop
 | [],[]=>True
 | fd::fs,f::l=>C6U P fd f/\D2s P fs l
 | _,_=>False
theorem C2i{P:Program}:∀ {fs:List Field} {l:List (Nat×Nat×Bool)},D2s P fs l->fs.length=l.length/\∀ (j:Nat) f,l[j]? = some f->∃ fd,fs[j]? = some fd/\C6U P fd f
 | [],[],_=>⟨rfl,fun j f h=>by simp at h⟩
 | fd::fs,f::l,h=>by
  have ⟨h1,h2⟩:=C2i h.2;refine ⟨by simp [h1],fun j g hj=>?_⟩;cases j with
  | zero=>simp only [List.getElem?_cons_zero,Option.some.injEq] at hj;subst hj;exact ⟨fd,rfl,h.1⟩
  | succ j=>exact h2 j g (by simpa using hj)
 | [],_::_,h=>h.elim
 | _::_,[],h=>h.elim
def K.prim:K->Bool
 | .int _=>true
 | .bool=>true
 | .str=>true
 | _=>false
theorem Q2{P:Program}{t:Nat}{f:TypeInfo}{fs:Array Field}{k:K}{b:Nat}{fl:List (Nat×Nat×Bool)}(h1:P.info? t=some f)(h2:f.size=k.sz)(h3:f.bytes=b)
  (h4:f.zero=some (.agg (zc k).toArray)) (h5:P.underlying t=some (.struct fs)) (h7:D2s P fs.toList fl) (hk:k.prim=false):R2 P t ⟨true,k,b,fl⟩:=by
 have ⟨g1,g2⟩:=C2i h7;refine ⟨⟨f,_,h1,h2,h3,h4,by simp [Value.cells],fun _=>by simp [Value.cells]⟩,_,h5,rfl,fun κ h=>?_,fun h=>?_,fun h=>?_,fun _=>⟨fs,rfl,by simpa using g1,fun j f hj=>?_⟩⟩
 ·simp only at h;rw [h] at hk;cases hk
 ·simp only at h;rw [h] at hk;cases hk
 ·simp only at h;rw [h] at hk;cases hk
 ·obtain ⟨fd,a,b⟩:=g2 j f hj;exact ⟨fd,by simpa using a,b⟩
theorem A6v{P:Program}{t e:Nat}{k:K}{f:TypeInfo}{b:Nat}(h1:P.info? t=some f)(h2:f.size=1)(h3:f.bytes=b)(h4:f.zero=some (.slice none 0 0))(h5:P.underlying t=some (.slice e)):R2 P t ⟨false,.rs e k,b,[]⟩:=
 ⟨⟨f,_,h1,h2,h3,h4,rfl,fun h=>by cases h⟩,_,h5,rfl,fun κ' h=>by (cases h),fun h=>by (cases h),fun h=>by (cases h),fun h=>by cases h⟩
def E2R(P:Program):List (Nat×TyI)->Prop
 | []=>True
 | p::l=>R2 P p.1 p.2/\E2R P l
def E2S(P:Program):List (Nat×Nat)->Prop
 | []=>True
 | p::l=>P.underlying p.1=some (.slice p.2)/\E2S P l
theorem D5J{P:Program}{tys:List (Nat×TyI)}{els:List (Nat×Nat)}(h:E2R P tys)(he:E2S P els):E8 P (E1h tys els):=by
 refine E1i ?_ ?_
 ·clear he
  induction tys with
  | nil=>intro p hp;cases hp
  | cons q l ih=>
   intro p hp;rcases List.mem_cons.1 hp with rfl | hp
   ·exact h.1
   ·exact ih h.2 p hp
 ·clear h
  induction els with
  | nil=>intro p hp;cases hp
  | cons q l ih=>
   intro p hp;rcases List.mem_cons.1 hp with rfl | hp
   ·exact he.1
   ·exact ih he.2 p hp
def Cfg.withCk(c:Cfg)(f g:Nat):Cfg:=⟨c.ty,c.el,c.pk,some (f,g),c.pt,c.eq,c.ar⟩
theorem D6p{P:Program}{c:Cfg}{f g:Nat}(hc:E8 P c)(he:∀ args w,(callFunc f args).run P w=.ok (.enter f args) w)(hF:C1V P f g):E8 P (c.withCk f g) where
 info:=hc.info
 agg:=hc.agg
 st:=hc.st
 int:=hc.int
 bool:=hc.bool
 str:=hc.str
 el:=hc.el
 ar:=hc.ar
 eq:=hc.eq
 pt:=hc.pt
 pk:=hc.pk
 ck:=fun {f' g'} h=>by
  simp only [Cfg.withCk] at h;injection h with h
  injection h with h1 h2
  subst h1;subst h2;exact ⟨he,hF⟩
def Cfg.withEq(c:Cfg)(l:List (Nat×Nat)):Cfg:=⟨c.ty,c.el,c.pk,c.ck,c.pt,B7 l,c.ar⟩
theorem C2j{P:Program}:∀ {l:List (Nat×Nat)},D81 P l->∀ {t n},B7 l t=some n->C6T P t n
 | [],_,_,_,h=>by cases h
 | p::l,h,t,n,e=>by
  simp only [B7] at e;split at e
  ·rename_i hb;injection e with e;rw [<- Nat.eq_of_beq_eq_true hb,<- e];exact h.1
  ·exact C2j h.2 e
theorem B8s{P:Program}{c:Cfg}{l:List (Nat×Nat)}(hc:E8 P c)(h:D81 P l):E8 P (c.withEq l) where
 info:=hc.info
 agg:=hc.agg
 st:=hc.st
 int:=hc.int
 bool:=hc.bool
 str:=hc.str
 el:=hc.el
 ar:=hc.ar
 pk:=hc.pk
 ck:=hc.ck
 pt:=hc.pt
 eq:=fun e=>C2j h e
def Cfg.withAr(c:Cfg)(l:List (Nat×Nat×Nat)):Cfg:=⟨c.ty,c.el,c.pk,c.ck,c.pt,c.eq,B7 l⟩
def D9K(P:Program)(ty:Nat->Option TyI):List (Nat×Nat×Nat)->Prop
 | []=>True
 | p::l=>E11 P ty p.1 p.2.1 p.2.2/\D9K P ty l
theorem C2k{P:Program}{ty:Nat->Option TyI}:∀ {l:List (Nat×Nat×Nat)},D9K P ty l->∀ {t n e},B7 l t=some (n,e)->E11 P ty t n e
 | [],_,_,_,_,h=>by cases h
 | p::l,h,t,n,e,he=>by
  simp only [B7] at he;split at he
  ·rename_i hb;injection he with he
   have h1:=h.1;rw [Nat.eq_of_beq_eq_true hb,he] at h1;exact h1
  ·exact C2k h.2 he
theorem B1N{P:Program}{ty:Nat->Option TyI}{t n e:Nat}{f:TypeInfo}{ti:TyI}(h1:P.underlying t=some (.array n e))(h2:P.info? t=some f)(h3:ty e=some ti)(h4:f.zero=some (.agg (List.replicate n (zc ti.k)).flatten.toArray)):E11 P ty t n e:=
 ⟨h1,f,_,h2,h4,fun ti' h=>by rw [h3] at h;injection h with h;subst h;rfl⟩
theorem A5F{P:Program}{c:Cfg}{l:List (Nat×Nat×Nat)}(hc:E8 P c)(h:D9K P c.ty l):E8 P (c.withAr l) where
 info:=hc.info
 agg:=hc.agg
 st:=hc.st
 int:=hc.int
 bool:=hc.bool
 str:=hc.str
 el:=hc.el
 pk:=hc.pk
 ck:=hc.ck
 pt:=hc.pt
 eq:=hc.eq
 ar:=fun e=>C2k h e
end Go.Proofs.YthnfghmjipikhaaGreatDoor.Ev
namespace Go.Proofs.YthnfghmjipikhaaGreatDoor.Ev
open Go.ChangeShapes Go.WideShapes Go.ChangeAt Go.RowKit
mutual
inductive KOf (P:Program):K->TypeId->Prop
 | int {κ:IntKind} {t:TypeId}:P.underlying t=some (.int κ)->KOf P (.int κ) t
 | bool {t:TypeId}:P.underlying t=some .bool->KOf P .bool t
 | str {t:TypeId}:P.underlying t=some .string->KOf P .str t
 | sl {e:Nat} {k:K} {t:TypeId}:P.underlying t=some (.slice e)->P.cellsOf e=k.sz->KOf P k e->KOf P (.sl e k) t
 | rs {e:Nat} {k:K} {t:TypeId}:P.underlying t=some (.slice e)->P.cellsOf e=k.sz->KOf P k e->KOf P (.rs e k) t
 | st {k:K} {t:TypeId} {fs:Array Field}:P.underlying t=some (.struct fs)->P.cellsOf t=k.sz->KFs P k fs.toList 0->KOf P k t
inductive KFs (P:Program):K->List Field->Nat->Prop
 | one {k:K} {fd:Field} {o:Nat}:fd.offset=o->P.cellsOf fd.type=k.sz->KOf P k fd.type->KFs P k [fd] o
 | cons {a b:K} {fd:Field} {fs:List Field} {o:Nat}:fd.offset=o->P.cellsOf fd.type=a.sz->KOf P a fd.type->KFs P b fs (o+a.sz)->KFs P (.pair a b) (fd::fs) o
end
def Wf:(k:K)->k.T->Prop
 | .int κ,n=>(Lit.int κ n).wf=true
 | .bool,_=>True
 | .fnc _,_=>True
 | .str,s=>s.size<=maxLen
 | .sl _ k,xs=>xs.length<=maxLen/\∀ x∈xs,Wf k x
 | .rs _ k,xs=>xs.length<=maxLen/\∀ x∈xs,Wf k x
 | .pa _ k,xs=>∀ x∈xs,Wf k x
 | .pair a b,x=>Wf a x.1/\Wf b x.2
theorem E1j{α:Type}{Q:Nat->α->Prop}{n:Nat}(h:∀ i,i<n->∃ x,Q i x):∃ xs:List α,xs.length=n/\∀ i (hi:i<xs.length),Q i xs[i]:=by
 refine ⟨List.ofFn fun i:Fin n=>(h i.1 i.2).choose,by simp,fun i hi=>?_⟩;simp only [List.getElem_ofFn];exact (h i (by simpa using hi)).choose_spec
theorem B9w{H:Type}{enc:TypeId×Value->H}{P:Program}{w:World}{held:Bool}{spare:Nat->Bool}{k:K}{t e:TypeId}(hu:P.underlying t=some (.slice e))(hc:P.cellsOf e=k.sz)
  (ih:∀ fuel cs x,DataW.trod enc P w 0 spare held fuel e cs=some x->∃ x:k.T,Ro k w A59 x cs/\Wf k x)
  {fuel:Nat} {cs:List Value} {x:DataW H×List MemPlace} (h:DataW.trod enc P w 0 spare held fuel t cs=some x) :
  ∃ xs:List k.T,RoL (Ro k w A59) k.sz w A59 xs cs/\xs.length<=maxLen/\∀ x∈xs,Wf k x:=by
 rcases DataW.trod_slice hu h with ⟨rfl,_⟩ | ⟨a,len,cap,elems,rest,n,_,rfl,_,hb,hl,hm,hlen,hel,_,_⟩
 ·exact ⟨[],⟨none,0,rfl,by simp,Nat.zero_le _,fun h=>by simp at h⟩,by simp,fun x hx=>by cases hx⟩
 ·have hx:∀ i,i<len->∃ x:k.T,Wf k x/\∃ ds,ds.length=k.sz/\Ro k w A59 x ds/\∀ j u,ds[j]? = some u->w.cell? (a.add (i*k.sz+j))=some u:=by
   intro i hi;have hy:=hel i hi;rw [List.getElem?_eq_getElem (by omega)] at hy;simp only [Option.bind_eq_some_iff] at hy;obtain ⟨ds,h3,h4⟩:=hy;obtain ⟨x,hx,hw⟩:=ih n ds _ h4;obtain ⟨g1,g2,g3⟩:=World.cells?_some h3;refine ⟨x,hw,ds,g2.trans hc,hx,fun j u hu'=>?_⟩;have hj:j<ds.length:=(List.getElem?_eq_some_iff.1 hu').1;have:=g3 j (by omega);rw [Addr.add_add,hc] at this;rw [this,hu']
  obtain ⟨xs,hlen',hq⟩:=E1j hx;subst hlen';refine ⟨xs,⟨some a,cap,rfl,hl,hm,fun _=>⟨a,rfl,rfl,fun i hi=>?_⟩⟩,by omega,fun x hx=>?_⟩
  ·obtain ⟨_,ds,q1,q2,q3⟩:=hq i hi;exact ⟨ds,q1,q2,q3⟩
  ·obtain ⟨i,hi,rfl⟩:=List.getElem_of_mem hx;exact (hq i hi).1
mutual
theorem B4o{H:Type}{enc:TypeId×Value->H}{P:Program}{w:World}{held:Bool}{spare:Nat->Bool}:∀ {k:K} {t:TypeId},KOf P k t->∀ (fuel:Nat) (cs:List Value) (x:DataW H×List MemPlace),
  DataW.trod enc P w 0 spare held fuel t cs=some x->∃ x:k.T,Ro k w A59 x cs/\Wf k x
 | _,_,.int hu,fuel,cs,x,h=>by
  obtain ⟨n,rfl,_,hw⟩:=DataW.trod_int hu h;exact ⟨n,rfl,hw⟩
 | _,_,.bool hu,fuel,cs,x,h=>by
  obtain ⟨n,rfl,_⟩:=DataW.trod_bool hu h;exact ⟨n,rfl,trivial⟩
 | _,_,.str hu,fuel,cs,x,h=>by
  obtain ⟨n,rfl,_,hw⟩:=DataW.trod_string hu h;exact ⟨n,rfl,hw⟩
 | _,_,.sl hu hc hk,fuel,cs,x,h=>by
  obtain ⟨xs,h1,h2⟩:=B9w hu hc (fun fuel cs x h=>B4o hk fuel cs x h) h;exact ⟨xs,h1,h2⟩
 | _,_,.rs hu hc hk,fuel,cs,x,h=>by
  obtain ⟨xs,h1,h2⟩:=B9w hu hc (fun fuel cs x h=>B4o hk fuel cs x h) h;exact ⟨xs,h1,h2⟩
 | k,t,.st (fs:=fs) hu hc hk,fuel,cs,x,h=>by
  obtain ⟨xs,n,_,_,hl,hlen,hf⟩:=DataW.trod_struct hu h;have:=D5K hk n cs xs (by omega) (by simpa using hlen) (fun i f hi=>hf i f (by simpa using hi));simpa using this
theorem D5K{H:Type}{enc:TypeId×Value->H}{P:Program}{w:World}{held:Bool}{spare:Nat->Bool}:∀ {k:K} {fs:List Field} {o:Nat},KFs P k fs o->∀ (fuel:Nat) (cs:List Value) (xs:List (DataW H×List MemPlace)),
  cs.length=o+k.sz->xs.length=fs.length->(∀ (i:Nat) f,fs[i]? = some f->DataW.trod enc P w 0 spare held fuel f.type ((cs.drop f.offset).take (P.cellsOf f.type))=xs[i]?)->∃ x:k.T,Ro k w A59 x (cs.drop o)/\Wf k x
 | k,_,_,.one (fd:=fd) (o:=o) ho hc hk,fuel,cs,xs,hl,hx0,h=>by
  have hy:=h 0 fd rfl;rw [List.getElem?_eq_getElem (by simp [hx0])] at hy;obtain ⟨x,hx,hw⟩:=B4o hk fuel _ _ hy;refine ⟨x,?_,hw⟩;rw [ho,hc,List.take_of_length_le (by simp only [List.length_drop];omega)] at hx;exact hx
 | _,_,_,.cons (a:=a) (b:=b) (fd:=fd) (fs:=fs) (o:=o) ho hc hk hs,fuel,cs,xs,hl,hx0,h=>by
  have hl':cs.length=o+(a.sz+b.sz):=hl;have hy:=h 0 fd rfl;rw [List.getElem?_eq_getElem (by simp [hx0])] at hy;obtain ⟨x,hx,hw⟩:=B4o hk fuel _ _ hy;obtain ⟨x2,hx2,hw2⟩:=D5K hs fuel cs xs.tail (by omega) (by simp [hx0]) (fun i f hi=>by
   have:=h (i+1) f (by simpa using hi);rw [this];cases xs<;>simp)
  refine ⟨(x,x2),⟨_,_,?_,hx,hx2⟩,hw,hw2⟩;rw [ho,hc,<- List.drop_drop,List.take_append_drop]
end
def K.low:K->Bool
 | .sl _ _=>false
 | .pair a b=>a.low&&b.low
 | _=>true
theorem D5L{w:World}{Z:Col}:∀ {k:K} (base:Nat) {x:k.T} {cs:List Value},k.low=true->Ro k w Z x cs->LvC w Z base k x cs
 | .int _,_,_,_,_,h=>h
 | .bool,_,_,_,_,h=>h
 | .fnc _,_,_,_,_,h=>h
 | .str,_,_,_,_,h=>h
 | .sl _ _,_,_,_,hl,_=>by cases hl
 | .rs _ _,_,_,_,_,h=>h
 | .pa _ _,_,_,_,_,h=>h
 | .pair a b,base,x,cs,hl,h=>by
  simp only [K.low,Bool.and_eq_true] at hl;obtain ⟨c0,c1,h1,h2,h3⟩:=h;exact ⟨c0,c1,h1,D5L base hl.1 h2,D5L _ hl.2 h3⟩
inductive PsOf (P:Program):List PK->List TypeId->Prop
 | nil:PsOf P [] []
 | st {k:K} {t:TypeId} {fs:Array Field} {ps:List PK} {ts:List TypeId}:P.underlying t=some (.struct fs)->KOf P k t->k.low=true->PsOf P ps ts->PsOf P (.val true k false::ps) (t::ts)
 | one {k:K} {t:TypeId} {ps:List PK} {ts:List TypeId}:KOf P k t->(∀ fs,P.underlying t≠some (.struct fs))->k.low=true->k.sz=1->PsOf P ps ts->PsOf P (.val false k false::ps) (t::ts)
def C00:(ps:List PK)->Ts (ins ps)->Prop
 | [],_=>True
 | .val _ k _::ps,x=>Wf k x.1/\C00 ps x.2
 | .ptr k::ps,x=>Wf k x.1/\C00 ps x.2
theorem C9n{P:Program}{w:World}{base:Nat}{t:TypeId}{fs:Array Field}(hu:P.underlying t=some (.struct fs)){v:Value}(ho:Value.okWide P w .any base t v):∃ cs:Array Value,v=.agg cs:=by
 obtain ⟨cs,h,_⟩:=okWide_struct hu ho;exact ⟨cs,h⟩
theorem D2t{P:Program}{w:World}{base:Nat}{k:K}{t:TypeId}(h:KOf P k t)(hn:∀ fs,P.underlying t≠some (.struct fs)){v:Value}(ho:Value.okWide P w .any base t v):v.cells.toList = [v]:=by
 cases h with
 | int hu=>obtain ⟨n,rfl⟩:=okWide_int hu ho;rfl
 | bool hu=>obtain ⟨n,rfl⟩:=okWide_bool hu ho;rfl
 | str hu=>obtain ⟨n,rfl⟩:=okWide_string hu ho;rfl
 | sl hu=>obtain ⟨a,l,c,rfl⟩:=okWide_slice hu ho;rfl
 | rs hu=>obtain ⟨a,l,c,rfl⟩:=okWide_slice hu ho;rfl
 | st hu=>exact absurd hu (hn _)
theorem E1k{H:Type}{enc:TypeId×Value->H}{P:Program}{W:World}{held:Bool}{spare:Nat->Bool}{base:Nat}(pls:Nat->Plc):∀ {ps:List PK} {ts:List TypeId},PsOf P ps ts->∀ (i:Nat) {vs:List Value} {ds:List (DataW H)} {pp:List MemPlace},
  DataW.TrodAll enc P W 0 spare held ts vs ds pp->(∀ (j:Nat) t v,ts[j]? = some t->vs[j]? = some v->Value.okWide P W .any base t v)->
  GI W A59->∃ x:Ts (ins ps),ArgsC W A59 pls i ps x vs/\C00 ps x:=by
 intro ps ts h
 induction h with
 | nil=>
  intro i vs ds pp h _ hg;obtain ⟨rfl,_,_⟩:=trodAll_nil h;exact ⟨(),⟨rfl,hg⟩,trivial⟩
 | st hu hk hl _ ih=>
  intro i vs ds pp h hv hg;obtain ⟨v,vs,d,ds,p,q,rfl,rfl,rfl,h1,h2⟩:=trodAll_cons h;obtain ⟨x,hx,hw⟩:=ih (i+1) h2 (fun j t v a b=>hv (j+1) t v (by simpa using a) (by simpa using b)) hg;obtain ⟨fuel,h1⟩:=h1;obtain ⟨y,hy,hw'⟩:=B4o hk fuel _ _ h1;obtain ⟨cs,rfl⟩:=C9n hu (hv 0 _ _ rfl rfl);exact ⟨(y,x),⟨_,vs,by simp [toV,Value.cells],D5L _ hl hy,.inl rfl,hx⟩,hw',hw⟩
 | one hk hn hl hz _ ih=>
  intro i vs ds pp h hv hg;obtain ⟨v,vs,d,ds,p,q,rfl,rfl,rfl,h1,h2⟩:=trodAll_cons h;obtain ⟨x,hx,hw⟩:=ih (i+1) h2 (fun j t v a b=>hv (j+1) t v (by simpa using a) (by simpa using b)) hg;obtain ⟨fuel,h1⟩:=h1;have hc:=D2t hk hn (hv 0 _ _ rfl rfl);rw [hc] at h1;obtain ⟨y,hy,hw'⟩:=B4o hk fuel _ _ h1;exact ⟨(y,x),⟨_,vs,rfl,D5L _ hl hy,.inr hz,hx⟩,hw',hw⟩
theorem B59{H:Type}{enc:TypeId×Value->H}{P:Program}(hl:laidOutB P=true){W W':World}(hb:Below W.heap.size W W'):∀ {ts:List TypeId} {vs:List Value} {ds:List (DataW H)} {pp:List MemPlace},
  (∀ t∈ts,P.readableRec t=true/\t<P.types.size)->DataW.TrodAll enc P W 0 (fun _=>true) true ts vs ds pp->DataW.TrodAll enc P W' 0 (fun b=>decide (b<W.heap.size)) true ts vs ds pp
 | [],_,_,_,_,h=>by
  obtain ⟨rfl,rfl,rfl⟩:=trodAll_nil h;exact trodAll_mk0
 | t::ts,_,_,_,hr,h=>by
  obtain ⟨v,vs,d,ds,p,q,rfl,rfl,rfl,h1,h2⟩:=trodAll_cons h;have hlt:∀ x∈p,x.block<W.heap.size:=by
   obtain ⟨m,hm⟩:=h1;exact DataW.trod_lt m _ _ _ hm
  exact ⟨p,q,Below.trod hl (hr t (by simp)).1 (hr t (by simp)).2 h1 hb hlt,B59 hl hb (fun t ht=>hr t (by simp [ht])) h2,rfl⟩
theorem D6q{P:Program}{f:Nat}{ps:List PK}{g:Ts (ins ps)->Option (Ts (outs [RK.val false .bool] ps))}(hS:B6 P f ⟨ps,[RK.val false .bool],g⟩)(hg:∀ x,C00 ps x->∃ y,g x=some (true,y))
  {ts:List TypeId} (hp:PsOf P ps ts) {H:Type} {enc:TypeId×Value->H} {W:World} {base:Nat} {args:Array Value} {ds:List (DataW H)} {pp:List MemPlace} {spare:Nat->Bool} {held:Bool}
  (hA:DataW.TrodAll enc P W 0 spare held ts args.toList ds pp) (hval:∀ (j:Nat) t v,ts[j]? = some t->args[j]? = some v->Value.okWide P W .any base t v) (hgi:GI W A59) :
  Calls P f args W fun e W'=>e=.returned (.bool true)/\Below W.heap.size W W':=by
 obtain ⟨x,hx,hw⟩:=E1k (fun _=>⟨0,0,[],[]⟩) hp 0 hA (fun j t v a b=>hval j t v a (by simpa using b)) hgi;obtain ⟨y,hy⟩:=hg x hw;have h:=hS x _ hy W A59 _ _ hx;simp only [Array.toArray_toList] at h;refine h.mono fun e W' ⟨Z',vals,he,hk,hf,hl,ho⟩=>?_
 obtain ⟨cs,r,rfl,h1,_,h2,_⟩:=ho;cases h1;subst h2;refine ⟨he,hl.os,hl.tape,hl.output,hl.size,fun b hb=>(hk b rfl hb).1⟩
theorem C01{H:Type}{enc:TypeId×Value->H}{P:Program}{W:World}{held:Bool}{spare:Nat->Bool}:∀ {ts:List TypeId} {vs:List Value} {ds:List (DataW H)} {pp:List MemPlace},
  DataW.TrodAll enc P W 0 spare held ts vs ds pp->ds.length=ts.length
 | [],_,_,_,h=>by
  obtain ⟨_,rfl,_⟩:=trodAll_nil h;rfl
 | t::ts,_,_,_,h=>by
  obtain ⟨v,vs,d,ds,p,q,rfl,rfl,rfl,h1,h2⟩:=trodAll_cons h;simp [C01 h2]
end Go.Proofs.YthnfghmjipikhaaGreatDoor.Ev
namespace Go.Proofs.YthnfghmjipikhaaGreatDoor.Ev
def C6t{α:Type}(xs:List α)(i j:Int):Option (List α×Unit):=
 bif decide (0<=i) then bif decide (i<j) then bif decide (j<=(xs.length:Int)) then some (xs.take i.toNat++xs.drop j.toNat,()) else none else none else none
def C6u{α:Type}(xs:List α)(i:Int)(ys:List α):Option (List α×Unit):=
 bif decide (0<=i) then bif decide (i<=(xs.length:Int)) then bif decide (0<ys.length) then bif decide (xs.length+ys.length<=1000000000000) then some (xs.take i.toNat++ys++xs.drop i.toNat,()) else none else none else none else none
end Go.Proofs.YthnfghmjipikhaaGreatDoor.Ev
namespace Go.Proofs.YthnfghmjipikhaaGreatDoor.Ev
open Go.ChangeShapes Go.WideShapes Go.ChangeAt Go.RowKit
theorem C9o{C:Checked}{os:Os}{f:FuncId}{fn:Func}{s:ChangeSpec}(own:ownKnob C.prog.godebug=none)(started:os.Started)(noInit:C.prog.inits.idxOf? f=none)(hfn:C.prog.funcs[f]? = some fn)
  {H:Type} {enc:TypeId×Value->H} {l:List (String×DataW Unit)}
  (witness:∃ (w:World) (tape:Tape) (i:Input),w.os=os/\(w.forCall tape i).Shaped C.prog/\i.vars = []/\Input.okWide C.prog (w.forCall tape i) .any w.heap.size f i/\
   ((s.pre enc C.prog fn [] false (w.forCall tape i).memory i.args/\laidMetH C.prog l (w.forCall tape i).memory)/\sizedMet enc C.prog fn (OpenSpec.ofChange s) false (w.forCall tape i).memory i.args)/\({}:Assume).holds C.prog (lone (Frame.enter C.prog f i.args .normal) [] (w.forCall tape i)))
  {ps:List PK} {g:Ts (ins ps)->Option (Ts (outs [RK.val false .bool] ps))} (hS:B6 C.prog f ⟨ps,[RK.val false .bool],g⟩) (hg:∀ x,C00 ps x->∃ y,g x=some (true,y))
  {ts:List TypeId} (hts:fn.params.toList=ts) (hp:PsOf C.prog ps ts) {tb:TypeId} (hres:fn.resultTypes=#[tb]) (hb:C.prog.underlying tb=some .bool)
  (hlaid:laidOutB C.prog=true) (hread:∀ t∈ts,C.prog.readableRec t=true/\t<C.prog.types.size) (hvars:s.vars = [])
  (hs:∀ ds:List (DataW H),ds.length=ts.length->s.fn H ds=⟨[.lit (.bool true)],ds,[]⟩) (hgi:∀ W:World,laidMetH C.prog l W->W.ShapedOpen C.prog->GI W A59) :
  ReturnsInHanded {} C os f .any (fun w args=>(s.pre enc C.prog fn [] false w args/\laidMetH C.prog l w)/\sizedMet enc C.prog fn (OpenSpec.ofChange s) false w args) (s.post enc C.prog fn false true false false):=by
 refine returnsInHanded_of_calls own started noInit witness ?_;intro w tape i _ hsh _ hok hpre hholds;obtain ⟨_,_,_,fn',hfn',_,_,_,_,hval⟩:=hok;have e:fn' = fn:=Option.some.inj (hfn'.symm.trans hfn);subst e;obtain ⟨⟨⟨ds,gs,before,hw,hc⟩,hx⟩,hz⟩:=hpre;have hW:=DataW.Whole.of_heap (w':=w.forCall tape i) (by rfl) hw;have hx:laidMetH C.prog l (w.forCall tape i).memory:=hx;have hL:laidMetH C.prog l (w.forCall tape i):=laidMetH.of_heap (by rfl) hx;generalize w.forCall tape i=W at *
 have hW':=hW;obtain ⟨p,q,hA,hV,rfl,hfz,hnd⟩:=hW;rw [hvars] at hV;obtain ⟨rfl,rfl⟩:=trodVars_none hV;rw [hts] at hA;have hlen:ds.length=ts.length:=C01 hA;refine (D6q hS hg hp hA (fun j t v a b=>hval j t v (by rw [<- hts] at a;simpa using a) b) (hgi W hL hsh)).mono fun e W' ⟨he,bel⟩=>?_
 subst he;have e1:s.fn H (ds ++ [])=⟨[.lit (.bool true)],ds,[]⟩:=by rw [List.append_nil];exact hs ds hlen
 have hpost:s.post enc C.prog fn' false true false false W i.args (.bool true) W':=by
  refine ⟨ds,[],_,[],p,[],hW',?_,?_,?_,bel.frame _,fun h=>by cases h⟩
  ·rw [e1,hres];exact trodAll_mk1 ⟨1,by simp [DataW.trod,Value.cells,hb]⟩
  ·rw [e1,hts];exact B59 hlaid bel hread hA
  ·rw [e1,hvars];rfl
 exact ChangeSpec.post_blind hpost
end Go.Proofs.YthnfghmjipikhaaGreatDoor.Ev
