/- Appends, stores, contracts, regions, meetings and the evaluator of code. -/
import Derived.Test.YthnfghmjipikhaaGreatDoorEvA
import Derived.Orders
import Derived.RangeFuncIn
import Derived.RangeFuncRecord
import Derived.RangeFuncSeq
import Derived.RangeFuncCalls
import Derived.LoopN
set_option linter.unusedVariables false
set_option linter.unusedSimpArgs false
namespace Go.Proofs.YthnfghmjipikhaaGreatDoor.Ev
def K.flat:K->Bool
 | .sl _ _=>false
 | .pair a b=>a.flat&&b.flat
 | _=>true
theorem B0r:∀ {k:K} {w:World} {Z:Col} {p p':H9} {x:k.T} {cs:List Value},k.flat=true->Ow k w Z p x cs->Ow k w Z p' x cs
 | .int _,_,_,_,_,_,_,_,h=>h
 | .bool,_,_,_,_,_,_,_,h=>h
 | .fnc _,_,_,_,_,_,_,_,h=>h
 | .str,_,_,_,_,_,_,_,h=>h
 | .rs _ _,_,_,_,_,_,_,_,h=>h
 | .pa _ _,_,_,_,_,_,_,_,h=>h
 | .sl _ _,_,_,_,_,_,_,hf,_=>by simp [K.flat] at hf
 | .pair a b,_,_,_,_,_,_,hf,h=>by
  simp only [K.flat,B3] at hf;obtain ⟨c0,c1,rfl,h0,h1⟩:=h;exact ⟨c0,c1,rfl,B0r hf.1 h0,B0r hf.2 h1⟩
theorem B6C:∀ {k:K} {w:World} {Z:Col} {p:H9} {x:k.T} {cs:List Value},k.flat=true->Ro k w Z x cs->Ow k w Z p x cs
 | .int _,_,_,_,_,_,_,h=>h
 | .bool,_,_,_,_,_,_,h=>h
 | .fnc _,_,_,_,_,_,_,h=>h
 | .str,_,_,_,_,_,_,h=>h
 | .rs _ _,_,_,_,_,_,_,h=>h
 | .pa _ _,_,_,_,_,_,_,h=>h
 | .sl _ _,_,_,_,_,_,hf,_=>by simp [K.flat] at hf
 | .pair a b,_,_,_,_,_,hf,h=>by
  simp only [K.flat,B3] at hf;obtain ⟨c0,c1,rfl,h0,h1⟩:=h;exact ⟨c0,c1,rfl,B6C hf.1 h0,B6C hf.2 h1⟩
def Now{k:K}(R:Nat->k.T->List Value->Prop)(w:World)(xs:List k.T)(v:Value):Prop:=
 ∃ A c,v=.slice A xs.length c/\xs.length<=c/\(0<xs.length->∃ ad:Addr,A=some ad/\
  ∀ i (h:i<xs.length),∃ ds,ds.length=k.sz/\R i xs[i] ds/\∀ j u,ds[j]? = some u->w.cell? (ad.add (i*k.sz+j))=some u)
theorem OwL.now{k:K}{e:Nat}{w:World}{Z:Col}{p:H9}{xs:List k.T}{v:Value}(h:OwL (Ow k w Z) e k.sz w Z p xs v):Now (k:=k) (fun i=>Ow k w Z (p ++ [i])) w xs v:=by
 obtain ⟨inner,ho,hc,hi⟩:=h;rcases ho.2 with ⟨rfl,hn⟩ | ⟨g,cap,cur,fz,rfl,_,hg,hfz,hn,hcap,hs,ht⟩
 ·exact ⟨none,0,by rw [hn],by omega,fun h=>by omega⟩
 ·refine ⟨some ⟨g,0,none⟩,cap,rfl,hn,fun _=>⟨_,rfl,fun i h=>⟨_,(hi i h).len,hi i h,fun j u hu=>?_⟩⟩⟩;have hj:j<k.sz:=by
   have:=(C3.1 hu).1;rw [(hi i h).len] at this;exact this
  rw [F8 hj,F3] at hu;exact S3 ho rfl _ _ hu
theorem Ro.now{k:K}{e:Nat}{w:World}{Z:Col}{xs:List k.T}{v:Value}(h:Ro (.rs e k) w Z xs [v]):Now (k:=k) (fun _=>Ro k w Z) w xs v:=by
 obtain ⟨A,c,e1,hl,hm,hc⟩:=h;injection e1 with e1 _
 subst e1;refine ⟨A,c,rfl,hl,fun hn=>?_⟩;obtain ⟨ad,rfl,_,hi⟩:=hc hn;exact ⟨ad,rfl,hi⟩
theorem Now.imp{k:K}{R R':Nat->k.T->List Value->Prop}{w:World}{xs:List k.T}{v:Value}(h:Now R w xs v)(hR:∀ i x ds,R i x ds->R' i x ds):Now R' w xs v:=by
 obtain ⟨A,c,e,hl,hc⟩:=h;refine ⟨A,c,e,hl,fun hn=>?_⟩;obtain ⟨ad,e1,hi⟩:=hc hn;exact ⟨ad,e1,fun i h=>let ⟨ds,h1,h2,h3⟩:=hi i h;⟨ds,h1,hR _ _ _ h2,h3⟩⟩
theorem Now.cut{k:K}{R:k.T->List Value->Prop}{w:World}{xs:List k.T}{v:Value}(h:Now (fun _=>R) w xs v){lo hi:Nat}(h1:lo<=hi)(h2:hi<=xs.length):Now (fun _=>R) w ((xs.take hi).drop lo) (cutV k.sz lo hi v):=by
 obtain ⟨A,c,rfl,hl,hc⟩:=h;have hlen:((xs.take hi).drop lo).length=hi-lo:=by rw [C5,B2];omega
 refine ⟨if c=lo then A else A.map (·.add (lo*k.sz)),c-lo,by rw [hlen];rfl,by rw [hlen];omega,fun hn=>?_⟩;rw [hlen] at hn;obtain ⟨ad,rfl,hi'⟩:=hc (by omega);rw [D6 (by omega)];refine ⟨ad.add (lo*k.sz),rfl,fun i hli=>?_⟩;have hlt:lo+i<xs.length:=by rw [hlen] at hli;omega
 obtain ⟨ds,hd,hr,hcell⟩:=hi' (lo+i) hlt;refine ⟨ds,hd,?_,fun j u hu=>?_⟩
 ·have:((xs.take hi).drop lo)[i]=xs[lo+i]:=by simp
  rw [this];exact hr
 ·have hsp:ad.spot=none:=by
   obtain ⟨ds0,hd0,hr0,hcell0⟩:=hi' 0 (by omega);have h0:0<ds0.length:=by rw [hd0];exact k.sz_pos
   have:=cell_spot (hcell0 0 ds0[0] (by simp [h0]));simpa [Addr.add] using this
  rw [add_add _ hsp,<- L9,<- J7];exact hcell j u hu
theorem B2t:∀ {k:K} {w:World} {Z:Col} {p:H9} {x:k.T} {cs:List Value} {off:Nat} {sl:SL} {v:Value},
  Ow k w Z p x cs->S4 k x off=some sl->sl.k.flat=true->cs[off]? = some v->Now (fun _=>Ow sl.k w Z []) w sl.xs v
 | .int _,_,_,_,_,_,_,_,_,_,h,_,_=>by simp [S4] at h
 | .bool,_,_,_,_,_,_,_,_,_,h,_,_=>by simp [S4] at h
 | .fnc _,_,_,_,_,_,_,_,_,_,h,_,_=>by simp [S4] at h
 | .str,_,_,_,_,_,_,_,_,_,h,_,_=>by simp [S4] at h
 | .pa _ _,_,_,_,_,_,_,_,_,_,h,_,_=>by simp [S4] at h
 | .sl e k,_,_,_,_,cs,off,sl,v,hr,h,hf,hv=>by
  cases off with
  | zero=>
   simp only [S4] at h;injection h with h;subst h
   obtain ⟨v',rfl,ho⟩:=hr;simp at hv;subst hv;exact ho.now.imp fun i x ds hx=>B0r hf hx
  | succ j=>simp [S4] at h
 | .rs e k,w,Z,_,_,cs,off,sl,v,hr,h,hf,hv=>by
  cases off with
  | zero=>
   simp only [S4] at h;injection h with h;subst h
   have hr':Ro (.rs e k) w Z _ cs:=hr;obtain ⟨A,c,rfl,_⟩:=hr;simp at hv;subst hv;exact (Ro.now hr').imp fun i x ds hx=>B6C hf hx
  | succ j=>simp [S4] at h
 | .pair a b,_,_,_,_,cs,off,sl,v,hr,h,hf,hv=>by
  obtain ⟨c0,c1,rfl,h0,h1⟩:=hr;simp only [S4] at h;split at h
  ·rename_i e;have hlt:=A0S.1 e;rw [E3 (by rw [h0.len];exact hlt)] at hv;exact B2t h0 h hf hv
  ·rename_i e;have hge:=B1w.1 e;rw [E5 (by rw [h0.len];omega),h0.len] at hv;exact B2t h1 h hf hv
theorem C0p{cfg:Cfg}{s s':St}{t:Nat}{l:Lf}{sl:SL}{rds:List (Loc×LV)}(h:E9 cfg s t l=some (sl,rds))(hf:sl.k.flat=true){n:Nat}{w0:World}{Z0:Gh}{a:Act}{m:Mem}
  (hr:Rel n w0 Z0 s' a m) (hrd:Reads s' rds) {v:Value} (hv:LfC s' m l v):Now (fun _=>Ow sl.k m.w m.Z []) m.w sl.xs v:=by
 cases l with
 | nil=>
  simp only [E9] at h;split at h
  ·split at h
   ·injection h with h;injection h with h _;subst h
    simp only [LfC] at hv;subst hv;exact ⟨none,0,rfl,C6 _,fun h=>by simp at h⟩
   ·cases h
  ·cases h
 | ro e k xs=>
  simp only [E9] at h;injection h with h;injection h with h _;subst h
  have hv':Ro (.rs e k) m.w m.Z xs [v]:=hv;exact (Ro.now hv').imp fun i x ds hx=>B6C hf hx
 | own id=>
  simp only [E9] at h;split at h
  ·rename_i r hrow;injection h with h;injection h with h1 h2;subst h1;subst h2
   have hg:=hrd _ A5;rw [hv.2 r hg];exact (hr.rw id r hg).now.imp fun i x ds hx=>B0r hf hx
  ·cases h
 | vw id lo hi=>
  simp only [E9] at h;split at h
  ·rename_i r hrow;injection h with h;injection h with h1 h2;subst h1;subst h2
   have hg:=hrd _ A5;obtain ⟨h1,h2,h3⟩:=hv.2 r hg;rw [h3];exact ((hr.rw id r hg).now.imp fun i x ds hx=>B0r (p':= []) hf hx).cut h1 h2
  ·cases h
 | sub id q off ver=>
  simp only [E9] at h;split at h
  ·rename_i r i hrow hix;split at h
   ·rename_i hver;split at h
    ·rename_i sl' hsl;injection h with h;injection h with h1 h2;subst h1;subst h2
     have hg:=hrd (.r id,.r r) (by simp);have hq:=hrd (.x q,.x i) (by simp);obtain ⟨h0,h5⟩:=hv.2 r i hg hq;obtain ⟨h1,h2,h3,h4⟩:=h5 (A0 hver);obtain ⟨g,cap,ds,e1,_,how,hcell⟩:=B23 (hr.rw id r hg) h2;rw [A8l h2] at hsl;have hlen:=how.len;have hd:ds[off]? = some ds[off]:=by simp [show off<ds.length by omega]
     have:=hcell off _ hd;rw [e1,O2,add_plain,D9] at h4;rw [this] at h4;injection h4 with h4
     exact B2t how hsl hf (h4▸hd)
    ·cases h
   ·cases h
  ·cases h
 | int k n=>simp [E9] at h
 | bool b=>simp [E9] at h
 | str x=>simp [E9] at h
 | ptr b off=>simp [E9] at h
 | ept id q off=>simp [E9] at h
 | rpt k x off=>simp [E9] at h
 | rpa n k x=>simp [E9] at h
 | mp _=>simp [E9] at h
 | mpb _=>simp [E9] at h
 | apt n id=>simp [E9] at h
 | fn f=>simp [E9] at h
 | anyb=>simp [E9] at h
 | chk _ _ _ _ _=>simp [E9] at h
 | clo _ _ _=>simp [E9] at h
 | any=>simp [E9] at h
 | nilp=>simp [E9] at h
 | ext id q off ver p e k zs=>simp [E9] at h
theorem OwEls.of_get{k:K}{w:World}{Z:Col}{p:H9}:∀ {j:Nat} {ys:List k.T} {cs:List Value},cs.length=ys.length*k.sz->(∀ i (h:i<ys.length),Ow k w Z (p ++ [j+i]) ys[i] ((cs.drop (i*k.sz)).take k.sz))->OwEls k w Z p j ys cs
 | _,[],cs,hl,_=>F0 (by simpa using hl)
 | j,y::ys,cs,hl,h=>by
  have hle:k.sz<=cs.length:=by rw [hl,G9,G2];omega
  refine ⟨cs.take k.sz,cs.drop k.sz,(M2 _ _).symm,by have:=h 0 (by simp);rw [A0d,U5,J0] at this;exact this,OwEls.of_get ?_ fun i hi=>?_⟩
  ·rw [C5,hl,G9,G2];omega
  ·have:=h (i+1) (by simpa using hi);simp only [B0P,G2] at this;rw [L6,B4Q k.sz];rw [show j+1+i=j+(i+1) by omega];exact this
theorem Now.cells{k:K}{w:World}{Z:Col}{p:H9}{j:Nat}{xs:List k.T}{v:Value}(h:Now (fun i=>Ow k w Z (p ++ [j+i])) w xs v) :
  ∃ A c news,v=.slice A xs.length c/\news.length=xs.length*k.sz/\(∀ ad,A=some ad->∀ i u,news[i]? = some u->w.cell? (ad.add i)=some u)/\(A=none->xs = [])/\OwEls k w Z p j xs news:=by
 obtain ⟨A,c,rfl,hl,hc⟩:=h;by_cases hn:0<xs.length
 ·obtain ⟨ad,rfl,hi⟩:=hc hn;have hseg:∀ i (h:i<xs.length),∃ ds,ds.length=k.sz/\Ow k w Z (p ++ [j+i]) xs[i] ds/\((((List.range (xs.length*k.sz)).map fun q=>(w.cell? (ad.add q)).getD undef).drop (i*k.sz)).take k.sz)=ds/\∀ t u,ds[t]? = some u->w.cell? (ad.add (i*k.sz+t))=some u:=by
   intro i hi2;obtain ⟨ds,h1,h2,h3⟩:=hi i hi2;refine ⟨ds,h1,h2,?_,h3⟩;have hle:i*k.sz+k.sz<=xs.length*k.sz:=by rw [<- G2];exact E1 _ hi2
   apply A4c
   ·simp [h1];omega
   ·intro t ht1 ht2;have:=h3 t ds[t] (by simp [ht2]);simp [this]
  refine ⟨some ad,c,(List.range (xs.length*k.sz)).map fun q=>(w.cell? (ad.add q)).getD undef,rfl,by simp,fun ad' e i u hu=>?_,fun e=>(nomatch e),OwEls.of_get (by simp) fun i hi2=>?_⟩
  ·injection e with e;subst e
   have hlt:=(C3.1 hu).1;simp only [N1,List.length_range] at hlt;have hq:i / k.sz<xs.length:=(U8 k.sz_pos).2 hlt;obtain ⟨ds,h1,h2,h3,h4⟩:=hseg (i / k.sz) hq;have hr:i % k.sz<k.sz:=B0Q _ k.sz_pos;have hdm:i / k.sz*k.sz+i % k.sz=i:=by rw [A6S];exact A60 i k.sz
   have:=h4 (i % k.sz) ds[i % k.sz] (by simp [show i % k.sz<ds.length by omega]);rw [hdm] at this;rw [J8,List.getElem?_range hlt,L7,this] at hu;injection hu with hu
   rw [this,<- hu];rfl
  ·obtain ⟨ds,h1,h2,h3,h4⟩:=hseg i hi2;rw [h3];exact h2
 ·have:xs = []:=F0 (by omega);subst this;exact ⟨A,c,[],rfl,by simp,fun ad _ i u hu=>by simp at hu,fun _=>rfl,rfl⟩
theorem C0q{P:Program}{w:World}{t ty e:TypeId}{i:TypeInfo}{size:Nat}(ht:P.underlying t=some (.slice e))(hi:P.info? e=some i){v:Value}{n c:Nat}{xs:List Value}(hown:owns w 0 e size v n xs) :
  (Builtin.append_ #[t,t] ty #[v,.slice none 0 c]).run P w=.ok v w:=by
 rcases hown.2 with ⟨rfl,rfl⟩ | ⟨g,cap,cur,fz,rfl,_,_,_,hnc,_⟩
 ·simp [Builtin.append_,F9 ht,sizeOf,typeInfo,hi,Builtin.lenOf,Builtin.firstCells]
 ·simp [Builtin.append_,F9 ht,sizeOf,typeInfo,hi,Builtin.lenOf,Builtin.firstCells,hnc,storeCells]
theorem B9j{P:Program}{w:World}{t ty e:TypeId}{i:TypeInfo}{z:Value}{size bytes:Nat}(ht:P.underlying t=some (.slice e))(hi:P.info? e=some i)(hz:i.zero=some z)
  (hsize:i.size=size) (hby:i.bytes=bytes) (hzs:z.cells.size=size) (hsz:0<size) {v:Value} {n:Nat} {xs:List Value} (hown:owns w 0 e size v n xs)
  {A:Option Addr} {m c:Nat} {news:List Value} (hl:news.length=m*size) (hnews:∀ ad,A=some ad->∀ j u,news[j]? = some u->w.cell? (ad.add j)=some u) (hA:A=none->m=0) (h1:∀ u∈news,u.oneCell' = true)
  (h63:n+m<=maxLen) (hbytes:(n+m)*bytes<=140737488355328) :
  ∃ v' w',(Builtin.append_ #[t,t] ty #[v,.slice A m c]).run P w=.ok v' w'/\owns w' 0 e size v' (n+m) (xs++news)/\w.grownBy w' v.ownBlock/\(v'.ownBlock=v.ownBlock\/v'.ownBlock=some w.heap.size):=by
 subst hsize;subst hby;have hsmall:n+m<=9223372036854775807:=by simp only [maxLen] at h63;omega
 cases A with
 | none=>
  obtain rfl:=hA rfl;have hn:news = []:=F0 (by simpa using hl);subst hn;exact ⟨v,w,C0q ht hi hown,by simpa using hown,⟨rfl,rfl,rfl,C6 _,fun _ _ _=>rfl⟩,.inl rfl⟩
 | some ad=>
  obtain ⟨v',w',hrun,ho,hg,hnil⟩:=B5n (P:=P) w 0 t ty e i z i.size i.bytes ht hi hz rfl rfl hzs hsz v n xs hown ad m c news hl (hnews ad rfl) h1 h63 hbytes (G6 _);refine ⟨v',w',hrun,ho,hg,?_⟩;rcases hown.2 with ⟨rfl,rfl⟩ | ⟨g,cap,cur,fz,rfl,_,hgb,hfz,hnc,hcm,hcs,htake⟩
  ·by_cases hm:m=0
   ·have:=hnil.2 ⟨rfl,hm⟩;subst this;exact .inl rfl
   ·have hr:=run_append_nil (P:=P) w t ty e i z ht hi hz ad m c news hl (hnews ad rfl) (by omega) (by omega) (by have hb:=hbytes;simp only [D9] at hb;omega);rw [hrun] at hr;injection hr with hr _
    subst hr;exact .inr rfl
  ·by_cases hroom:n+m<=cap
   ·have hfit:n*i.size+news.length<=cur.size:=by rw [hl,hcs,<- J7];exact E1 _ hroom
    have hr:=A1O (P:=P) w t ty e i ht hi g n cap cur fz hgb hfz.1 ad m c news hl (hnews ad rfl) h1 hroom hfit;rw [hrun] at hr;injection hr with hr _
    subst hr;exact .inl rfl
   ·have holds:∀ j u,xs[j]? = some u->w.cell? ((⟨g,0,none⟩:Addr).add j)=some u:=S3 hown (g:=g) rfl;have hr:=B0c (P:=P) w t ty e i z ht hi hz ⟨g,0,none⟩ n cap xs hown.1 holds ad m c news hl (hnews ad rfl) (by omega) (by omega) (A3o (by omega) hbytes);rw [hrun] at hr;injection hr with hr _
    subst hr;exact .inr rfl
theorem B24:∀ {k:K} {w w':World} {Z Z':Col} {p p':H9} {x:k.T} {cs:List Value},k.flat=true->Ow k w Z p x cs->Keeps w w' Z Z'->Ow k w' Z' p' x cs
 | .int _,_,_,_,_,_,_,_,_,_,h,_=>h
 | .bool,_,_,_,_,_,_,_,_,_,h,_=>h
 | .fnc _,_,_,_,_,_,_,_,_,_,h,_=>h
 | .str,_,_,_,_,_,_,_,_,_,h,_=>h
 | .rs _ k,_,_,_,_,_,_,_,_,_,h,hk=>RoL.keep h k.sz_pos hk fun _ _ hr=>Ro.keep hr hk
 | .pa _ k,_,_,_,_,_,_,_,_,_,h,hk=>RoP.keep h hk fun _ _ hr=>Ro.keep hr hk
 | .sl _ _,_,_,_,_,_,_,_,_,hf,_,_=>by simp [K.flat] at hf
 | .pair a b,_,_,_,_,_,_,_,_,hf,h,hk=>by
  simp only [K.flat,B3] at hf;obtain ⟨c0,c1,rfl,h0,h1⟩:=h;exact ⟨c0,c1,rfl,B24 hf.1 h0 hk,B24 hf.2 h1 hk⟩
def M0(cfg:Cfg)(s:St)(e:Nat)(ti:TyI):Lf->Option (Option Nat×Row×Rds)
 | .nil=>some (none,⟨e,ti.k,[],0⟩,[])
 | .own id=>match s.getR id with
  | some r=>some (some id,r,[(.r id,.r r)])
  | none=>none
 | .vw id 0 hi=>match s.getR id with
  | some r=>some (some id,⟨r.e,r.k,r.xs.take hi,0⟩,[(.r id,.r r)])
  | none=>none
 | _=>none
theorem B5K{cfg:Cfg}{s:St}{e:Nat}{ti:TyI}{l:Lf}{o:Option Nat}{row:Row}{rds:Rds}(h:M0 cfg s e ti l=some (o,row,rds)):Reads s rds:=by
 cases l with
 | nil=>simp only [M0] at h;injection h with h;injection h with _ h;injection h with _ h;subst h;exact Reads.nil _
 | own id=>
  simp only [M0] at h;split at h
  ·rename_i r er;injection h with h;injection h with _ h;injection h with _ h;subst h
   intro p hp;rw [A6.1 hp];exact St.getR_some.1 er
  ·cases h
 | vw id lo hi=>
  cases lo with
  | succ lo=>simp [M0] at h
  | zero=>
   simp only [M0] at h;split at h
   ·rename_i r er;injection h with h;injection h with _ h;injection h with _ h;subst h
    intro p hp;rw [A6.1 hp];exact St.getR_some.1 er
   ·cases h
 | int k n=>simp [M0] at h
 | bool b=>simp [M0] at h
 | str x=>simp [M0] at h
 | ro e k xs=>simp [M0] at h
 | sub id q off ver=>simp [M0] at h
 | ptr b off=>simp [M0] at h
 | ept id q off=>simp [M0] at h
 | rpt k x off=>simp [M0] at h
 | rpa n k x=>simp [M0] at h
 | mp _=>simp [M0] at h
 | mpb _=>simp [M0] at h
 | apt n id=>simp [M0] at h
 | fn f=>simp [M0] at h
 | anyb=>simp [M0] at h
 | chk _ _ _ _ _=>simp [M0] at h
 | clo _ _ _=>simp [M0] at h
 | any=>simp [M0] at h
 | nilp=>simp [M0] at h
 | ext id q off ver p e k zs=>simp [M0] at h
def A5k(d:Nat):Option Nat->Tg
 | none=> []
 | some id=> [(id,fun q=>some (2*d::q))]
theorem C0r{cfg:Cfg}{s s':St}{e:Nat}{ti:TyI}{l:Lf}{o:Option Nat}{row:Row}{rds:Rds}(h:M0 cfg s e ti l=some (o,row,rds)){n:Nat}{w0:World}{Z0:Gh}{a:Act}{m:Mem}
  (hr:Rel n w0 Z0 s' a m) (hrd:Reads s' rds) {v:Value} (hv:LfC s' m l v) (d:Nat) {Z':Col} (hk:Keeps m.w m.w m.Z Z') (hm:∀ id,o=some id->Moves m.w m.w m.Z Z' [2*id] [2*d]) :
  OwL (Ow row.k m.w Z') row.e row.k.sz m.w Z' [2*d] row.xs v:=by
 cases l with
 | nil=>
  simp only [M0] at h;injection h with h;injection h with h1 h;injection h with h2 _;subst h2
  simp only [LfC] at hv;subst hv;exact ⟨[],A3M _ _ _ _,fun g hg=>by simp [Value.ownBlock] at hg,fun i h=>by simp at h⟩
 | own id=>
  simp only [M0] at h;split at h
  ·rename_i r er;injection h with h;injection h with h1 h;injection h with h2 h3;subst h1;subst h2;subst h3
   have hg:=hrd _ A5;rw [hv.2 r hg];exact (hr.rw id r hg).move (hm id rfl) hk
  ·cases h
 | vw id lo hi=>
  cases lo with
  | succ lo=>simp [M0] at h
  | zero=>
   simp only [M0] at h;split at h
   ·rename_i r er;injection h with h;injection h with h1 h;injection h with h2 h3;subst h1;subst h2;subst h3
    have hg:=hrd _ A5;obtain ⟨_,hh,hv2⟩:=hv.2 r hg;rw [hv2];exact B9h ((hr.rw id r hg).move (hm id rfl) hk) hh
   ·cases h
 | int k n=>simp [M0] at h
 | bool b=>simp [M0] at h
 | str x=>simp [M0] at h
 | ro e k xs=>simp [M0] at h
 | sub id q off ver=>simp [M0] at h
 | ptr b off=>simp [M0] at h
 | ept id q off=>simp [M0] at h
 | rpt k x off=>simp [M0] at h
 | rpa n k x=>simp [M0] at h
 | mp _=>simp [M0] at h
 | mpb _=>simp [M0] at h
 | apt n id=>simp [M0] at h
 | fn f=>simp [M0] at h
 | anyb=>simp [M0] at h
 | chk _ _ _ _ _=>simp [M0] at h
 | clo _ _ _=>simp [M0] at h
 | any=>simp [M0] at h
 | nilp=>simp [M0] at h
 | ext id q off ver p e k zs=>simp [M0] at h
def C2j(cfg:Cfg)(s:St)(t:Nat)(k:K)(l:Lf):Option (List k.T×Rds×Option Nat):=
 match k.flat with
 | true=>match E9 cfg s t l with
  | some (sl,rds)=>match A7I sl.k k sl.xs with
   | some ys=>some (ys,rds,none)
   | none=>none
  | none=>none
 | false=>match l with
  | .own id=>match s.getR id with
   | some r=>match A7I r.k k r.xs with
    | some ys=>some (ys,[(.r id,.r r)],some id)
    | none=>none
   | none=>none
  | _=>none
def B94(d n:Nat):Option Nat->Tg
 | none=> []
 | some id=> [(id,fun q=>match q with
  | i::q=>some (2*d::(n+i)::q)
  | []=>none)]
theorem B6h{cfg:Cfg}{s:St}{t:Nat}{k:K}{l:Lf}{ys:List k.T}{rds:Rds}{o:Option Nat}(h:C2j cfg s t k l=some (ys,rds,o)):Reads s rds:=by
 unfold C2j at h;split at h
 ·split at h
  ·rename_i sl rds' ec;split at h
   ·injection h with h;injection h with _ h;injection h with h _;subst h;exact A0k ec
   ·cases h
  ·cases h
 ·split at h
  ·split at h
   ·rename_i r er;split at h
    ·injection h with h;injection h with _ h;injection h with h _;subst h
     intro p hp;rw [A6.1 hp];exact St.getR_some.1 er
    ·cases h
   ·cases h
  ·cases h
theorem C47{cfg:Cfg}{s s':St}{t:Nat}{k:K}{l:Lf}{ys:List k.T}{rds:Rds}{o:Option Nat}(h:C2j cfg s t k l=some (ys,rds,o)){n:Nat}{w0:World}{Z0:Gh}{a:Act}{m:Mem}
  (hr:Rel n w0 Z0 s' a m) (hrd:Reads s' rds) {v:Value} (hv:LfC s' m l v) (d j:Nat) {Z':Col} (hk:Keeps m.w m.w m.Z Z')
  (hm:∀ id,o=some id->∀ i,Moves m.w m.w m.Z Z' [2*id,i] [2*d,j+i]) :
  Now (k:=k) (fun i=>Ow k m.w Z' ([2*d] ++ [j+i])) m.w ys v:=by
 unfold C2j at h;split at h
 ·rename_i hf;split at h
  ·rename_i sl rds' ec;split at h
   ·rename_i ys' hcast;injection h with h;injection h with h1 h;injection h with h2 h3;subst h1;subst h2;subst h3
    obtain ⟨ek,rfl⟩:=S5 hcast;subst ek;have hnow:=C0p ec hf hr hrd hv;exact hnow.imp fun i x ds hx=>B24 hf hx hk
   ·cases h
  ·cases h
 ·split at h
  ·rename_i id;split at h
   ·rename_i r er;split at h
    ·rename_i ys' hcast;injection h with h;injection h with h1 h;injection h with h2 h3;subst h1;subst h2;subst h3
     obtain ⟨ek,rfl⟩:=S5 hcast;subst ek;have hg:=hrd _ A5;rw [hv.2 r hg];exact (hr.rw id r hg).now.imp fun i x ds hx=>Ow.move hx (hm id rfl i) hk
    ·cases h
   ·cases h
  ·cases h
def apart:Option Nat->Option Nat->Bool
 | some a,some b=>!(Nat.beq a b)
 | _,_=>true
def oid:Option Nat->List Nat
 | none=> []
 | some i=> [i]
def D0T{R:Type}(cfg:Cfg)(s:St)(d t t':Nat)(x y:Operand)(U:Ke R):Option R:=
 match L1 s x,L1 s y,cfg.el t,Nat.beq t t' with
 | some (.one lx,rx),some (.one ly,ry),some e,true=>match cfg.ty e with
  | some ti=>match M0 cfg s e ti lx with
   | some (o1,row,r1)=>match C2j cfg s t row.k ly with
    | some (ys,r2,o2)=>match Nat.beq row.e e,Nat.beq ti.k.sz row.k.sz,apart o1 o2 with
     | true,true,true=>bif decide (row.xs.length+ys.length<=9223372036854775807) then bif decide ((row.xs.length+ys.length)*ti.bytes<=140737488355328) then
       U ⟨rx++ry++(r1++r2),(.t d,some (.t (.one (.own d))))::(.r d,some (.r ⟨e,row.k,row.xs++ys,0⟩))::(oid o1++oid o2).map (fun i=>(Loc.r i,(none:Option LV))),[.r d]⟩ else none else none
     | _,_,_=>none
    | none=>none
   | none=>none
  | none=>none
 | _,_,_,_=>none
theorem C8p{R:Type}{P:Program}{cfg:Cfg}(hc:J9 P cfg){s:St}{d t t':Nat}{x y:Operand}{U:Ke R}{r:R}(h:D0T cfg s d t t' x y U=some r) :
  OutE P s (.call {callee:=.builtin .append,args:=#[x,y],argTypes:=#[t,t']}) d U r:=by
 unfold D0T at h;split at h
 ·rename_i lx rx ly ry e ex ey et htt;have htt:=A0 htt;subst htt;split at h
  ·rename_i ti eti;split at h
   ·rename_i o1 row r1 e1;split at h
    ·rename_i ys r2 o2 e2;split at h
     ·rename_i he hsz hap;have he:=A0 he;have hsz:=A0 hsz;subst he;obtain ⟨h63,h⟩:=G7 h;obtain ⟨hby,h⟩:=G7 h;have h63:=A8 h63;have hby:=A8 hby;refine ⟨_,h,Reads.app.2 ⟨Reads.app.2 ⟨B9 ex,B9 ey⟩,Reads.app.2 ⟨B5K e1,B6h e2⟩⟩,fun n o ho hdst hd w0 Z0 s' a m hr hrd hnew next Q hn=>?_⟩
      have hrdA:=Reads.app.1 (Reads.app.1 hrd).1;have hrdB:=Reads.app.1 (Reads.app.1 hrd).2;obtain ⟨f,z,hi,hs,hb,hz,hzc,_⟩:=hc.info eti;have hzs:z.cells.size=row.k.sz:=by rw [<- D4,hzc,B6d,hsz]
      have hids:(A5k d o1++B94 d row.xs.length o2).map (·.1)=oid o1++oid o2:=by cases o1<;>cases o2<;>rfl
      have h1:=hr.drop (A5k d o1++B94 d row.xs.length o2);rw [hids] at h1;have hk:=P6 m.w (A5k d o1++B94 d row.xs.length o2) m.Z;have hdest:=C0r e1 hr hrdB.1 (D8 ex hr hrdA.1) d hk (fun id hid=>by
       subst hid;exact A5K (f:=fun q=>some (2*d::q)) (by simp [A5k,A0D]) (fun q=>rfl))
      have hsrc:=C47 e2 hr hrdB.2 (D8 ey hr hrdA.2) d row.xs.length hk (fun id hid i=>by
       subst hid;refine A5K (p:= [i]) (f:=fun q=>match q with
        | i::q=>some (2*d::(row.xs.length+i)::q)
        | []=>none) ?_ (fun q=>rfl)
       cases o1 with
       | none=>simp [A5k,B94,A0D]
       | some id1=>
        have hne:¬ id1=id:=by
         simp only [apart,P9] at hap;intro e;rw [e,A0e] at hap;cases hap
        have hne2:¬ 2*id1=2*id:=by omega
        simp only [A5k,B94,C7,F6,A0D,D6 hne2,Q7])
      obtain ⟨A,c,news,hyv,hnl,hcell,hA,hnew2⟩:=hsrc.cells;obtain ⟨inner,hown,hcol,hels⟩:=hdest;obtain ⟨v',w',hrun,hown',hg,hblk⟩:=B9j (P:=P) (ty:=o.type) (hc.el et) hi hz (hs.trans hsz) hb hzs row.k.sz_pos hown hnl hcell (fun hA0=>by rw [hA hA0];rfl) hnew2.one (by simp only [maxLen];omega) hby;have hrunO:(execOp a.eval o).run P m.w=.ok (.value v') w':=by
       simp [execOp,ho,hyv,resolve,invoke,builtin,C4];rw [hrun];rfl
      let Z1:=L0 (A5k d o1++B94 d row.xs.length o2) m.Z
      let Z2:Col:=fun b=>if v'.ownBlock=some b then some [2*d] else Z1 b
      have hsame:∀ b,b<m.w.heap.size->Z1 b≠some [2*d]->w'.heap[b]? = m.w.heap[b]?/\Z2 b=Z1 b:=by
       intro b hb hne;have hvb:some b≠(a.eval x).ownBlock:=fun e=>hne (hcol b e.symm)
       refine ⟨hg.block b hb hvb,D6 fun e=>?_⟩;rcases hblk with h' | h'
       ·rw [h'] at e;exact hvb e.symm
       ·rw [h'] at e;injection e with e;omega
      have hO:Only m.w w' Z1 Z2 (2*d):=fun b hb hq=>hsame b hb (hq [])
      have hnl:¬ Live ((oid o1++oid o2).map (fun i=>(Loc.r i,(none:Option LV)))++s') (.r d):=by
       rintro ⟨l',lv,hg',hm'⟩;refine hnew (.r d) A5 ⟨l',lv,?_,hm'⟩;by_cases hh:∃ i∈oid o1++oid o2,l' = .r i
       ·obtain ⟨i,hi',rfl⟩:=hh;rw [A4i hi'] at hg';cases hg'
       ·rw [A8n fun i hi' e=>hh ⟨i,hi',e⟩] at hg';exact hg'
      have hmv:∀ j,Moves m.w w' Z1 Z2 ([2*d] ++ [j]) ([2*d] ++ [j]):=fun j b q hb hlt=>by
       obtain ⟨g1,g2⟩:=hsame b hlt (by rw [hb];simp);exact ⟨g1,g2.trans hb⟩
      have hinl:=hown.1;have h2:=h1.only (d:=d) hd hnl (row:=⟨row.e,row.k,row.xs++ys,0⟩) (v:=v') (w':=w') (Z':=Z2) hO hg.size hg.os hg.tape hg.output (by
       refine ⟨inner++news,by rw [A3];exact hown',fun g hgb=>G0 hgb,fun i hi'=>?_⟩;by_cases hin:i<row.xs.length
       ·have e3:(row.xs++ys)[i]=row.xs[i]:=I8 hin;have hle:i*row.k.sz+row.k.sz<=inner.length:=by rw [hinl,<- G2];exact E1 _ hin
        have e4:((inner++news).drop (i*row.k.sz)).take row.k.sz=(inner.drop (i*row.k.sz)).take row.k.sz:=by
         rw [J3 (by omega),F2 (by rw [C5];omega)]
        simp only [e3,e4];exact (hels i hin).move (hmv i) hO.keeps
       ·have hil:i-row.xs.length<ys.length:=by
         have:=hi';simp only [A3] at this;omega
        have e3:(row.xs++ys)[i]=ys[i-row.xs.length]:=J6 (by omega);have e4:((inner++news).drop (i*row.k.sz)).take row.k.sz=(news.drop ((i-row.xs.length)*row.k.sz)).take row.k.sz:=by
         have hq:i*row.k.sz=inner.length+(i-row.xs.length)*row.k.sz:=by
          rw [hinl,<- J7];congr 1;omega
         rw [hq,<- L6,A0L]
        simp only [e3,e4];have:=hnew2.get (i-row.xs.length) hil;rw [show row.xs.length+(i-row.xs.length)=i by omega] at this;exact this.move (hmv i) hO.keeps)
      have h3:=h2.put (v:=.one (.own d)) (x:=v') hd ⟨A5I hown',fun r _=>by simp [upd_same]⟩;simp only [Oper.wp,hrunO,Oper.upon,hdst];exact hn _ _ h3
     ·cases h
    ·cases h
   ·cases h
  ·cases h
 ·cases h
def OutS{R:Type}(P:Program)(s:St)(op:Op)(U:Ke R)(r:R):Prop:=
 ∃ δ,U δ=some r/\Reads s δ.rd/\∀ n (o:Oper),o.op=op->o.dst=none->Good P n o δ
theorem Rel.setBox{n:Nat}{w0:World}{Z0:Gh}{s:St}{a:Act}{m:Mem}(h:Rel n w0 Z0 s a m){b:Nat}{c c':List Lf}(hb:s.get (.b b)=some (.b c)){w':World}{cs:List Value}
  (hO:Only m.w w' m.Z m.Z (2*b+1)) (hs:m.w.heap.size<=w'.heap.size) (os:w'.os=m.w.os) (tp:w'.tape=m.w.tape) (ou:w'.output=m.w.output)
  (hc:All2 (LfC s m) c' cs) (hlive:∀ l∈c',∀ q∈l.men,Live s q)
  (hg:w'.heap[(m.β b).g]? = some (.cells ((m.β b).pre++cs++(m.β b).post).toArray (m.β b).t (0,0))) :
  Rel n w0 Z0 ((.b b,some (.b c'))::s) a ⟨w',m.Z,m.ρ,m.β⟩:=by
 have hget:∀ l,l≠.b b->St.get ((.b b,some (.b c'))::s) l=s.get l:=fun l hl=>St.get_cons_ne (R5 hl) _ _
 have hX:Ext s m ((.b b,some (.b c'))::s) ⟨w',m.Z,m.ρ,m.β⟩ (Live s):=by
  refine ⟨hO.keeps,fun id r' hL hr=>?_,fun b' c0 _ hc0=>?_,fun q i _ hi=>by rwa [hget _ (by simp)] at hi⟩
  ·rw [hget _ (by simp)] at hr;refine ⟨r',hr,rfl,rfl,rfl,C6 _,fun _ hn j v hcell=>?_,fun _=>hO.moves (by omega) []⟩;obtain ⟨hcol,hlt⟩:=A6T (h.rw id r' hr) hn;refine (I6 ?_).trans hcell;rw [add_block];exact (hO _ hlt (fun q hq=>by rw [hcol] at hq;injection hq with hq;injection hq with hq _;omega)).1
  ·by_cases hbb:b' = b
   ·subst hbb;exact ⟨c,hb,rfl⟩
   ·rw [hget _ (by simpa using hbb)] at hc0;exact ⟨c0,hc0,rfl⟩
 refine h.change (fun i=>hget _ (by simp)) hX (fun id r hr=>?_) (fun b' c0 hc0=>?_) hO.fore hs os tp ou (fun id r _ _ hg=>⟨⟨r,by rwa [hget _ (by simp)] at hg⟩,rfl⟩) (fun b' c' hg=>by
  by_cases hbb:b' = b
  ·subst hbb;exact .inl ⟨⟨c,hb⟩,rfl⟩
  ·exact .inl ⟨⟨c',by rwa [hget _ (by simpa using hbb)] at hg⟩,rfl⟩)
 ·rw [hget _ (by simp)] at hr;exact (h.rw id r hr).move (hO.moves (by omega) []) hO.keeps
 ·by_cases hbb:b' = b
  ·subst hbb;rw [St.get_cons_same] at hc0;injection hc0 with hc0;injection hc0 with hc0;subst hc0
   obtain ⟨_,_,_,h5,_⟩:=h.bx b' c hb;exact ⟨cs,All2.imp (fun l hm x hx=>hx.ext (hX.sub fun q hq=>hlive l hm q hq)) hc,All2.one hc,h5,hg⟩
  ·rw [hget _ (by simpa using hbb)] at hc0;obtain ⟨cs',h3,h4,h5,h6⟩:=h.bx b' c0 hc0;have hlt:(m.β b').g<m.w.heap.size:=(A9.1 h6).1;obtain ⟨e1,e2⟩:=hO _ hlt (fun q hq=>by rw [h5] at hq;injection hq with hq;injection hq with hq _;omega);exact ⟨cs',All2.imp (fun l hm x hb=>hb.ext (hX.sub fun q hq=>⟨.b b',.b c0,hc0,E6.2 ⟨l,hm,hq⟩⟩)) h3,h4,h5,e1.trans h6⟩
theorem Rel.updRow{n:Nat}{w0:World}{Z0:Gh}{s:St}{a:Act}{m:Mem}(h:Rel n w0 Z0 s a m){id:Nat}{r row:Row}(hrow:s.get (.r id)=some (.r r)){w':World}
  (hO:Only m.w w' m.Z m.Z (2*id)) (hs:m.w.heap.size<=w'.heap.size) (os:w'.os=m.w.os) (tp:w'.tape=m.w.tape) (ou:w'.output=m.w.output)
  (hsz:row.k.sz=r.k.sz) (hlen:row.xs.length=r.xs.length) (hver:r.ver<row.ver)
  (ho:OwL (Ow row.k w' m.Z) row.e row.k.sz w' m.Z [2*id] row.xs (m.ρ id)) :
  Rel n w0 Z0 ((.r id,some (.r row))::s) a ⟨w',m.Z,m.ρ,m.β⟩:=by
 have hget:∀ l,l≠.r id->St.get ((.r id,some (.r row))::s) l=s.get l:=fun l hl=>St.get_cons_ne (R5 hl) _ _
 have hX:Ext s m ((.r id,some (.r row))::s) ⟨w',m.Z,m.ρ,m.β⟩ (Live s):=by
  refine ⟨hO.keeps,fun id' r' hL hr=>?_,fun b c' _ hc=>⟨c',by rwa [hget _ (by simp)] at hc,rfl⟩,fun q i _ hi=>by rwa [hget _ (by simp)] at hi⟩;by_cases hid:id' = id
  ·subst hid;rw [St.get_cons_same] at hr;injection hr with hr;injection hr with hr;subst hr
   exact ⟨r,hrow,rfl,hsz,hlen,A3t hver,fun e=>by omega,fun e=>by omega⟩
  ·rw [hget _ (by simpa using hid)] at hr;refine ⟨r',hr,rfl,rfl,rfl,C6 _,fun _ hn j v hcell=>?_,fun _=>hO.moves (by omega) []⟩;obtain ⟨hcol,hlt⟩:=A6T (h.rw id' r' hr) hn;refine (I6 ?_).trans hcell;rw [add_block];exact (hO _ hlt (fun q hq=>by rw [hcol] at hq;injection hq with hq;injection hq with hq _;omega)).1
 refine h.change (fun i=>hget _ (by simp)) hX (fun id' r' hr=>?_) (fun b c hc=>?_) hO.fore hs os tp ou (fun id' r' _ _ hg=>by
  by_cases hid:id' = id
  ·subst hid;exact ⟨⟨r,hrow⟩,rfl⟩
  ·exact ⟨⟨r',by rwa [hget _ (by simpa using hid)] at hg⟩,rfl⟩) (fun b c hg=>.inl ⟨⟨c,by rwa [hget _ (by simp)] at hg⟩,rfl⟩)
 ·by_cases hid:id' = id
  ·subst hid;rw [St.get_cons_same] at hr;injection hr with hr;injection hr with hr;subst hr
   exact ho
  ·rw [hget _ (by simpa using hid)] at hr;exact (h.rw id' r' hr).move (hO.moves (by omega) []) hO.keeps
 ·rw [hget _ (by simp)] at hc;obtain ⟨cs',h3,h4,h5,h6⟩:=h.bx b c hc;have hlt:(m.β b).g<m.w.heap.size:=(A9.1 h6).1;obtain ⟨e1,e2⟩:=hO _ hlt (fun q hq=>by rw [h5] at hq;injection hq with hq;injection hq with hq _;omega);exact ⟨cs',All2.imp (fun l hm x hb=>hb.ext (hX.sub fun q hq=>⟨.b b,.b c,hc,E6.2 ⟨l,hm,hq⟩⟩)) h3,h4,h5,e1.trans h6⟩
def A64(s:St):(k:K)->k.T->Nat->List Lf->H9->Option (k.T×List Lf×Mv)
 | .pair a b,x,off,ls,p=>match Nat.blt off a.sz with
  | true=>match A64 s a x.1 off ls (p ++ [0]) with
   | some (x1,[],m1)=>some ((x1,x.2),[],m1)
   | some (x1,l::r,m1)=>match A64 s b x.2 0 (l::r) (p ++ [1]) with
    | some (y,r',m2)=>some ((x1,y),r',m1++m2)
    | none=>none
   | none=>none
  | false=>match A64 s b x.2 (off-a.sz) ls (p ++ [1]) with
   | some (y,r,m1)=>some ((x.1,y),r,m1)
   | none=>none
 | .int U,_,0,ls,p=>H1 s (.int U) ls p
 | .bool,_,0,ls,p=>H1 s .bool ls p
 | .fnc f,_,0,ls,p=>H1 s (.fnc f) ls p
 | .str,_,0,ls,p=>H1 s .str ls p
 | .sl e k,_,0,ls,p=>H1 s (.sl e k) ls p
 | .rs e k,_,0,ls,p=>H1 s (.rs e k) ls p
 | _,_,_,_,_=>none
theorem C2k{s:St}:∀ {k:K} {x:k.T} {off:Nat} {ls:List Lf} {p:H9} {y:k.T} {rest:List Lf} {mv:Mv},A64 s k x off ls p=some (y,rest,mv)->Reads s (mvR mv):=by
 intro k
 induction k with
 | pair a b iha ihb=>
  intro x off ls p y rest mv h;simp only [A64] at h;split at h
  ·split at h
   ·rename_i x1 m1 e1;injection h with h;injection h with _ h;injection h with _ h;subst h;exact iha e1
   ·rename_i x1 l r m1 e1;split at h
    ·rename_i y2 r' m2 e2;injection h with h;injection h with _ h;injection h with _ h;subst h
     have:=Reads.app.2 ⟨iha e1,ihb e2⟩;simpa [mvR] using this
    ·cases h
   ·cases h
  ·split at h
   ·rename_i y2 r m1 e1;injection h with h;injection h with _ h;injection h with _ h;subst h;exact ihb e1
   ·cases h
 | pa n k _=>
  intro x off ls p y rest mv h;simp [A64] at h
 | _=>
  intro x off ls p y rest mv h;cases off with
  | zero=>simp only [A64] at h;exact B6b h
  | succ o=>simp [A64] at h
theorem C8q{s s':St}{n:Nat}{w0:World}{Z0:Gh}{a:Act}{m:Mem}(hr:Rel n w0 Z0 s' a m){w':World}{Z':Col}(hk:Keeps m.w w' m.Z Z')(p0:H9) :
  ∀ {k:K} {x:k.T} {off:Nat} {ls:List Lf} {p:H9} {y:k.T} {rest:List Lf} {mv:Mv} {cs vs:List Value},A64 s k x off ls p=some (y,rest,mv)->Reads s' (mvR mv)->All2 (LfC s' m) ls vs->
   Does m.w w' m.Z Z' p0 mv->Ow k m.w m.Z (p0++p) x cs->(∀ q,Moves m.w w' m.Z Z' (p0++p++q) (p0++p++q))->
   ∃ v0 v1,vs=v0++v1/\off+v0.length<=k.sz/\Ow k w' Z' (p0++p) y (cs.take off++v0++cs.drop (off+v0.length))/\All2 (LfC s' m) rest v1/\(rest≠ []->off+v0.length=k.sz):=by
 intro k;have leaf:∀ {k:K} {ls:List Lf} {p:H9} {y:k.T} {rest:List Lf} {mv:Mv} {cs vs:List Value},k.sz=1->H1 s k ls p=some (y,rest,mv)->Reads s' (mvR mv)->All2 (LfC s' m) ls vs->Does m.w w' m.Z Z' p0 mv->cs.length=1->
   ∃ v0 v1,vs=v0++v1/\0+v0.length<=k.sz/\Ow k w' Z' (p0++p) y (cs.take 0++v0++cs.drop (0+v0.length))/\All2 (LfC s' m) rest v1/\(rest≠ []->0+v0.length=k.sz):=by
  intro k ls p y rest mv cs vs hsz h hrd hl hd hcl;obtain ⟨c0,c1,e,ho,hrest⟩:=B6B hr hk p0 h hrd hl hd;have h1:=ho.len;refine ⟨c0,c1,e,by rw [h1];omega,?_,hrest,fun _=>by rw [h1];omega⟩;rw [List.take_zero,F6,D9,h1,hsz,I5 (by omega),F4];exact ho
 induction k with
 | pair ka kb iha ihb=>
  intro x off ls p y rest mv cs vs h hrd hl hd how hm;obtain ⟨c0,c1,rfl,ho0,ho1⟩:=how;rw [A7] at ho0 ho1;have hm0:∀ q,Moves m.w w' m.Z Z' (p0++(p ++ [0])++q) (p0++(p ++ [0])++q):=fun q=>by
   have:=hm ([0]++q);simpa [A7] using this
  have hm1:∀ q,Moves m.w w' m.Z Z' (p0++(p ++ [1])++q) (p0++(p ++ [1])++q):=fun q=>by
   have:=hm ([1]++q);simpa [A7] using this
  have l0:=ho0.len;have l1:=ho1.len;simp only [A64] at h;split at h
  ·rename_i hlt;have hlt:=A0S.1 hlt;split at h
   ·rename_i x1 m1 e1;injection h with h;injection h with h1 h;injection h with h2 h3;subst h1;subst h2;subst h3
    obtain ⟨v0,v1,e,hle,ho,hrest,_⟩:=iha e1 hrd hl hd ho0 hm0;have hv1:v1 = []:=by cases v1 with
     | nil=>rfl
     | cons _ _=>exact hrest.elim
    subst hv1;refine ⟨v0,[],e,by simp only [K.sz];omega,⟨_,_,?_,by rw [A7];exact ho,by rw [A7];exact Ow.move ho1 (by simpa using hm1 []) hk⟩,trivial,fun h=>absurd rfl h⟩;rw [F2 (by omega),J3 (by omega)];simp
   ·rename_i x1 l r m1 e1;split at h
    ·rename_i y2 r' m2 e2;injection h with h;injection h with h1 h;injection h with h2 h3;subst h1;subst h2;subst h3
     have hrd':Reads s' (mvR m1)/\Reads s' (mvR m2):=by rw [<- Reads.app];simpa [mvR] using hrd
     obtain ⟨v0,v1,e,hle,ho,hrest,hfull⟩:=iha e1 hrd'.1 hl (fun v hv=>hd v (E2 _ hv)) ho0 hm0;obtain ⟨u0,u1,e',hle',ho',hrest',hfull'⟩:=ihb e2 hrd'.2 hrest (fun v hv=>hd v (D3 _ hv)) ho1 hm1;subst e';subst e;have hfull:=hfull (by simp);refine ⟨v0++u0,u1,by simp,by simp only [K.sz,A3];omega,⟨_,_,?_,by rw [A7];exact ho,by rw [A7];exact ho'⟩,hrest',fun hne=>by
      have:=hfull' hne;simp only [K.sz,A3];omega⟩
     have e1:c0.drop (off+v0.length) = []:=I5 (by omega);have e2:(c0++c1).drop (off+(v0++u0).length)=c1.drop (0+u0.length):=by
      rw [A4d,I5 (by simp only [A3];omega),F6]
      congr 1;simp only [A3];omega
     rw [F2 (by omega),e1,e2];simp
    ·cases h
   ·cases h
  ·rename_i hge;have hge:=B1w.1 hge;split at h
   ·rename_i y2 r m1 e1;injection h with h;injection h with h1 h;injection h with h2 h3;subst h1;subst h2;subst h3
    obtain ⟨v0,v1,e,hle,ho,hrest,hfull⟩:=ihb e1 hrd hl hd ho1 hm1;refine ⟨v0,v1,e,by simp only [K.sz];omega,⟨_,_,?_,by rw [A7];exact Ow.move ho0 (by simpa using hm0 []) hk,by rw [A7];exact ho⟩,hrest,fun hne=>by have:=hfull hne;simp only [K.sz];omega⟩;rw [List.take_append,A4d,l0,E8 (by omega),I5 (by omega)];simp only [F6,A7]
    congr 3
    congr 1;omega
   ·cases h
 | int U=>
  intro x off ls p y rest mv cs vs h hrd hl hd how hm;cases off with
  | zero=>exact leaf rfl (by simpa only [A64] using h) hrd hl hd how.len
  | succ o=>simp [A64] at h
 | fnc f=>
  intro x off ls p y rest mv cs vs h hrd hl hd how hm;cases off with
  | zero=>exact leaf rfl (by simpa only [A64] using h) hrd hl hd how.len
  | succ o=>simp [A64] at h
 | bool=>
  intro x off ls p y rest mv cs vs h hrd hl hd how hm;cases off with
  | zero=>exact leaf rfl (by simpa only [A64] using h) hrd hl hd how.len
  | succ o=>simp [A64] at h
 | str=>
  intro x off ls p y rest mv cs vs h hrd hl hd how hm;cases off with
  | zero=>exact leaf rfl (by simpa only [A64] using h) hrd hl hd how.len
  | succ o=>simp [A64] at h
 | sl e k _=>
  intro x off ls p y rest mv cs vs h hrd hl hd how hm;cases off with
  | zero=>exact leaf rfl (by simpa only [A64] using h) hrd hl hd how.len
  | succ o=>simp [A64] at h
 | pa n k _=>
  intro x off ls p y rest mv cs vs h hrd hl hd how hm;simp [A64] at h
 | rs e k _=>
  intro x off ls p y rest mv cs vs h hrd hl hd how hm;cases off with
  | zero=>exact leaf rfl (by simpa only [A64] using h) hrd hl hd how.len
  | succ o=>simp [A64] at h
def spl{α:Type}(L:List α)(o:Nat)(V:List α):List α:=L.take o++V++L.drop (o+V.length)
theorem C8r{α:Type}{L V:List α}{o:Nat}(h:o+V.length<=L.length):(spl L o V).length=L.length:=by
 simp only [spl,A3,B2,C5];omega
theorem A65{α:Type}{L V:List α}{o:Nat}(h:o+V.length<=L.length)(q:Nat):(spl L o V)[q]? = if q<o then L[q]? else if q<o+V.length then V[q-o]? else L[q]?:=by
 have h1:(L.take o).length=o:=by rw [B2];omega
 by_cases c1:q<o
 ·rw [G0 c1,spl,A7,E3 (by rw [h1];exact c1),F8 c1]
 ·rw [D6 c1,spl,A7,E5 (by omega),h1];by_cases c2:q<o+V.length
  ·rw [G0 c2,E3 (by omega)]
  ·rw [D6 c2,E5 (by omega),F3]
   congr 1;omega
theorem C8s{α:Type}{A B C V:List α}{o:Nat}(h:o+V.length<=B.length):spl (A++B++C) (A.length+o) V=A++spl B o V++C:=by
 have hl:=C8r h;have h':A.length+o+V.length<=(A++B++C).length:=by simp only [A3];omega
 apply A01;intro q;rw [A65 h',A7 A B C,A7 A (spl B o V) C];simp only [List.getElem?_append,hl,A65 h];by_cases c1:q<A.length
 ·simp [c1,show q<A.length+o by omega]
 ·simp only [c1,A0J];by_cases c2:q-A.length<B.length
  ·simp only [c2,Q7];by_cases c3:q<A.length+o
   ·simp only [c3,Q7,show q-A.length<o by omega]
   ·simp only [c3,A0J,show ¬ q-A.length<o by omega];by_cases c4:q<A.length+o+V.length
    ·simp only [c4,Q7,show q-A.length<o+V.length by omega];congr 1;omega
    ·simp only [c4,A0J,show ¬ q-A.length<o+V.length by omega]
  ·simp only [c2,A0J,show ¬ q<A.length+o by omega,show ¬ q<A.length+o+V.length by omega]
theorem C0s{α:Type}{L V:List α}{o n:Nat}(h:o+V.length<=n)(hn:n<=L.length):(spl L o V).take n=spl (L.take n) o V:=by
 have hl:o+V.length<=(L.take n).length:=by rw [B2];omega
 apply A01;intro q;rw [L3,A65 hl,A65 (by omega)];simp only [L3];by_cases c:q<n
 ·simp [c]
 ·simp only [c,A0J];rw [D6 (by omega),D6 (by omega)]
theorem C48{α:Type}{L V:List α}{sz i off:Nat}(h:off+V.length<=sz)(hi:i*sz+sz<=L.length):((spl L (i*sz+off) V).drop (i*sz)).take sz=spl ((L.drop (i*sz)).take sz) off V:=by
 have hl:off+V.length<=((L.drop (i*sz)).take sz).length:=by rw [B2,C5];omega
 apply A01;intro q;rw [L3,A65 hl,F3,A65 (by omega)];simp only [L3,F3];by_cases c:q<sz
 ·simp only [c,Q7];by_cases c1:q<off
  ·rw [G0 c1,G0 (by omega)]
  ·rw [D6 c1,D6 (by omega)];by_cases c2:q<off+V.length
   ·rw [G0 c2,G0 (by omega)];congr 1;omega
   ·rw [D6 c2,D6 (by omega)]
 ·simp only [c,A0J];rw [D6 (by omega),D6 (by omega)]
theorem B95{α:Type}{L V:List α}{sz i j off:Nat}(h:off+V.length<=sz)(hi:i*sz+sz<=L.length)(hij:j≠i):((spl L (i*sz+off) V).drop (j*sz)).take sz=(L.drop (j*sz)).take sz:=by
 apply A01;intro q;rw [L3,F3,A65 (by omega),L3,F3];by_cases c:q<sz
 ·simp only [c,Q7];have:j*sz+sz<=i*sz\/i*sz+sz<=j*sz:=by
   rcases Nat.lt_or_gt_of_ne hij with hlt | hlt
   ·exact .inl (by rw [<- G2];exact E1 _ hlt)
   ·exact .inr (by rw [<- G2];exact E1 _ hlt)
  rcases this with hh | hh
  ·rw [G0 (by omega)]
  ·rw [D6 (by omega),D6 (by omega)]
 ·simp only [c,A0J]
theorem A9Q{P:Program}{cfg:Cfg}(hc:J9 P cfg){t:Nat}{ti:TyI}(ht:cfg.ty t=some ti){w:World}{g o T:Nat}{cur:Array Value}{cs:List Value}{v:Value}(hv:v.cells=cs.toArray)(hl:cs.length=ti.k.sz)
  {fz:Nat×Nat} (hg:w.heap[g]? = some (.cells cur T fz)) (hfz:Thawed cur.size fz) (hfit:o+cs.length<=cur.size) (h1:∀ u∈cs,u.oneCell' = true) :
  (storeVar t ⟨g,o,none⟩ v).run P w=.ok () (w.setRow g (cur.toList.take o++cs++cur.toList.drop (o+cs.length)).toArray):=by
 obtain ⟨f,z,hi,hs,_⟩:=hc.info ht;have hst:=A0Q P g o T fz cs 0 cur w hg hfz (by simpa using hfit) h1;simp only [J0] at hst;have hne:¬ (v.cells.size≠ti.k.sz):=by rw [hv];simp [hl]
 simp only [storeVar,C4,A5J hi,hs,H2,D6 hne,A3r];rw [hv];exact hst
theorem C0t{w:World}{Z:Col}{g r:Nat}(cells:Array Value)(hZ:∃ q,Z g=some (r::q)):Only w (w.setRow g cells) Z Z r:=by
 intro b hb hq;obtain ⟨q,hZ⟩:=hZ;have hne:b≠g:=fun e=>hq q (by rw [e];exact hZ)
 exact ⟨T3 w g b _ hne,rfl⟩
def C2l{R:Type}(cfg:Cfg)(s:St)(t:Nat)(x y:Operand)(U:Ke R):Option R:=
 match L1 s x,L1 s y,cfg.ty t with
 | some (.one l,rx),some (v,ry),some ti=>match avL v with
  | some ls=>match Nat.beq ls.length ti.k.sz with
   | true=>match l with
    | .ptr b off=>match s.getB b with
     | some c=>match Nat.ble (off+ls.length) c.length with
      | true=>U ⟨rx++ry ++ [(.b b,.b c)],[(.b b,some (.b (c.take off++ls++c.drop (off+ls.length))))],[]⟩
      | false=>none
     | none=>none
    | .ept id q off=>match s.getR id,s.getX q with
     | some r,some i=>match A64 s r.k (rd r.k r.xs i) off ls [] with
      | some (y,[],mv)=>match nodupB (mv.map (·.1)),(mv.map (·.1)).any (Nat.beq id) with
       | true,false=>U ⟨rx++ry ++ [(.r id,.r r),(.x q,.x i)]++mvR mv,(.r id,some (.r ⟨r.e,r.k,r.xs.set i.toNat y,r.ver+1⟩))::(mv.map (·.1)).map (fun i=>(Loc.r i,(none:Option LV))),[]⟩
       | _,_=>none
      | _=>none
     | _,_=>none
    | _=>none
   | false=>none
  | none=>none
 | _,_,_=>none
theorem C56{R:Type}{P:Program}{cfg:Cfg}(hc:J9 P cfg){s:St}{t:Nat}{x y:Operand}{U:Ke R}{r:R}(h:C2l cfg s t x y U=some r):OutS P s (.store t x y) U r:=by
 unfold C2l at h;split at h
 ·rename_i l rx v ry ti ex ey et;split at h
  ·rename_i ls el;split at h
   ·rename_i hlen;have hlen:=A0 hlen;have hrun:∀ (a:Act) (w w':World) (oo:Oper) (ad:Addr),oo.op=.store t x y->a.eval x=.pointer (some ad)->(storeVar t ad (a.eval y)).run P w=.ok () w'->(execOp a.eval oo).run P w=.ok .skip w':=by
     intro a w w' oo ad ho hx hy;simp [execOp,ho,hx,Instr.storeAt,Instr.sureAddr,C4,hy]
    split at h
    ·rename_i b off;split at h
     ·rename_i c ec;split at h
      ·rename_i hfit;have hfit:=D5 hfit;refine ⟨_,h,Reads.app.2 ⟨Reads.app.2 ⟨B9 ex,B9 ey⟩,fun p hp=>by rw [A6.1 hp];exact St.getB_some.1 ec⟩,fun n o ho hdst w0 Z0 s' a m hr hrd hnew next Q hn=>?_⟩
       have hrdA:=Reads.app.1 (Reads.app.1 hrd).1;have hb:=(Reads.app.1 hrd).2 (.b b,.b c) (by simp);have hx:=(D8 ex hr hrdA.1).2 c hb;obtain ⟨vs,hvs,hl⟩:=B0o el (D8 ey hr hrdA.2);obtain ⟨cs,hcs,h1,hcol,hg⟩:=hr.bx b c hb;have hvl:=hl.len;have hcl:=hcs.len;have hst:=A9Q (P:=P) hc et (o:=(m.β b).pre.length+off) hvs (by rw [<- hvl];exact hlen) hg (.inl rfl) (by simp;omega) (All2.one hl);have e1:(((m.β b).pre++cs++(m.β b).post).toArray.toList.take ((m.β b).pre.length+off)++vs++((m.β b).pre++cs++(m.β b).post).toArray.toList.drop ((m.β b).pre.length+off+vs.length)) =
         (m.β b).pre++(cs.take off++vs++cs.drop (off+ls.length))++(m.β b).post:=by
        rw [hvl];exact C8s (by omega)
       rw [e1] at hst;have h2:=hr.setBox (c':=c.take off++ls++c.drop (off+ls.length)) (cs:=cs.take off++vs++cs.drop (off+ls.length)) hb (w':=m.w.setRow (m.β b).g ((m.β b).pre++(cs.take off++vs++cs.drop (off+ls.length))++(m.β b).post).toArray)
        (C0t _ ⟨[],hcol⟩) (by simp) rfl rfl rfl (((hcs.take off).app hl).app (hcs.drop _)) (fun l' hl' q hq=>by
         rcases C9.1 hl' with hl' | hl'
         ·rcases C9.1 hl' with hl' | hl'
          ·exact ⟨.b b,.b c,hb,E6.2 ⟨l',A1M hl',hq⟩⟩
          ·exact B93 ey hrdA.2 q (C45 el l' hl' q hq)
         ·exact ⟨.b b,.b c,hb,E6.2 ⟨l',R8 hl',hq⟩⟩) (O1 m.w _ _ _ _ _ hg)
       have hrun':=hrun a m.w _ o _ ho hx hst;simp only [Oper.wp,hrun',Oper.upon,hdst];exact hn _ _ h2
      ·cases h
     ·cases h
    ·rename_i id q off;split at h
     ·rename_i row i er ei;split at h
      ·rename_i yy mv ep;split at h
       ·rename_i hnd hni;refine ⟨_,h,Reads.app.2 ⟨Reads.app.2 ⟨Reads.app.2 ⟨B9 ex,B9 ey⟩,fun p hp=>?_⟩,C2k ep⟩,fun n o ho hdst w0 Z0 s' a m hr hrd hnew next Q hn=>?_⟩
        ·simp only [B4,N7,A3q] at hp;rcases hp with rfl | rfl
         ·exact St.getR_some.1 er
         ·exact St.getX_some.1 ei
        ·have hrdM:=(Reads.app.1 hrd).2;have hrd1:=Reads.app.1 (Reads.app.1 hrd).1;have hrdA:=Reads.app.1 hrd1.1;have hrow:=hrd1.2 (.r id,.r row) (by simp);have hix:=hrd1.2 (.x q,.x i) (by simp);obtain ⟨hx1,hx2,hx⟩:=(D8 ex hr hrdA.1).2 row i hrow hix;obtain ⟨vs,hvs,hl⟩:=B0o el (D8 ey hr hrdA.2);have hvl:=hl.len;obtain ⟨inner,hown,hcol,hels⟩:=hr.rw id row hrow;have hnm:id ∉ mv.map (·.1):=by
          intro hh;have:=Q0.1 hni id hh;simp at this
         let tg:=B5o [2*id,i.toNat] mv
         let Z1:=L0 tg m.Z
         have hother:∀ p,Moves m.w m.w m.Z Z1 (2*id::p) (2*id::p):=A0N (A48 fun v hv e=>hnm (by
          have:v.1=id:=by omega
          rw [<- this,<- B6e [2*id,i.toNat]];exact D0.2 ⟨v,hv,rfl⟩))
         rcases hown.2 with ⟨e0,hn0⟩ | ⟨g,cap,cur,fz,e0,_,hg,hfz,hnc,hcap,hcs,ht⟩
         ·omega
         ·have hcolg:=hcol g (by rw [e0];rfl);have hinl:=hown.1;have hi2:i.toNat*row.k.sz+row.k.sz<=inner.length:=by rw [hinl,<- G2];exact E1 _ hx2
          have how:=hels i.toNat hx2;rw [<- A8l hx2] at how
          let w':=m.w.setRow g (cur.toList.take (i.toNat*row.k.sz+off)++vs++cur.toList.drop (i.toNat*row.k.sz+off+vs.length)).toArray
          have hb':∀ b,b≠g->w'.heap[b]? = m.w.heap[b]?:=fun b hb=>T3 m.w g b _ hb
          have hne:∀ b r' q',Z1 b=some (r'::q')->(r'≠2*id\/q'≠ [])->b≠g:=by
           intro b r' q' hb hne e;subst e;have:=(hother [] b [] hcolg (A9.1 hg).1).2;rw [hb] at this;injection this with this
           injection this with h1 h2
           rcases hne with hne | hne
           ·exact hne h1
           ·exact hne h2
          have hk':Keeps m.w w' m.Z Z1:=fun b hb hlt=>⟨hb' b (fun e=>by rw [e,hcolg] at hb;cases hb),(P6 m.w tg m.Z b hb hlt).2⟩
          have hdo:Does m.w w' m.Z Z1 [2*id,i.toNat] mv:=by
           have h0:=B6g (w:=m.w) (Z:=m.Z) (p0:= [2*id,i.toNat]) hnd;intro v hv;have hbne:∀ b q',m.Z b=some ([2*v.1]++q')->b≠g:=by
            intro b q' hb e;rw [e,hcolg] at hb;injection hb with hb
            injection hb with hb _
            exact hnm (by rw [show id=v.1 by omega];exact D0.2 ⟨v,hv,rfl⟩)
           have hv0:=h0 v hv;cases hp:v.2.1 with
           | some p=>simp only [hp] at hv0 ⊢;exact fun b q' hb hlt=>⟨hb' b (hbne b q' hb),(hv0 b q' hb hlt).2⟩
           | none=>simp only [hp] at hv0 ⊢;exact fun b q' hb hlt=>⟨hb' b (hbne b q' hb),(hv0 b q' hb hlt).2⟩
          have hmv:∀ p,p≠ []->Moves m.w w' m.Z Z1 (2*id::p) (2*id::p):=by
           intro p hp b q' hb hlt;have h0:=(hother p b q' hb hlt).2;exact ⟨hb' b (hne b (2*id) (p++q') h0 (.inr (by simp [hp]))),h0⟩
          obtain ⟨v0,v1,hv01,hle,hnew',hrest,_⟩:=C8q hr hk' [2*id,i.toNat] ep hrdM hl hdo (cs:=(inner.drop (i.toNat*row.k.sz)).take row.k.sz) (by simpa using how) (fun q'=>by
           have:=hmv (i.toNat::q') (by simp);simpa using this)
          have hv1:v1 = []:=by cases v1 with
           | nil=>rfl
           | cons _ _=>exact hrest.elim
          subst hv1;rw [F4] at hv01;subst hv01;have hcurl:cur.toList.length=cap*row.k.sz:=by rw [D4];exact hcs
          have hcapl:row.xs.length*row.k.sz<=cap*row.k.sz:=E1 _ hnc;have hst:=A9Q (P:=P) hc et (o:=i.toNat*row.k.sz+off) hvs (by rw [<- hvl];exact hlen) hg hfz.1 (by rw [<- D4,hcurl];omega) (All2.one hl);rw [e0,O2,add_plain,D9] at hx;have hrun':=hrun a m.w _ o _ ho hx hst;have h1:=hr.drop tg;rw [show tg.map (·.1)=mv.map (·.1) from B6e _ _] at h1;have hrow1:St.get ((mv.map (·.1)).map (fun i=>(Loc.r i,(none:Option LV)))++s') (.r id)=some (.r row):=by
           rw [A8n fun j hj e=>hnm (by injection e with e;rw [e];exact hj)];exact hrow
          have h2:=h1.updRow (w':=w') hrow1 (row:=⟨row.e,row.k,row.xs.set i.toNat yy,row.ver+1⟩) (by
            intro b hb hq;have hbg:b≠g:=fun e=>hq [] (by rw [e];exact (hother [] g [] hcolg (A9.1 hg).1).2)
            exact ⟨hb' b hbg,rfl⟩) (by simp [w']) rfl rfl rfl rfl (by simp) (by simp) (by
           refine ⟨inner.take (i.toNat*row.k.sz+off)++vs++inner.drop (i.toNat*row.k.sz+off+vs.length),⟨?_,.inr ⟨g,cap,_,fz,?_,G6 _,O1 m.w g cur _ row.e _ hg,?_,?_,hcap,?_,?_⟩⟩,fun g' hg'=>?_,fun j hj=>?_⟩
           ·simp only [A3,B2,C5,V4];omega
           ·simpa using e0
           ·rw [show (cur.toList.take (i.toNat*row.k.sz+off)++vs++cur.toList.drop (i.toNat*row.k.sz+off+vs.length)).toArray.size=cur.size by
             simp only [F7,A3,B2,C5];omega]
            exact hfz
           ·simpa using hnc
           ·simp only [F7,A3,B2,C5];omega
           ·simp only [V4];rw [<- ht];exact C0s (o:=i.toNat*row.k.sz+off) (by have:=ht▸hinl;omega) (by rw [hcurl];exact hcapl)
           ·have:g' = g:=by
             rw [e0] at hg';simp only [Value.ownBlock] at hg';injection hg' with hg';exact hg'.symm
            subst this;exact (hother [] g' [] hcolg (A9.1 hg).1).2
           ·simp only [V4] at hj;by_cases hji:j=i.toNat
            ·subst hji;have e5:(row.xs.set i.toNat yy)[i.toNat]'(by simpa using hj)=yy:=A42 _;simp only [e5];have e6:=C48 (L:=inner) (V:=vs) (off:=off) hle hi2;simp only [spl] at e6;rw [e6];exact hnew'
            ·have e5:(row.xs.set i.toNat yy)[j]'(by simpa using hj)=row.xs[j]:=A61 (R5 hji) _;simp only [e5];have e6:=B95 (L:=inner) (V:=vs) (off:=off) (j:=j) hle hi2 hji;simp only [spl] at e6;rw [e6];exact (hels j hj).move (hmv [j] (by simp)) hk')
          simp only [Oper.wp,hrun',Oper.upon,hdst];exact hn _ _ h2
       ·cases h
      ·cases h
     ·cases h
    ·cases h
   ·cases h
  ·cases h
 ·cases h
inductive PK where
 | val (g:Bool) (k:K) (keep:Bool)
 | ptr (k:K)
inductive RK where
 | val (g:Bool) (k:K)
 | new (k:K)
@[reducible] def PK.k:PK->K
 | .val _ k _=>k
 | .ptr k=>k
@[reducible] def RK.k:RK->K
 | .val _ k=>k
 | .new k=>k
@[reducible] def Ts:List K->Type
 | []=>Unit
 | k::ks=>k.T×Ts ks
@[reducible] def ins:List PK->List K
 | []=> []
 | p::ps=>p.k::ins ps
@[reducible] def kk:List PK->List K
 | []=> []
 | .val _ k true::ps=>k::kk ps
 | .val _ _ false::ps=>kk ps
 | .ptr k::ps=>k::kk ps
@[reducible] def outs:List RK->List PK->List K
 | [],ps=>kk ps
 | r::rs,ps=>r.k::outs rs ps
def LvC(w:World)(Z:Col):Nat->(k:K)->k.T->List Value->Prop
 | _,.int U,n,cs=>cs = [.int U n]
 | _,.bool,b,cs=>cs = [.bool b]
 | _,.fnc f,_,cs=>cs = [fV f]
 | _,.str,s,cs=>cs = [.string s]
 | base,.sl e k,xs,cs=>∃ v,cs = [v]/\OwL (Ow k w Z) e k.sz w Z [2*base] xs v
 | _,.rs _ k,xs,cs=>RoL (Ro k w Z) k.sz w Z xs cs
 | _,.pa n k,xs,cs=>RoP (Ro k w Z) n k.sz w Z xs cs
 | base,.pair a b,x,cs=>∃ c0 c1,cs=c0++c1/\LvC w Z base a x.1 c0/\LvC w Z (base+a.sz) b x.2 c1
theorem LvC.len{w:World}{Z:Col}:∀ {base:Nat} {k:K} {x:k.T} {cs:List Value},LvC w Z base k x cs->cs.length=k.sz
 | _,.int _,_,_,h=>by simp only [LvC] at h;subst h;rfl
 | _,.bool,_,_,h=>by simp only [LvC] at h;subst h;rfl
 | _,.fnc _,_,_,h=>by simp only [LvC] at h;subst h;rfl
 | _,.str,_,_,h=>by simp only [LvC] at h;subst h;rfl
 | _,.sl _ _,_,_,h=>by obtain ⟨v,rfl,_⟩:=h;rfl
 | _,.rs _ _,_,_,h=>by obtain ⟨A,c,rfl,_⟩:=h;rfl
 | _,.pa _ _,_,_,h=>by rcases h with ⟨rfl,_⟩ | ⟨A,rfl,_⟩<;>rfl
 | _,.pair a b,_,_,h=>by
  obtain ⟨c0,c1,rfl,h0,h1⟩:=h;rw [A3,LvC.len h0,LvC.len h1];rfl
theorem LvC.one{w:World}{Z:Col}:∀ {base:Nat} {k:K} {x:k.T} {cs:List Value},LvC w Z base k x cs->∀ u∈cs,u.oneCell' = true
 | _,.int _,_,_,h=>by simp only [LvC] at h;subst h;intro u hu;rw [A6.1 hu];rfl
 | _,.bool,_,_,h=>by simp only [LvC] at h;subst h;intro u hu;rw [A6.1 hu];rfl
 | _,.fnc f,_,_,h=>by simp only [LvC] at h;subst h;intro u hu;rw [A6.1 hu];exact B9b f
 | _,.str,_,_,h=>by simp only [LvC] at h;subst h;intro u hu;rw [A6.1 hu];rfl
 | _,.sl _ _,_,_,h=>by obtain ⟨v,rfl,inner,ho,_⟩:=h;intro u hu;rw [A6.1 hu];exact A5I ho
 | _,.rs _ _,_,_,h=>by obtain ⟨A,c,rfl,_⟩:=h;intro u hu;rw [A6.1 hu];rfl
 | _,.pa _ _,_,_,h=>by rcases h with ⟨rfl,_⟩ | ⟨A,rfl,_⟩<;>(intro u hu;rw [A6.1 hu];rfl)
 | _,.pair a b,_,_,h=>by
  obtain ⟨c0,c1,rfl,h0,h1⟩:=h;intro u hu;rcases C9.1 hu with hu | hu
  ·exact LvC.one h0 u hu
  ·exact LvC.one h1 u hu
def toV(g:Bool)(cs:List Value):Value:=match g with
 | true=>.agg cs.toArray
 | false=>match cs with
  | [c]=>c
  | cs=>.agg cs.toArray
structure Fn where
 ps:List PK
 res:List RK
 fn:Ts (ins ps)->Option (Ts (outs res ps))
@[reducible] def pR(i:Nat):Nat:=1000+100*i
@[reducible] def pB(i:Nat):Nat:=1000+i
@[reducible] def rR(j:Nat):Nat:=5000+100*j
@[reducible] def rB(j:Nat):Nat:=5000+j
def D0U(w:World)(Z:Col)(pl:Plc)(root:Nat)(cs:List Value):Prop:=
 w.heap[pl.g]? = some (.cells (pl.pre++cs++pl.post).toArray pl.t (0,0))/\Z pl.g=some [2*root+1]
def ArgsC(w:World)(Z:Col)(pls:Nat->Plc):Nat->(ps:List PK)->Ts (ins ps)->List Value->Prop
 | _,[],_,vs=>vs = []/\GI w Z
 | i,.val g k _::ps,x,vs=>∃ cs r,vs=toV g cs::r/\LvC w Z (pR i) k x.1 cs/\(g=true\/k.sz=1)/\ArgsC w Z pls (i+1) ps x.2 r
 | i,.ptr k::ps,x,vs=>∃ cs r,vs=.pointer (some ⟨(pls i).g,(pls i).pre.length,none⟩)::r/\D0U w Z (pls i) (pB i) cs/\LvC w Z (pR i) k x.1 cs/\ArgsC w Z pls (i+1) ps x.2 r
theorem ArgsC.gi{w:World}{Z:Col}{pls:Nat->Plc}:∀ {ps:List PK} {i:Nat} {x:Ts (ins ps)} {vs:List Value},ArgsC w Z pls i ps x vs->GI w Z
 | [],_,_,_,h=>h.2
 | .val _ _ _::_,_,_,_,⟨_,_,_,_,_,h⟩=>ArgsC.gi h
 | .ptr _::_,_,_,_,⟨_,_,_,_,_,h⟩=>ArgsC.gi h
def B5L(w:World)(Z:Col)(pls:Nat->Plc):Nat->(ps:List PK)->Ts (kk ps)->List Value->Prop
 | _,[],_,vs=>vs = []
 | i,.val g k true::ps,x,vs=>∃ cs r,vs=toV g cs::r/\LvC w Z (pR i) k x.1 cs/\(g=true\/k.sz=1)/\B5L w Z pls (i+1) ps x.2 r
 | i,.val _ _ false::ps,x,vs=>∃ v r,vs=v::r/\B5L w Z pls (i+1) ps x r
 | i,.ptr k::ps,x,vs=>∃ cs v r,vs=v::r/\D0U w Z (pls i) (pB i) cs/\LvC w Z (pR i) k x.1 cs/\B5L w Z pls (i+1) ps x.2 r
def B8J(w:World)(Z:Col)(pls:Nat->Plc)(ps:List PK)(args:List Value):Nat->(res:List RK)->Ts (outs res ps)->List Value->Prop
 | _,[],x,vs=>vs = []/\B5L w Z pls 0 ps x args
 | j,.val g k::res,x,vs=>∃ cs r,vs=toV g cs::r/\LvC w Z (rR j) k x.1 cs/\(g=true\/k.sz=1)/\B8J w Z pls ps args (j+1) res x.2 r
 | j,.new k::res,x,vs=>∃ b T cs r,vs=.pointer (some ⟨b,0,none⟩)::r/\D0U w Z ⟨b,T,[],[]⟩ (rB j) cs/\LvC w Z (rR j) k x.1 cs/\B8J w Z pls ps args (j+1) res x.2 r
def pack:List Value->Value
 | [v]=>v
 | vs=>.tuple vs.toArray
structure Later (w w':World):Prop where
 size:w.heap.size<=w'.heap.size
 os:w'.os=w.os
 tape:w'.tape=w.tape
 output:w'.output=w.output
def A0O(P:Program)(f:Nat)(F:Fn):Prop:=
 ∀ x y,F.fn x=some y->∀ (w:World) (Z:Col) (pls:Nat->Plc) (args:List Value),ArgsC w Z pls 0 F.ps x args->
  Calls P f args.toArray w fun e w'=>∃ Z' vals,e=.returned (pack vals)/\Keeps w w' Z Z'/\Fore w w' Z Z'/\Later w w'/\B8J w' Z' pls F.ps args 0 F.res y vals
def A6c:List (Nat×Nat)->Nat->Option Nat
 | [],_=>none
 | (a,b)::t,r=>if a=r then some b else A6c t r
def M5(tg:List (Nat×Nat))(br:List Nat)(Z:Col):Col:=fun b=>match Z b with
 | none=>none
 | some []=>some []
 | some (r::q)=>match A6c tg r with
  | some r'=>some (r'::q)
  | none=>if r∈br then none else some []
def Shut(c:Option H9):Prop:=c=none\/c=some []
def bkC(bk:List (Nat×Nat)):H9->Option H9
 | []=>none
 | r::q=>match A6c bk r with
  | some r'=>some (r'::q)
  | none=>none
def A6d(n:Nat)(Z Zc Z':Col)(bk:List (Nat×Nat)):Col:=fun b=>
 match Zc b with
 | none=>if b<n then Z b else (Z' b).bind (bkC bk)
 | some []=>if b<n then Z b else (Z' b).bind (bkC bk)
 | some (_::_)=>(Z' b).bind (bkC bk)
theorem B6i{n:Nat}{Z Zc Z':Col}{bk:List (Nat×Nat)}{b:Nat}(h:Shut (Zc b))(hb:b<n):A6d n Z Zc Z' bk b=Z b:=by
 rcases h with h | h<;>simp only [A6d,h,G0 hb]
theorem B96{w w':World}{Zc Z':Col}(hk:Keeps w w' Zc Z')(hf:Fore w w' Zc Z'){b:Nat}(h:Shut (Zc b))(hb:b<w.heap.size):w'.heap[b]? = w.heap[b]?/\Z' b=Zc b:=by
 rcases h with h | h
 ·obtain ⟨e,e1⟩:=hk b h hb;exact ⟨e,e1.trans h.symm⟩
 ·obtain ⟨e,e1⟩:=hf b h hb;exact ⟨e,e1.trans h.symm⟩
theorem C6g{w w':World}{Z Zc Z':Col}{bk:List (Nat×Nat)}(hk:Keeps w w' Zc Z')(hf:Fore w w' Zc Z'){r:Nat}{q:H9}{b:Nat}(hb:Z' b=some (r::q)):A6d w.heap.size Z Zc Z' bk b=bkC bk (r::q):=by
 have hns:¬ (Shut (Zc b)/\b<w.heap.size):=fun h=>by
  have:=(B96 hk hf h.1 h.2).2;rw [hb] at this;rcases h.1 with h1 | h1<;>rw [h1] at this<;>cases this
 have hbd:(Z' b).bind (bkC bk)=bkC bk (r::q):=by rw [hb];rfl
 simp only [A6d];split
 ·rename_i hc;rw [D6 fun hlt=>hns ⟨.inl hc,hlt⟩,hbd]
 ·rename_i hc;rw [D6 fun hlt=>hns ⟨.inr hc,hlt⟩,hbd]
 ·exact hbd
theorem C57{w w':World}{Z Zc Z':Col}{bk:List (Nat×Nat)}(hk:Keeps w w' Zc Z')(hf:Fore w w' Zc Z'){r r':Nat}(hl:A6c bk r=some r')(p:H9) :
  Moves w' w' Z' (A6d w.heap.size Z Zc Z' bk) (r::p) (r'::p):=by
 intro b q hb hlt;refine ⟨rfl,?_⟩;have hb':Z' b=some (r::(p++q)):=hb;rw [C6g hk hf hb'];simp only [bkC,hl,C7]
theorem C58{w w':World}{Z Z':Col}{tg:List (Nat×Nat)}{bk:List (Nat×Nat)}(hf:Fore w w' (M5 tg [] Z) Z') :
  Keeps w' w' Z' (A6d w.heap.size Z (M5 tg [] Z) Z' bk):=by
 intro b hb hlt;refine ⟨rfl,?_⟩;have hcn:M5 tg [] Z b=none->Z b=none:=by
  intro hc;simp only [M5] at hc;split at hc
  ·assumption
  ·cases hc
  ·split at hc
   ·cases hc
   ·simp at hc
 simp only [A6d];split
 ·rename_i hc;split
  ·exact hcn hc
  ·rw [hb];rfl
 ·rename_i hc;split
  ·rename_i hl;rw [(hf b hc hl).2] at hb;cases hb
  ·rw [hb];rfl
 ·rw [hb];rfl
theorem C0u{tg:List (Nat×Nat)}{br:List Nat}{Z:Col}{b:Nat}(h:Z b=none):M5 tg br Z b=none:=by simp only [M5,h]
theorem B4V(w:World)(tg:List (Nat×Nat))(br:List Nat)(Z:Col):Keeps w w Z (M5 tg br Z):=fun b hb _=>⟨rfl,C0u hb⟩
theorem B6j{w w':World}{Z Z':Col}{tg:List (Nat×Nat)}{br:List Nat}{bk:List (Nat×Nat)}(hk:Keeps w w' (M5 tg br Z) Z') :
  Keeps w w' Z (A6d w.heap.size Z (M5 tg br Z) Z' bk):=by
 intro b hb hlt;have hc:=C0u (tg:=tg) (br:=br) hb;exact ⟨(hk b hc hlt).1,by rw [B6i (.inl hc) hlt];exact hb⟩
theorem C59{w w':World}{Z Z':Col}{tg:List (Nat×Nat)}{br:List Nat}{bk:List (Nat×Nat)}(hf:Fore w w' (M5 tg br Z) Z') :
  Fore w w' Z (A6d w.heap.size Z (M5 tg br Z) Z' bk):=by
 intro b hb hlt;have hc:M5 tg br Z b=some []:=by simp only [M5,hb]
 exact ⟨(hf b hc hlt).1,by rw [B6i (.inr hc) hlt];exact hb⟩
theorem C6h{tg:List (Nat×Nat)}{br:List Nat}{Z:Col}{b r:Nat}{q:H9}(h:Z b=some (r::q))(hn:A6c tg r=none):Shut (M5 tg br Z b):=by
 simp only [M5,h,hn];split
 ·exact .inl rfl
 ·exact .inr rfl
theorem A36(w:World){tg:List (Nat×Nat)}{br:List Nat}{Z:Col}{r r':Nat}(h:A6c tg r=some r')(p:H9):Moves w w Z (M5 tg br Z) (r::p) (r'::p):=by
 intro b q hb _;have hb':Z b=some (r::(p++q)):=hb;exact ⟨rfl,by simp only [M5,hb',h,C7]⟩
theorem B4W(w:World){tg:List (Nat×Nat)}{br:List Nat}{Z:Col}{r:Nat}(h:A6c tg r=none)(hb:r∈br)(p:H9):Frees w w Z (M5 tg br Z) (r::p):=by
 intro b q hb' _;have hb'':Z b=some (r::(p++q)):=hb';exact ⟨rfl,by simp only [M5,hb'',h,G0 hb]⟩
theorem B25{w w':World}{Z Z':Col}{tg:List (Nat×Nat)}{br:List Nat}{bk:List (Nat×Nat)}(hk:Keeps w w' (M5 tg br Z) Z')(hf:Fore w w' (M5 tg br Z) Z'){r:Nat}(hn:A6c tg r=none)(p:H9) :
  Moves w w' Z (A6d w.heap.size Z (M5 tg br Z) Z' bk) (r::p) (r::p):=by
 intro b q hb hlt;have hb':Z b=some (r::(p++q)):=hb;have hs:=C6h (tg:=tg) (br:=br) hb' hn;exact ⟨(B96 hk hf hs hlt).1,by rw [B6i hs hlt];exact hb⟩
def Geq(s s':St):Prop:=∀ l,St.get s' l=St.get s l
theorem Geq.refl(s:St):Geq s s:=fun _=>rfl
theorem Geq.trans{s s1 s2:St}(h:Geq s s1)(h1:Geq s1 s2):Geq s s2:=fun l=>(h1 l).trans (h l)
theorem Geq.symm{s s1:St}(h:Geq s s1):Geq s1 s:=fun l=>(h l).symm
theorem Geq.cons{s s1:St}(h:Geq s s1)(p:Loc×Option LV):Geq (p::s) (p::s1):=by
 intro l;obtain ⟨q,v⟩:=p;by_cases e:q=l
 ·subst e;rw [St.get_cons_same,St.get_cons_same]
 ·rw [St.get_cons_ne e,St.get_cons_ne e];exact h l
theorem Geq.app{s s1:St}(h:Geq s s1):∀ (w:St),Geq (w++s) (w++s1)
 | []=>h
 | p::w=>(Geq.app h w).cons p
theorem Geq.ext{s s1:St}(h:Geq s s1)(m:Mem)(L:Loc->Prop):Ext s m s1 m L:=Ext.same (fun l _=>h l) L
theorem Rel.geq{n:Nat}{w0:World}{Z0:Gh}{s s1:St}{a:Act}{m:Mem}(h:Rel n w0 Z0 s a m)(hg:Geq s s1):Rel n w0 Z0 s1 a m:=
 h.change (fun d=>hg _) (hg.ext m _) (fun id r hr=>h.rw id r (by rw [<- hg];exact hr)) (fun b c hc=>by
  obtain ⟨cs,h1,h2,h3,h4⟩:=h.bx b c (by rw [<- hg];exact hc);exact ⟨cs,All2.imp (fun l hl b' hb=>hb.ext (hg.ext m _)) h1,h2,h3,h4⟩) (Fore.refl _ _) (C6 _) rfl rfl rfl (fun id r _ _ hg'=>⟨⟨r,by rw [<- hg];exact hg'⟩,rfl⟩) (fun b c hg'=>.inl ⟨⟨c,by rw [<- hg];exact hg'⟩,rfl⟩)
theorem Reads.geq{s s1:St}{rd:Rds}(h:Reads s rd)(hg:Geq s s1):Reads s1 rd:=fun p hp=>(hg _).trans (h p hp)
theorem Live.geq{s s1:St}(hg:Geq s s1){l:Loc}(h:Live s1 l):Live s l:=by
 obtain ⟨l',lv,h1,h2⟩:=h;exact ⟨l',lv,by rw [<- hg];exact h1,h2⟩
def Place(P:Program)(n:Nat)(ops:Array Oper)(i:Nat)(δ:O):Prop:=
 ∀ w0 Z0 s a m,Rel n w0 Z0 s a m->Reads s δ.rd->(∀ l∈δ.new,¬ Live s l)->∀ (Q:Exit->Act->World->Prop) (K:Act->World->Prop),
  (∀ a' m',Rel n w0 Z0 (δ.wr++s) a' m'->K a' m'.w)->wpOp P ops Q i K a m.w
def B6k(ops:Array Oper)(j:Nat):Option Nat:=match ops[j]? with
 | some o=>o.dst
 | none=>none
theorem B6l{n:Nat}{w0:World}{Z0:Gh}{s:St}{a:Act}{m:Mem}(h:Rel n w0 Z0 s a m){ops:Array Oper}{j d:Nat}(hd:B6k ops j=some d){b:Bool}
  (hg:s.get (.t d)=some (.t (.one (.bool b)))):yielded ops a.tmps j=some b:=by
 have h1:((ops[j]?).bind (·.dst))=some d:=by
  unfold B6k at hd;split at hd
  ·rename_i o e;rw [e];exact hd
  ·cases hd
 have h2:a.tmps.getD d undef=.bool b:=h.tm d _ hg;have h3:a.tmps[d]? = some (.bool b):=by
  rw [I4] at h2;cases e:a.tmps[d]? with
  | none=>rw [e] at h2;cases h2
  | some v=>rw [e] at h2;simp at h2;rw [h2]
 simp only [yielded,h1,A9I,h3]
theorem C0v{n:Nat}{w0:World}{Z0:Gh}{s:St}{a:Act}{m:Mem}(h:Rel n w0 Z0 s a m){ops:Array Oper}{j d:Nat}(hd:B6k ops j=some d)
  (hg:s.get (.t d)=some (.t .und)):yielded ops a.tmps j=none:=by
 have h1:((ops[j]?).bind (·.dst))=some d:=by
  unfold B6k at hd;split at hd
  ·rename_i o e;rw [e];exact hd
  ·cases hd
 have h2:a.tmps.getD d undef=undef:=h.tm d _ hg;simp only [yielded,h1,A9I];rw [I4] at h2;cases e:a.tmps[d]? with
 | none=>rfl
 | some v=>rw [e] at h2;simp at h2;rw [h2];rfl
def OutG{R:Type}(P:Program)(s:St)(op:Op)(d:Option Nat)(U:Ke R)(r:R):Prop:=
 ∃ δ,U δ=some r/\Reads s δ.rd/\∀ n (o:Oper),o.op=op->o.dst=d->(∀ i,d=some i->i<n)->Good P n o δ
def A79:Type 1:={R:Type}->St->Op->Option Nat->Ke R->Option R
def A49(P:Program)(E:A79):Prop:=∀ {R:Type} {s:St} {op:Op} {d:Option Nat} {U:Ke R} {r:R},E s op d U=some r->OutG P s op d U r
def C49:Option Nat->List (Loc×Option LV)
 | none=> []
 | some d=> [(.t d,some (.t .und))]
def D0V(d:Nat)(b:Bool):Loc×LV:=(.t d,.t (.one (.bool b)))
def B6m:Bool->Bool->Bool
 | true,true=>true
 | false,false=>true
 | _,_=>false
def B9k(E:A79){R:Type}(s:St)(o:Oper)(dj:Nat)(want b:Bool)(U:St->O->Option R):Option R:=
 match B6m want b with
 | true=>E ((.t dj,some (.t (.one (.bool b))))::s) o.op o.dst fun δ=>U ((.t dj,some (.t (.one (.bool b))))::s) ⟨D0V dj b::δ.rd,δ.wr,δ.new⟩
 | false=>U ((.t dj,some (.t (.one (.bool b))))::s) ⟨[D0V dj b],C49 o.dst,[]⟩
def C8t(E:A79){R:Type}(ops:Array Oper)(s:St)(o:Oper)(U:St->O->Option R):Option R:=
 match o.guard with
 | none=>E s o.op o.dst (U s)
 | some (j,want)=>match B6k ops j with
  | none=>none
  | some dj=>match s.getT dj with
   | some .und=>U s ⟨[(.t dj,.t .und)],C49 o.dst,[]⟩
   | some (.one (.bool b))=>bif b then B9k E s o dj want true U else B9k E s o dj want false U
   | _=>none
theorem C0w{a b:Bool}:B6m a b=true↔a=b:=by cases a<;>cases b<;>simp [B6m]
theorem B9l{a b:Bool}:B6m a b=false↔a=!b:=by cases a<;>cases b<;>simp [B6m]
theorem C5A{P:Program}{n:Nat}{ops:Array Oper}{i:Nat}{o:Oper}(ho:ops[i]? = some o){δ:O}(hg:o.guard=none)(h:Good P n o δ):Place P n ops i δ:=by
 intro w0 Z0 s a m hr hrd hnew Q K hK;have hw:Region.wanted o (yielded ops a.tmps)=true:=by simp only [Region.wanted,hg]
 simp only [wpOp,ho,hw,Q7];exact .inl (h w0 Z0 s a m hr hrd hnew K Q hK)
theorem C2m{P:Program}{n:Nat}{ops:Array Oper}{i:Nat}{o:Oper}(ho:ops[i]? = some o){δ:O}{j dj:Nat}{want:Bool}(hg:o.guard=some (j,want))(hd:B6k ops j=some dj)
  (h:Good P n o δ):Place P n ops i ⟨D0V dj want::δ.rd,δ.wr,δ.new⟩:=by
 intro w0 Z0 s a m hr hrd hnew Q K hK;have hy:=B6l hr hd (hrd _ A5);have hw:Region.wanted o (yielded ops a.tmps)=true:=by simp only [Region.wanted,hg,hy,beq_self_eq_true]
 simp only [wpOp,ho,hw,Q7];exact .inl (h w0 Z0 s a m hr (fun p hp=>hrd p (B5 _ hp)) hnew K Q hK)
theorem C6i{n:Nat}{w0:World}{Z0:Gh}{s:St}{a:Act}{m:Mem}(h:Rel n w0 Z0 s a m){d:Option Nat}(hd:∀ i,d=some i->i<n):Rel n w0 Z0 (C49 d++s) (a.put d undef) m:=by
 cases d with
 | none=>exact h
 | some d=>exact h.put (v:=.und) (hd d rfl) rfl
theorem B6n{P:Program}{n:Nat}{ops:Array Oper}{i:Nat}{o:Oper}(ho:ops[i]? = some o){j dj:Nat}{want:Bool}(hg:o.guard=some (j,want))(hd:B6k ops j=some dj)
  (hdst:∀ i,o.dst=some i->i<n) {v:AV} (hv:v=.one (.bool (!want))\/v=.und):Place P n ops i ⟨[(.t dj,.t v)],C49 o.dst,[]⟩:=by
 intro w0 Z0 s a m hr hrd hnew Q K hK;have hrd0:=hrd _ A5;have hw:Region.wanted o (yielded ops a.tmps)=false:=by
  rcases hv with rfl | rfl
  ·simp only [Region.wanted,hg,B6l hr hd hrd0];cases want<;>rfl
  ·simp only [Region.wanted,hg,C0v hr hd hrd0];rfl
 simp only [wpOp,ho,hw,A0c,A0J];exact hK _ m (C6i hr hdst)
theorem C8u{s:St}{d:Nat}{v:AV}(h:s.get (.t d)=some (.t v)):Geq s ((.t d,some (.t v))::s):=by
 intro l;by_cases e:Loc.t d=l
 ·subst e;rw [St.get_cons_same,h]
 ·rw [St.get_cons_ne e]
theorem B9m{P:Program}{E:A79}(hE:A49 P E){R:Type}{n:Nat}{ops:Array Oper}{i:Nat}{o:Oper}(ho:ops[i]? = some o)(hdst:∀ i,o.dst=some i->i<n){s:St}{U:St->O->Option R}{r:R}
  (h:C8t E ops s o U=some r):∃ s' δ,U s' δ=some r/\s <:+ s'/\Geq s s'/\(∀ l,fresh s' l=fresh s l)/\Reads s' δ.rd/\Place P n ops i δ:=by
 unfold C8t at h;split at h
 ·rename_i hg;obtain ⟨δ,h1,h2,h3⟩:=hE h;exact ⟨s,δ,h1,H7 _,Geq.refl _,fun _=>rfl,h2,C5A ho hg (h3 n o rfl rfl hdst)⟩
 ·rename_i j want hg;split at h
  ·cases h
  ·rename_i dj hd;split at h
   ·rename_i hu;exact ⟨s,_,h,H7 _,Geq.refl _,fun _=>rfl,fun p hp=>by rw [A6.1 hp];exact St.getT_some.1 hu,B6n ho hg hd hdst (.inr rfl)⟩
   ·rename_i b hb;have hb:=St.getT_some.1 hb;have key:∀ b',b=b'->B9k E s o dj want b' U=some r->∃ s' δ,U s' δ=some r/\s <:+ s'/\Geq s s'/\(∀ l,fresh s' l=fresh s l)/\Reads s' δ.rd/\Place P n ops i δ:=by
     intro b' e hs;subst e;have hgq:=C8u hb;unfold B9k at hs;split at hs
     ·rename_i hw;have hw:=C0w.1 hw;subst hw;obtain ⟨δ,h1,h2,h3⟩:=hE hs;refine ⟨_,_,h1,A9K _ _,hgq,fun l=>by simp [fresh,LV.men,AV.men,Lf.men],fun p hp=>?_,C2m ho hg hd (h3 n o rfl rfl hdst)⟩;rcases B4.1 hp with rfl | hp
      ·exact St.get_cons_same _ _ _
      ·exact h2 p hp
     ·rename_i hw;have hw:=B9l.1 hw;refine ⟨_,_,hs,A9K _ _,hgq,fun l=>by simp [fresh,LV.men,AV.men,Lf.men],fun p hp=>?_,B6n ho hg hd hdst (.inl ?_)⟩
      ·rw [A6.1 hp];exact St.get_cons_same _ _ _
      ·rw [hw];simp
    cases b with
    | true=>exact key true rfl h
    | false=>exact key false rfl h
   ·cases h
def okD(n:Nat):Option Nat->Bool
 | none=>true
 | some d=>Nat.blt d n
theorem C2n{n:Nat}{d:Option Nat}(h:okD n d=true):∀ i,d=some i->i<n:=fun i e=>by
 subst e;exact A0S.1 h
def B0s(E:A79){R:Type}(n:Nat)(ops:Array Oper):List Oper->St->(St->Option R)->Option R
 | [],s,k=>k s
 | o::os,s,k=>match okD n o.dst with
  | true=>C8t E ops s o fun s' δ=>match δ.new.all (fresh s') with
   | true=>B0s E n ops os (δ.wr++s') k
   | false=>none
  | false=>none
theorem B4a{P:Program}{E:A79}(hE:A49 P E){R:Type}{n:Nat}{ops:Array Oper}:∀ {os:List Oper} {i:Nat} {s:St} {k:St->Option R} {r:R},
  (∀ j o,os[j]? = some o->ops[i+j]? = some o)->B0s E n ops os s k=some r->
  ∃ s',k s' = some r/\s <:+ s'/\∀ w0 Z0 a m,Rel n w0 Z0 s a m->∀ Q:Exit->Act->World->Prop,(∀ a' m',Rel n w0 Z0 s' a' m'->Q .normal a' m'.w)->wpOps P ops Q (List.range' i os.length) a m.w
 | [],i,s,k,r,_,h=>⟨s,h,H7 _,fun w0 Z0 a m hr Q hQ=>hQ a m hr⟩
 | o::os,i,s,k,r,hops,h=>by
  simp only [B0s] at h;split at h
  ·rename_i hok;obtain ⟨s',δ,h1,hsf,h2,_,h3,h4⟩:=B9m hE (n:=n) (hops 0 o rfl) (C2n hok) h;split at h1
   ·rename_i hf;obtain ⟨s'',h5,hsf2,h6⟩:=B4a hE (i:=i+1) (fun j o' hj=>by
     have:=hops (j+1) o' (by simpa using hj)
     rwa [show i+(j+1)=i+1+j by omega] at this) h1
    refine ⟨s'',h5,hsf.trans ((U6 _ _).trans hsf2),fun w0 Z0 a m hr Q hQ=>?_⟩;rw [G9,List.range'_succ,B3R];exact h4 w0 Z0 s' a m (hr.geq h2) h3 (fun l hl=>A6a (C8.1 hf l hl)) Q _ fun a' m' hr'=>h6 w0 Z0 a' m' hr' Q hQ
   ·cases h1
  ·cases h
theorem B8K{P:Program}{E:A79}(hE:A49 P E){R:Type}{n id:Nat}{ops:Array Oper}{s:St}{k:St->Option R}{r:R}(h:B0s E n ops ops.toList s k=some r) :
  ∃ s',k s' = some r/\s <:+ s'/\∀ w0 Z0 a m,Rel n w0 Z0 s a m->∀ Q:Exit->Act->World->Prop,(∀ a' m',Rel n w0 Z0 s' a' m'->Q .normal a' m'.w)->(Code.region id ops false).wp P Q a m.w:=by
 obtain ⟨s',h1,hsf,h2⟩:=B4a hE (i:=0) (fun j o hj=>by rw [D9,<- J1];exact hj) h;refine ⟨s',h1,hsf,fun w0 Z0 a m hr Q hQ=>wp_region ?_⟩;have:=h2 w0 Z0 a m hr Q hQ
 rwa [D4,<- B1s] at this
def A6e(E:Nat->Bool):List O->St->St
 | [],s=>s
 | δ::acc,s=>match E acc.length with
  | true=>δ.wr++A6e E acc s
  | false=>A6e E acc s
def A7K:List O->St->St
 | [],s=>s
 | δ::acc,s=>δ.wr++A7K acc s
theorem B97{E:Nat->Bool}{s:St}:∀ {acc:List O},(∀ i,i<acc.length->E i=true)->A6e E acc s=A7K acc s
 | [],_=>rfl
 | δ::acc,h=>by
  simp only [A6e,A7K,h acc.length (by simp),B97 (acc:=acc) fun i hi=>h i (by simp;omega)]
theorem B98{E:Nat->Bool}{s:St}:∀ {acc:List O},(∀ i,i<acc.length->E i=false)->A6e E acc s=s
 | [],_=>rfl
 | δ::acc,h=>by
  simp only [A6e,h acc.length (by simp),B98 (acc:=acc) fun i hi=>h i (by simp;omega)]
theorem B99{E E':Nat->Bool}{s:St}:∀ {acc:List O},(∀ i,i<acc.length->E i=E' i)->A6e E acc s=A6e E' acc s
 | [],_=>rfl
 | δ::acc,h=>by
  simp only [A6e,h acc.length (by simp),B99 (acc:=acc) fun i hi=>h i (by simp;omega)]
def inW(wr:List (Loc×Option LV))(l:Loc):Bool:=wr.any fun w=>w.1.eqb l
theorem A0T{s:St}{l:Loc}:∀ {wr:List (Loc×Option LV)},inW wr l=false->St.get (wr++s) l=s.get l
 | [],_=>rfl
 | (l',v)::wr,h=>by
  simp only [inW,A0t,A5f] at h;rw [C7,St.get_cons_ne (Loc.eqb_false.1 h.1)];exact A0T h.2
theorem A9R{s s':St}{l:Loc}:∀ {wr:List (Loc×Option LV)},inW wr l=true->St.get (wr++s) l=St.get (wr++s') l
 | [],h=>by cases h
 | (l',v)::wr,h=>by
  by_cases e:l' = l
  ·subst e;rw [C7,C7,St.get_cons_same,St.get_cons_same]
  ·rw [C7,C7,St.get_cons_ne e,St.get_cons_ne e];refine A9R ?_;simp only [inW,A0t,I9] at h;exact h.resolve_left fun h1=>e (Loc.eqb_iff.1 h1)
theorem A8o{a b:St}{l:Loc}:fresh (a++b) l=(fresh a l&&fresh b l):=by simp only [fresh,List.all_append]
def C6j(a b:O):Bool:=
 a.wr.all (fun w=>!(inW b.wr w.1)&&!(b.rd.any fun p=>p.1.eqb w.1))&&b.wr.all (fun w=>!(a.rd.any fun p=>p.1.eqb w.1))&&a.new.all (fresh b.wr)&&b.new.all (fresh a.wr)
structure C4A (a b:O):Prop where
 ww:∀ l,inW a.wr l=true->inW b.wr l=false
 wr:∀ p∈b.rd,inW a.wr p.1=false
 rw:∀ p∈a.rd,inW b.wr p.1=false
 na:∀ l∈a.new,fresh b.wr l=true
 nb:∀ l∈b.new,fresh a.wr l=true
theorem A9S{wr:List (Loc×Option LV)}{l:Loc}(h:inW wr l=true):∃ w∈wr,w.1=l:=by
 obtain ⟨w,hw,e⟩:=A24.1 h;exact ⟨w,hw,Loc.eqb_iff.1 e⟩
theorem C10{a b:O}(h:C6j a b=true):C4A a b:=by
 simp only [C6j,B3] at h;obtain ⟨⟨⟨h1,h2⟩,h3⟩,h4⟩:=h;refine ⟨fun l hl=>?_,fun p hp=>?_,fun p hp=>?_,fun l hl=>C8.1 h3 l hl,fun l hl=>C8.1 h4 l hl⟩
 ·obtain ⟨w,hw,rfl⟩:=A9S hl;have:=C8.1 h1 w hw;simp only [B3,P9] at this;exact this.1
 ·cases e:inW a.wr p.1 with
  | false=>rfl
  | true=>
   obtain ⟨w,hw,hl⟩:=A9S e;have:=C8.1 h1 w hw;simp only [B3,P9] at this;have:=Q0.1 this.2 p hp;rw [hl] at this;exact absurd (Loc.eqb_iff.2 rfl) this
 ·cases e:inW b.wr p.1 with
  | false=>rfl
  | true=>
   obtain ⟨w,hw,hl⟩:=A9S e;have:=C8.1 h2 w hw;simp only [P9] at this;have:=Q0.1 this p hp;rw [hl] at this;exact absurd (Loc.eqb_iff.2 rfl) this
def C6k(ms:List Nat)(es:List Edge):Nat:=es.foldl (fun acc e=>match Region.binds .any e with
 | true=>acc ||| (1 <<< e.on) ||| ms.getD e.on 0
 | false=>acc) 0
def B9A:List Oper->List Nat->List Nat
 | [],ms=>ms
 | o::os,ms=>B9A os (ms ++ [C6k ms o.after.toList])
def C11(j:Nat)(es:List Edge):Bool:=es.all fun e=>match Region.binds .any e with
 | true=>Nat.blt e.on j
 | false=>true
def B9B(δ:O)(mask:Nat):List O->Bool
 | []=>true
 | δi::acc=>(Nat.testBit mask acc.length||C6j δi δ)&&B9B δ mask acc
def B6o(ms:List Nat):List O->Bool
 | []=>true
 | δ::acc=>B9B δ (ms.getD acc.length 0) acc&&B6o ms acc
def B9n(E:A79){R:Type}(n:Nat)(ops:Array Oper):List Oper->List O->St->(List O->St->Option R)->Option R
 | [],acc,s,k=>k acc s
 | o::os,acc,s,k=>match okD n o.dst with
  | true=>C8t E ops s o fun s' δ=>match δ.new.all (fresh s') with
   | true=>B9n E n ops os (δ::acc) (δ.wr++s') k
   | false=>none
  | false=>none
def Facts(P:Program)(n:Nat)(ops:Array Oper)(s0:St):List O->Prop
 | []=>True
 | δ::acc=>Place P n ops acc.length δ/\Reads (A7K acc s0) δ.rd/\(∀ l∈δ.new,fresh (A7K acc s0) l=true)/\Facts P n ops s0 acc
theorem B9C{P:Program}{E:A79}(hE:A49 P E){R:Type}{n:Nat}{ops:Array Oper}{s0:St}:∀ {os:List Oper} {acc:List O} {s:St} {k:List O->St->Option R} {r:R},
  (∀ j o,os[j]? = some o->ops[acc.length+j]? = some o)->Facts P n ops s0 acc->Geq (A7K acc s0) s->(∀ l,fresh s l=fresh (A7K acc s0) l)->B9n E n ops os acc s k=some r->
  ∃ acc' s',k acc' s' = some r/\s <:+ s'/\acc'.length=acc.length+os.length/\Facts P n ops s0 acc'/\Geq (A7K acc' s0) s'
 | [],acc,s,k,r,_,hF,hg,hfr,h=>⟨acc,s,h,H7 _,rfl,hF,hg⟩
 | o::os,acc,s,k,r,hops,hF,hg,hfr,h=>by
  simp only [B9n] at h;split at h
  ·rename_i hok;obtain ⟨s',δ,h1,hsf,h2,h2f,h3,h4⟩:=B9m hE (n:=n) (hops 0 o rfl) (C2n hok) h;split at h1
   ·rename_i hf;have hg':Geq (A7K acc s0) s':=hg.trans h2;obtain ⟨acc',s'',h5,hsf2,h6,h7,h8⟩:=B9C hE (s0:=s0) (acc:=δ::acc) (fun j o' hj=>by
     have:=hops (j+1) o' (by simpa using hj);rw [G9]
     rwa [show acc.length+(j+1)=acc.length+1+j by omega] at this)
     ⟨h4,h3.geq hg'.symm,fun l hl=>by rw [<- hfr,<- h2f];exact C8.1 hf l hl,hF⟩ (hg'.app δ.wr) (fun l=>by rw [A7K,A8o,A8o,h2f,hfr]) h1
    exact ⟨acc',s'',h5,hsf.trans ((U6 _ _).trans hsf2),by rw [h6];simp;omega,h7,h8⟩
   ·cases h1
  ·cases h
def Closed(ops:Array Oper)(E:Nat->Bool):Prop:=∀ j o,ops[j]? = some o->E j=true->∀ e∈o.after,Region.binds .any e=true->E e.on=true
theorem B6p{ms:List Nat}{i:Nat}:∀ {es:List Edge} {acc:Nat},Nat.testBit (es.foldl (fun acc e=>match Region.binds .any e with
  | true=>acc ||| (1 <<< e.on) ||| ms.getD e.on 0
  | false=>acc) acc) i=true->Nat.testBit acc i=true\/∃ e∈es,Region.binds .any e=true/\(i=e.on\/Nat.testBit (ms.getD e.on 0) i=true)
 | [],acc,h=>.inl h
 | e::es,acc,h=>by
  rw [List.foldl_cons] at h;rcases B6p h with h | ⟨e',he,hb,h⟩
  ·cases hb:Region.binds .any e with
   | false=>rw [hb] at h;exact .inl h
   | true=>
    rw [hb] at h;simp only [Nat.testBit_or,I9] at h;rcases h with (h | h) | h
    ·exact .inl h
    ·refine .inr ⟨e,A5,hb,.inl ?_⟩;rw [Nat.one_shiftLeft,Nat.testBit_two_pow] at h;exact (A8 h).symm
    ·exact .inr ⟨e,A5,hb,.inr h⟩
  ·exact .inr ⟨e',B5 _ he,hb,h⟩
theorem B4b:∀ (os:List Oper) (ms:List Nat),(B9A os ms).length=ms.length+os.length
 | [],_=>rfl
 | o::os,ms=>by rw [B9A,B4b];simp;omega
theorem B9D{ops:Array Oper}{E:Nat->Bool}(hc:Closed ops E):∀ {os:List Oper} {ms:List Nat},(∀ j o,os[j]? = some o->ops[ms.length+j]? = some o)->(∀ j o,os[j]? = some o->C11 (ms.length+j) o.after.toList=true)->
  (∀ j,j<ms.length->∀ i,Nat.testBit (ms.getD j 0) i=true->E j=true->E i=true)->∀ j,j<ms.length+os.length->∀ i,Nat.testBit ((B9A os ms).getD j 0) i=true->E j=true->E i=true
 | [],ms,_,_,h,j,hj,i,hb,he=>h j (by simpa using hj) i hb he
 | o::os,ms,hops,hback,h,j,hj,i,hb,he=>by
  refine B9D hc (os:=os) (ms:=ms ++ [C6k ms o.after.toList]) (fun j o' hj=>?_) (fun j o' hj=>?_) ?_ j (by simp at hj ⊢;omega) i hb he
  ·have:=hops (j+1) o' (by simpa using hj);simp only [A3,G5]
   rwa [show ms.length+(j+1)=ms.length+1+j by omega] at this
  ·have:=hback (j+1) o' (by simpa using hj);simp only [A3,G5]
   rwa [show ms.length+(j+1)=ms.length+1+j by omega] at this
  ·intro j hj i hb he;simp only [A3,G5] at hj;by_cases hl:j<ms.length
   ·simp only [C2,E3 hl] at hb;exact h j hl i (by simpa [C2] using hb) he
   ·have hj':j=ms.length:=by omega
    subst hj';simp only [C2,List.getElem?_concat_length,T8] at hb;have h0:=hops 0 o rfl;rw [J0] at h0;have hbk:=hback 0 o rfl;rcases B6p hb with hb | ⟨e,hem,hbi,hb⟩
    ·simp at hb
    ·have heE:=hc ms.length o h0 he e (A5g.1 hem) hbi;have hlt:=C8.1 hbk e hem;simp only [hbi] at hlt;have hlt:=A0S.1 hlt;rcases hb with rfl | hb
     ·exact heE
     ·exact h e.on hlt i hb heE
theorem B9E{δ:O}{mask:Nat}:∀ {acc:List O},B9B δ mask acc=true->∀ {pre:List O} {δi:O} {suf:List O},acc=pre++δi::suf->Nat.testBit mask suf.length=true\/C4A δi δ
 | [],_,pre,δi,suf,e=>by simp at e
 | δ0::acc,h,pre,δi,suf,e=>by
  simp only [B9B,B3,I9] at h;cases pre with
  | nil=>
   simp only [F6] at e;injection e with e1 e2;subst e1;subst e2
   exact h.1.imp id C10
  | cons x pre=>
   simp only [C7] at e;injection e with e1 e2;subst e1;subst e2
   exact B9E h.2 rfl
theorem below{ms:List Nat}{E:Nat->Bool}{s0:St}{δi:O}{i:Nat}(hE:∀ j,j<i->Nat.testBit (ms.getD i 0) j=true->E j=true):∀ {acc:List O},acc.length<=i->B9B δi (ms.getD i 0) acc=true->
  (∀ p∈δi.rd,St.get (A6e E acc s0) p.1=St.get (A7K acc s0) p.1)/\∀ l,fresh (A7K acc s0) l=true->fresh (A6e E acc s0) l=true
 | [],_,_=>⟨fun _ _=>rfl,fun _ h=>h⟩
 | δ::acc,hl,h=>by
  simp only [B9B,B3,I9] at h;have hl':acc.length<i:=by simp at hl;omega
  obtain ⟨ih1,ih2⟩:=below (s0:=s0) hE (acc:=acc) (by omega) h.2;simp only [A6e,A7K];cases e:E acc.length with
  | true=>
   refine ⟨fun p hp=>?_,fun l hl=>?_⟩
   ·cases ein:inW δ.wr p.1 with
    | true=>exact A9R ein
    | false=>rw [A0T ein,A0T ein];exact ih1 p hp
   ·simp only [A8o,B3] at hl ⊢;exact ⟨hl.1,ih2 l hl.2⟩
  | false=>
   have hin:C4A δ δi:=by
    rcases h.1 with h1 | h1
    ·rw [hE _ hl' h1] at e;cases e
    ·exact C10 h1
   refine ⟨fun p hp=>?_,fun l hl=>?_⟩
   ·rw [A0T (hin.wr p hp)];exact ih1 p hp
   ·simp only [A8o,B3] at hl;exact ih2 l hl.2
def B0T(E:Nat->Bool)(i:Nat):Nat->Bool:=fun j=>Nat.beq i j||E j
theorem A8p{E:Nat->Bool}{i j:Nat}(h:i≠j):B0T E i j=E j:=by
 have:Nat.beq i j=false:=by
  cases e:Nat.beq i j with
  | false=>rfl
  | true=>exact absurd (A0 e) h
 simp only [B0T,this,Bool.false_or]
theorem B3W(E:Nat->Bool)(i:Nat):B0T E i i=true:=by simp [B0T]
theorem C6l{a b:List (Loc×Option LV)}(s:St)(h:∀ l,inW a l=true->inW b l=false):Geq (a++(b++s)) (b++(a++s)):=by
 intro l;cases ha:inW a l with
 | true=>
  rw [A0T (h l ha)];exact A9R ha
 | false=>
  rw [A0T ha];cases hb:inW b l with
  | true=>exact A9R hb
  | false=>rw [A0T hb,A0T hb,A0T ha]
theorem turn{P:Program}{n:Nat}{ops:Array Oper}{ms:List Nat}{E:Nat->Bool}{s0:St}{i:Nat}(hEi:E i=false)(hup:∀ j,j<i->Nat.testBit (ms.getD i 0) j=true->E j=true)
  (hcl:∀ j,j<ms.length->Nat.testBit (ms.getD j 0) i=true->E j=true->E i=true):∀ {acc:List O},acc.length<=ms.length->i<acc.length->B6o ms acc=true->Facts P n ops s0 acc->
  ∃ δ pre suf,acc=pre++δ::suf/\suf.length=i/\Place P n ops i δ/\Reads (A6e E acc s0) δ.rd/\(∀ l∈δ.new,fresh (A6e E acc s0) l=true)/\Geq (δ.wr++A6e E acc s0) (A6e (B0T E i) acc s0)
 | [],_,h,_,_=>by simp at h
 | δ::acc,hlen,h,hp,hF=>by
  simp only [B6o,B3] at hp;obtain ⟨hF1,hF2,hF3,hF4⟩:=hF;by_cases hi:i=acc.length
  ·subst hi;obtain ⟨b1,b2⟩:=below (s0:=s0) hup (C6 _) hp.1;refine ⟨δ,[],acc,rfl,rfl,hF1,fun p hp=>?_,fun l hl=>?_,?_⟩
   ·simp only [A6e,hEi];rw [b1 p hp];exact hF2 p hp
   ·simp only [A6e,hEi];exact b2 l (hF3 l hl)
   ·simp only [A6e,hEi,B3W];rw [B99 (E:=B0T E acc.length) (E':=E) fun j hj=>A8p (by omega)];exact Geq.refl _
  ·have hlt:i<acc.length:=by simp at h;omega
   have hlen':acc.length<ms.length:=by simp at hlen;omega
   obtain ⟨δi,pre,suf,e1,e2,h1,h2,h3,h4⟩:=turn hEi hup hcl (acc:=acc) (s0:=s0) (by omega) hlt hp.2 hF4;have hw:B0T E i acc.length=E acc.length:=A8p hi;refine ⟨δi,δ::pre,suf,by rw [e1];rfl,e2,h1,?_⟩;cases e:E acc.length with
   | false=>
    simp only [A6e,e,hw];exact ⟨h2,h3,h4⟩
   | true=>
    have hin:C4A δi δ:=by
     rcases B9E hp.1 e1 with hb | hb
     ·rw [e2] at hb;rw [hcl _ hlen' hb e] at hEi;cases hEi
     ·exact hb
    simp only [A6e,e,hw];refine ⟨fun p hp=>?_,fun l hl=>?_,?_⟩
    ·rw [A0T (hin.rw p hp)];exact h2 p hp
    ·rw [A8o,B3];exact ⟨hin.na l hl,h3 l hl⟩
    ·exact (C6l _ hin.ww).trans (h4.app _)
def left(E:Nat->Bool):Nat->Nat
 | 0=>0
 | n+1=>left E n+(match E n with
  | true=>0
  | false=>1)
theorem B9F{E:Nat->Bool}:∀ {n:Nat},left E n=0->∀ i,i<n->E i=true
 | n+1,h,i,hi=>by
  simp only [left] at h;cases e:E n with
  | false=>rw [e] at h;simp at h
  | true=>
   rw [e] at h;by_cases hin:i=n
   ·subst hin;exact e
   ·exact B9F (n:=n) (by omega) i (by omega)
theorem C4B{E E':Nat->Bool}(h:∀ i,E i=true->E' i=true):∀ n,left E' n<=left E n
 | 0=>C6 _
 | n+1=>by
  have:=C4B h n;simp only [left];cases e:E n with
  | true=>rw [h n e];simp;exact this
  | false=>cases E' n<;>simp<;>omega
theorem C4C{E E':Nat->Bool}(h:∀ i,E i=true->E' i=true){i:Nat}(he:E i=false)(he':E' i=true):∀ {n:Nat},i<n->left E' n<left E n
 | n+1,hi=>by
  simp only [left];by_cases hin:i=n
  ·subst hin;rw [he,he'];have:=C4B h i;simp;omega
  ·have:=C4C h he he' (n:=n) (by omega);cases e:E n with
   | true=>rw [h n e];simp;exact this
   | false=>cases E' n<;>simp<;>omega
theorem B6q{E:Nat->Bool}{i j:Nat}(h:E j=true):B0T E i j=true:=by simp [B0T,h]
theorem C6m{P:Program}{n:Nat}{ops:Array Oper}{ms:List Nat}(hms:ms.length=ops.size){s0:St}{acc:List O}(hacc:acc.length=ops.size)(hp:B6o ms acc=true)(hF:Facts P n ops s0 acc)
  (hback:∀ j o,ops[j]? = some o->C11 j o.after.toList=true) (hbit:∀ E,Closed ops E->∀ j,j<ms.length->∀ i,Nat.testBit (ms.getD j 0) i=true->E j=true->E i=true)
  {w0:World} {Z0:Gh} {Q:Exit->Act->World->Prop} (hQ:∀ a' m',Rel n w0 Z0 (A7K acc s0) a' m'->Q .normal a' m'.w):∀ (fuel:Nat) (listed:Array Bool) (E:Nat->Bool) (a:Act) (m:Mem),
   listed.size=ops.size->(∀ i,i<ops.size->listed.getD i false=E i)->(∀ i,E i=true->i<ops.size)->Closed ops E->left E ops.size<=fuel->Rel n w0 Z0 (A6e E acc s0) a m->wpAny P .any ops Q fuel listed a m.w:=by
 have hdone:∀ E a m,Closed ops E->(∀ i,i<ops.size->E i=true)->Rel n w0 Z0 (A6e E acc s0) a m->Q .normal a m.w:=fun E a m hc hall hr=>by
  rw [B97 fun i hi=>hall i (by omega)] at hr;exact hQ a m hr
 have hready:∀ (listed:Array Bool) (E:Nat->Bool),listed.size=ops.size->(∀ i,i<ops.size->listed.getD i false=E i)->Region.ready .any ops listed = []->∀ i,i<ops.size->E i=true:=by
  intro listed E hsz hE hr i
  induction i using Nat.strongRecOn with
  | _ i ih=>
   intro hi;cases e:E i with
   | true=>rfl
   | false=>
    exfalso;have:i∈Region.ready .any ops listed:=by
     refine mem_ready.2 ⟨?_,ops[i],H3 hi,fun ed hed hb=>?_⟩
     ·have h1:=hE i hi;rw [e] at h1;have hl:i<listed.size:=by omega
      simp only [I4,H3 hl,T8] at h1 ⊢;exact h1
     ·have hlt:=C8.1 (hback i _ (H3 hi)) ed (A5g.2 hed);simp only [hb] at hlt;have hlt:=A0S.1 hlt;rw [hE ed.on (by omega)];exact ih ed.on hlt (by omega)
    rw [hr] at this;cases this
 intro fuel
 induction fuel with
 | zero=>
  intro listed E a m hsz hE hEs hc hl hr;have hall:=B9F (Nat.le_zero.1 hl);refine ⟨?_,hdone E a m hc hall hr⟩;cases hrd:Region.ready .any ops listed with
  | nil=>rfl
  | cons i rest=>
   have hi:i∈Region.ready .any ops listed:=by rw [hrd];exact A5
   obtain ⟨h0,o,ho,_⟩:=mem_ready.1 hi;have hlt:=(A9.1 ho).1;have h1:=hE i hlt;rw [hall i hlt] at h1;have hl:i<listed.size:=by omega
   simp only [I4,H3 hl,T8] at h0 h1;rw [h0] at h1;cases h1
 | succ fuel ih=>
  intro listed E a m hsz hE hEs hc hl hr;refine ⟨fun h=>hdone E a m hc (hready listed E hsz hE h) hr,fun i hi=>?_⟩;obtain ⟨h0,o,ho,hpre⟩:=mem_ready.1 hi;have hlt:=(A9.1 ho).1;have hls:i<listed.size:=by omega
  have hEi:E i=false:=by
   rw [<- hE i hlt];simp only [I4,H3 hls,T8] at h0 ⊢;exact h0
  have hc1:Closed ops (B0T E i):=by
   intro j o' hj he e hem hb;by_cases hij:i=j
   ·subst hij;rw [ho] at hj;injection hj with hj;subst hj
    have hlt':=C8.1 (hback i _ ho) e (A5g.2 hem);simp only [hb] at hlt';have hlt':=A0S.1 hlt';refine B6q ?_;rw [<- hE e.on (by omega)];exact hpre e hem hb
   ·rw [A8p hij] at he;exact B6q (hc j o' hj he e hem hb)
  obtain ⟨δ,pre,suf,e1,e2,h1,h2,h3,h4⟩:=turn (s0:=s0) (P:=P) (n:=n) (ops:=ops) (ms:=ms) (acc:=acc) hEi
   (fun j hj hb=>by
    have:=hbit _ hc1 i (by omega) j hb (B3W E i)
    rwa [A8p (by omega)] at this)
   (fun j hj hb he=>hbit _ hc j hj i hb he) (by omega) (by omega) hp hF
  refine h1 w0 Z0 _ a m hr h2 (fun l hl=>A6a (h3 l hl)) Q _ fun a' m' hr'=>?_
  refine ih (listed.setIfInBounds i true) (B0T E i) a' m' (by simp [hsz]) (fun j hj=>?_) (fun j hj=>?_) hc1 ?_ (hr'.geq h4)
  ·by_cases hij:i=j
   ·subst hij;rw [B3W];simp [hls]
   ·rw [A8p hij,getD_set_ne false hij];exact hE j hj
  ·by_cases hij:i=j
   ·omega
   ·rw [A8p hij] at hj;exact hEs j hj
  ·have:=C4C (E:=E) (E':=B0T E i) (fun j hj=>B6q hj) hEi (B3W E i) hlt;omega
def B6D:List Oper->Nat->Bool
 | [],_=>true
 | o::os,j=>C11 j o.after.toList&&B6D os (j+1)
theorem B6r:∀ {os:List Oper} {j:Nat},B6D os j=true->∀ i o,os[i]? = some o->C11 (j+i) o.after.toList=true
 | [],_,_,i,o,h=>by simp at h
 | o::os,j,hb,i,o',h=>by
  simp only [B6D,B3] at hb;cases i with
  | zero=>simp at h;subst h;exact hb.1
  | succ i=>
   have:=B6r hb.2 i o' (by simpa using h)
   rwa [show j+1+i=j+(i+1) by omega] at this
def B9o(E:A79){R:Type}(n:Nat)(ops:Array Oper)(s:St)(k:St->Option R):Option R:=
 match B6D ops.toList 0 with
 | true=>B9n E n ops ops.toList [] s fun acc s'=>match B6o (B9A ops.toList []) acc with
  | true=>k s'
  | false=>none
 | false=>none
theorem Rel.drawn{n:Nat}{w0:World}{Z0:Gh}{s:St}{a:Act}{m:Mem}(h:Rel n w0 Z0 s a m)(i:Nat):Rel n w0 Z0 s a {m with w:={m.w with drawn:=i}}:=by
 have hX:Ext s m s {m with w:={m.w with drawn:=i}} (Live s):=
  ⟨fun _ h _=>⟨rfl,h⟩,fun id r' _ hr=>⟨r',hr,rfl,rfl,rfl,C6 _,fun _ _ _ _ hc=>hc,fun _ _ _ hb _=>⟨rfl,hb⟩⟩,fun b c' _ hc=>⟨c',hc,rfl⟩,fun q i _ hi=>hi⟩
 refine h.change (fun _=>rfl) hX (fun id r hr=>?_) (fun b c hc=>?_) (fun _ h _=>⟨rfl,h⟩) (C6 _) rfl rfl rfl (fun id r _ _ hg=>⟨⟨r,hg⟩,rfl⟩) (fun b c hg=>.inl ⟨⟨c,hg⟩,rfl⟩)
 ·exact (h.rw id r hr).move (fun _ _ hb _=>⟨rfl,hb⟩) (fun _ h _=>⟨rfl,h⟩)
 ·obtain ⟨cs,h1,h2,h3,h4⟩:=h.bx b c hc;exact ⟨cs,All2.imp (fun l hl b' hb=>hb.ext (hX.sub fun q hq=>⟨.b b,.b c,hc,E6.2 ⟨l,hl,hq⟩⟩)) h1,h2,h3,h4⟩
theorem B6s{P:Program}(hm:P.follows .mixedOrders=true){E:A79}(hE:A49 P E){R:Type}{n id:Nat}{ops:Array Oper}{s:St}{k:St->Option R}{r:R}(h:B9o E n ops s k=some r) :
  ∃ s',k s' = some r/\s <:+ s'/\∀ w0 Z0 a m,Rel n w0 Z0 s a m->∀ Q:Exit->Act->World->Prop,(∀ a' m',Rel n w0 Z0 s' a' m'->Q .normal a' m'.w)->(Code.region id ops true).wp P Q a m.w:=by
 unfold B9o at h;split at h
 ·rename_i hb;obtain ⟨acc,s',h1,hsf,h2,h3,h4⟩:=B9C hE (s0:=s) (acc:= []) (fun j o hj=>by rw [I1,D9,<- J1];exact hj) trivial (Geq.refl _) (fun _=>rfl) h;split at h1
  ·rename_i hp;refine ⟨s',h1,hsf,fun w0 Z0 a m hr Q hQ=>wp_region_any hm ?_⟩;have hml:(B9A ops.toList []).length=ops.size:=by rw [B4b];simp
   have hbk:∀ j o,ops[j]? = some o->C11 j o.after.toList=true:=fun j o hj=>by
    have:=B6r hb j o (by rw [J1];exact hj)
    rwa [D9] at this
   refine C6m (n:=n) (s0:=s) (acc:=acc) hml (by rw [h2];simp) hp h3 hbk (fun E hc j hj i hbi he=>?_) (w0:=w0) (Z0:=Z0) (fun a' m' hr'=>hQ a' m' (hr'.geq h4)) ops.size _ (fun _=>false) a {m with w:={m.w with drawn:=m.w.drawn+1}} (by simp) (fun i hi=>by simp [Array.getElem?_replicate,hi]) (fun i hi=>by cases hi) (fun j o hj he=>by cases he) ?_ ?_
   ·refine B9D hc (os:=ops.toList) (ms:= []) (fun j o hj=>?_) (fun j o hj=>?_) (fun j hj=>by simp at hj) j (by rw [B4b] at hj;exact hj) i hbi he
    ·rw [I1,D9,<- J1];exact hj
    ·rw [I1,D9];exact hbk j o (by rw [<- J1];exact hj)
   ·have:∀ k,left (fun _=>false) k=k:=fun k=>by induction k with
     | zero=>rfl
     | succ k ih=>simp only [left,ih]
    rw [this];exact C6 _
   ·rw [B98 fun i _=>rfl];exact hr.drawn _
  ·cases h1
 ·cases h
inductive Sp where
 | int (k:IntKind)
 | bool
 | str
 | ro (e:Nat) (k:K)
 | own (c:Nat)
 | nil
 | ptr (b off:Nat)
 | fn (f:Nat)
 | rpt (k:K) (off:Nat)
 | any
inductive It where
 | t (d:Nat) (agg:Bool) (sps:List Sp)
 | b (d:Nat) (sps:List Sp)
 | r (c e:Nat) (k:K)
@[reducible] def LT:List Sp->Type->Type
 | [],R=>R
 | .int _::sps,R=>Int×LT sps R
 | .bool::sps,R=>Bool×LT sps R
 | .str::sps,R=>ByteArray×LT sps R
 | .ro _ k::sps,R=>List k.T×LT sps R
 | .own _::sps,R=>LT sps R
 | .nil::sps,R=>LT sps R
 | .ptr _ _::sps,R=>LT sps R
 | .fn _::sps,R=>LT sps R
 | .rpt k _::sps,R=>k.T×LT sps R
 | .any::sps,R=>LT sps R
@[reducible] def ShT:List It->Type
 | []=>Unit
 | .t _ _ sps::its=>LT sps (ShT its)
 | .b _ sps::its=>LT sps (ShT its)
 | .r _ _ k::its=>List k.T×ShT its
abbrev Mp:=List (Nat×Option Nat)
def A29:Mp->Nat->Option (Option Nat)
 | [],_=>none
 | (c,o)::μ,d=>match Nat.beq c d with
  | true=>some o
  | false=>A29 μ d
def D0W:Option Nat->Option Nat->Bool
 | none,none=>true
 | some a,some b=>Nat.beq a b
 | _,_=>false
def C8v(μ:Mp)(c:Nat)(o:Option Nat):Option Mp:=match A29 μ c with
 | none=>some ((c,o)::μ)
 | some o'=>match D0W o o' with
  | true=>some μ
  | false=>none
def A83{A B M:Type}(f:A->B):Option (A×M)->Option (B×M)
 | some (x,m)=>some (f x,m)
 | none=>none
theorem C6n{k:K}{x:k.T}{off:Nat}{m m1:Mem}{s s1:St}{v:Value}(h:LfC s m (.rpt k x off) v)(hk:Keeps m.w m1.w m.Z m1.Z):LfC s1 m1 (.rpt k x off) v:=by
 obtain ⟨ad,ds,h1,h2,h3,h4⟩:=h;have hlen:=h1.len;have hpos:=k.sz_pos;have hlt:ad.block<m.w.heap.size:=by
  have:=J2 m.w _ (h3 0 ds[0] (by simp [show 0<ds.length by omega]))
  rwa [add_block] at this
 exact ⟨ad,ds,h1.keep hk,(hk _ h2 hlt).2,fun j u hu=>A2t hk (h3 j u hu) (by rw [add_block];exact h2),h4⟩
def C6o(k k':K)(x:k.T):Option k'.T:=if h:k=k' then some (h▸x) else none
theorem C2o{k k':K}{x:k.T}{y:k'.T}(h:C6o k k' x=some y):∃ e:k=k',y=e▸x:=by
 unfold C6o at h;split at h
 ·rename_i e;injection h with h
  exact ⟨e,h.symm⟩
 ·cases h
def L8{R:Type}(s:St):(sps:List Sp)->List Lf->Mp->(Mp->Option (R×Mp))->Option (LT sps R×Mp)
 | [],[],μ,kk=>kk μ
 | .int k::sps,.int k' n::ls,μ,kk=>match decide (k=k') with
  | true=>A83 (fun x=>(n,x)) (L8 s sps ls μ kk)
  | false=>none
 | .bool::sps,.bool b::ls,μ,kk=>A83 (fun x=>(b,x)) (L8 s sps ls μ kk)
 | .str::sps,.str b::ls,μ,kk=>A83 (fun x=>(b,x)) (L8 s sps ls μ kk)
 | .ro e k::sps,.ro e' k' xs::ls,μ,kk=>match Nat.beq e e',A35 k' k xs with
  | true,some ys=>A83 (fun x=>(ys,x)) (L8 s sps ls μ kk)
  | _,_=>none
 | .ro e k::sps,.nil::ls,μ,kk=>A83 (fun x=>([],x)) (L8 s sps ls μ kk)
 | .own c::sps,.own a::ls,μ,kk=>match s.getR a,C8v μ c (some a) with
  | some _,some μ'=>L8 s sps ls μ' kk
  | _,_=>none
 | .own c::sps,.nil::ls,μ,kk=>match C8v μ c none with
  | some μ'=>L8 s sps ls μ' kk
  | none=>none
 | .nil::sps,.nil::ls,μ,kk=>L8 s sps ls μ kk
 | .ptr b off::sps,.ptr b' off'::ls,μ,kk=>match Nat.beq b b',Nat.beq off off' with
  | true,true=>L8 s sps ls μ kk
  | _,_=>none
 | .rpt k off::sps,.rpt k' x off'::ls,μ,kk=>match Nat.beq off off',C6o k' k x with
  | true,some y=>A83 (fun x=>(y,x)) (L8 s sps ls μ kk)
  | _,_=>none
 | .fn f::sps,.fn f'::ls,μ,kk=>match Nat.beq f f' with
  | true=>L8 s sps ls μ kk
  | false=>none
 | .any::sps,_::ls,μ,kk=>L8 s sps ls μ kk
 | _,_,_,_=>none
def M3{R:Type}:(sps:List Sp)->LT sps R->List Lf×R
 | [],x=>([],x)
 | .int k::sps,x=>(.int k x.1::(M3 sps x.2).1,(M3 sps x.2).2)
 | .bool::sps,x=>(.bool x.1::(M3 sps x.2).1,(M3 sps x.2).2)
 | .str::sps,x=>(.str x.1::(M3 sps x.2).1,(M3 sps x.2).2)
 | .ro e k::sps,x=>(.ro e k x.1::(M3 sps x.2).1,(M3 sps x.2).2)
 | .own c::sps,x=>(.own c::(M3 sps x).1,(M3 sps x).2)
 | .nil::sps,x=>(.nil::(M3 sps x).1,(M3 sps x).2)
 | .ptr b off::sps,x=>(.ptr b off::(M3 sps x).1,(M3 sps x).2)
 | .fn f::sps,x=>(.fn f::(M3 sps x).1,(M3 sps x).2)
 | .rpt k off::sps,x=>(.rpt k x.1 off::(M3 sps x.2).1,(M3 sps x.2).2)
 | .any::sps,x=>(.any::(M3 sps x).1,(M3 sps x).2)
def D1d(agg:Bool)(ls:List Lf):AV:=match agg with
 | true=>.agg ls
 | false=>match ls with
  | [l]=>.one l
  | ls=>.agg ls
def A9T(s:St):(its:List It)->Mp->Option (ShT its×Mp)
 | [],μ=>some ((),μ)
 | .t d agg sps::its,μ=>match s.getT d,agg with
  | some (.one l),false=>L8 s sps [l] μ (A9T s its)
  | some (.agg ls),true=>L8 s sps ls μ (A9T s its)
  | _,_=>none
 | .b d sps::its,μ=>match s.getB d with
  | some ls=>L8 s sps ls μ (A9T s its)
  | none=>none
 | .r c e k::its,μ=>match A29 μ c with
  | some (some a)=>match s.getR a with
   | some row=>match Nat.beq row.e e,A7I row.k k row.xs with
    | true,some xs=>A83 (fun x=>(xs,x)) (A9T s its μ)
    | _,_=>none
   | none=>none
  | some none=>A83 (fun x=>([],x)) (A9T s its μ)
  | none=>none
def B2N:(its:List It)->ShT its->St
 | [],_=> []
 | .t d agg sps::its,x=>(.t d,some (.t (D1d agg (M3 sps x).1)))::B2N its (M3 sps x).2
 | .b d sps::its,x=>(.b d,some (.b (M3 sps x).1))::B2N its (M3 sps x).2
 | .r c e k::its,x=>(.r c,some (.r ⟨e,k,x.1,0⟩))::B2N its x.2
def It.loc:It->Loc
 | .t d _ _=>.t d
 | .b d _=>.b d
 | .r c _ _=>.r c
theorem A8q:∀ (its:List It) (x:ShT its),(B2N its x).map (·.1)=its.map It.loc
 | [],_=>rfl
 | .t d agg sps::its,x=>by simp only [B2N,G3,A8q its];rfl
 | .b d sps::its,x=>by simp only [B2N,G3,A8q its];rfl
 | .r c e k::its,x=>by simp only [B2N,G3,A8q its];rfl
def SubM(μ μ':Mp):Prop:=∀ c o,A29 μ c=some o->A29 μ' c=some o
theorem SubM.refl(μ:Mp):SubM μ μ:=fun _ _ h=>h
theorem SubM.trans{a b c:Mp}(h:SubM a b)(h1:SubM b c):SubM a c:=fun x o e=>h1 x o (h x o e)
theorem C8w{a b:Option Nat}(h:D0W a b=true):a=b:=by
 cases a<;>cases b<;>simp [D0W] at h<;>try rfl
 rw [h]
theorem C4D{μ μ':Mp}{c:Nat}{o:Option Nat}(h:C8v μ c o=some μ'):SubM μ μ'/\A29 μ' c=some o:=by
 unfold C8v at h;split at h
 ·rename_i hn;injection h with h;subst h
  refine ⟨fun d o' hd=>?_,by simp [A29]⟩;simp only [A29];split
  ·rename_i hb;rw [<- A0 hb,hn] at hd;cases hd
  ·exact hd
 ·rename_i o' ho;split at h
  ·rename_i hb;injection h with h;subst h
   exact ⟨SubM.refl _,by rw [ho,C8w hb]⟩
  ·cases h
def B3a(μ:Mp)(ρ:Nat->Value):Nat->Value:=fun c=>match A29 μ c with
 | some (some a)=>ρ a
 | some none=>.slice none 0 0
 | none=>ρ c
structure JE (s:St) (m:Mem) (s1:St) (m1:Mem) (μ:Mp):Prop where
 keep:Keeps m.w m1.w m.Z m1.Z
 rho:∀ c o,A29 μ c=some o->m1.ρ c=match o with
  | some a=>m.ρ a
  | none=>.slice none 0 0
 box:∀ b c,s1.get (.b b)=some (.b c)->∃ c',s.get (.b b)=some (.b c')/\m1.β b=m.β b
theorem Q3{A B M:Type}{f:A->B}{o:Option (A×M)}{y:B}{μ:M}(h:A83 f o=some (y,μ)):∃ x,o=some (x,μ)/\y=f x:=by
 cases o with
 | none=>cases h
 | some p=>obtain ⟨x,m⟩:=p;simp only [A83] at h;injection h with h;injection h with h1 h2;subst h1;subst h2;exact ⟨x,rfl,rfl⟩
theorem A9U{R:Type}{s:St}:∀ {sps:List Sp} {ls:List Lf} {μ μ':Mp} {kk:Mp->Option (R×Mp)} {x:LT sps R},L8 s sps ls μ kk=some (x,μ')->
  ∃ μ1,kk μ1=some ((M3 sps x).2,μ')/\SubM μ μ1/\∀ m s1 m1 μf,JE s m s1 m1 μf->SubM μ1 μf->∀ vs,All2 (LfC s m) ls vs->All2 (LfC s1 m1) (M3 sps x).1 vs:=by
 intro sps
 induction sps with
 | nil=>
  intro ls μ μ' kk x h;cases ls with
  | nil=>exact ⟨μ,h,SubM.refl _,fun m s1 m1 μf _ _ vs hv=>by cases vs with
   | nil=>trivial
   | cons _ _=>exact hv.elim⟩
  | cons l ls=>simp [L8] at h
 | cons sp sps ih=>
  intro ls μ μ' kk x h;cases ls with
  | nil=>cases sp<;>simp [L8] at h
  | cons l ls=>
   have step:∀ {μ2:Mp} {y:LT sps R} {l':Lf},L8 s sps ls μ2 kk=some (y,μ')->SubM μ μ2->(∀ m s1 m1 μf,JE s m s1 m1 μf->SubM μ2 μf->∀ v,LfC s m l v->LfC s1 m1 l' v)->
     ∃ μ1,kk μ1=some ((M3 sps y).2,μ')/\SubM μ μ1/\∀ m s1 m1 μf,JE s m s1 m1 μf->SubM μ1 μf->∀ vs,All2 (LfC s m) (l::ls) vs->All2 (LfC s1 m1) (l'::(M3 sps y).1) vs:=by
    intro μ2 y l' hy hsub hl;obtain ⟨μ1,h1,h2,h3⟩:=ih hy;refine ⟨μ1,h1,hsub.trans h2,fun m s1 m1 μf hj hs vs hv=>?_⟩;cases vs with
    | nil=>exact hv.elim
    | cons v vs=>exact ⟨hl m s1 m1 μf hj (h2.trans hs) v hv.1,h3 m s1 m1 μf hj hs vs hv.2⟩
   cases sp with
   | int k=>
    cases l<;>simp only [L8] at h<;>try (cases h;done)
    split at h
    ·rename_i hk;have hk:=A8 hk;subst hk;obtain ⟨y,hy,rfl⟩:=Q3 h;exact step hy (SubM.refl _) fun m s1 m1 μf _ _ v hv=>hv
    ·cases h
   | bool=>
    cases l<;>simp only [L8] at h<;>try (cases h;done)
    obtain ⟨y,hy,rfl⟩:=Q3 h;exact step hy (SubM.refl _) fun m s1 m1 μf _ _ v hv=>hv
   | str=>
    cases l<;>simp only [L8] at h<;>try (cases h;done)
    obtain ⟨y,hy,rfl⟩:=Q3 h;exact step hy (SubM.refl _) fun m s1 m1 μf _ _ v hv=>hv
   | ro e k=>
    cases l<;>simp only [L8] at h<;>try (cases h;done)
    ·obtain ⟨y,hy,rfl⟩:=Q3 h;exact step hy (SubM.refl _) fun m s1 m1 μf _ _ v hv=>by
      simp only [LfC] at hv;subst hv;exact ⟨none,0,rfl,C6 _,G6 _,fun h=>by simp at h⟩
    ·split at h
     ·rename_i ys hb hcast;obtain ⟨y,hy,rfl⟩:=Q3 h;have hb:=A0 hb;subst hb;exact step hy (SubM.refl _) fun m s1 m1 μf hj _ v hv=>Ro.keep (k:=.rs e k) (B0n (e:=e) hcast hv) hj.keep
     ·cases h
   | own c=>
    cases l<;>simp only [L8] at h<;>try (cases h;done)
    ·split at h
     ·rename_i μ2 ha;obtain ⟨h1,h2⟩:=C4D ha;exact step h h1 fun m s1 m1 μf hj hs v hv=>by
       simp only [LfC] at hv;subst hv;exact ⟨rfl,fun r hr=>(hj.rho c none (hs _ _ h2)).symm⟩
     ·cases h
    ·split at h
     ·rename_i row μ2 hrow ha;obtain ⟨h1,h2⟩:=C4D ha;exact step h h1 fun m s1 m1 μf hj hs v hv=>by
       refine ⟨hv.1,fun r hr=>?_⟩;rw [hv.2 row (St.getR_some.1 hrow)];exact (hj.rho c _ (hs _ _ h2)).symm
     ·cases h
   | nil=>
    cases l<;>simp only [L8] at h<;>try (cases h;done)
    exact step h (SubM.refl _) fun m s1 m1 μf _ _ v hv=>hv
   | ptr b off=>
    cases l<;>simp only [L8] at h<;>try (cases h;done)
    split at h
    ·rename_i h1 h2;have h1:=A0 h1;have h2:=A0 h2;subst h1;subst h2;exact step h (SubM.refl _) fun m s1 m1 μf hj _ v hv=>⟨hv.1,fun c hc=>by
      obtain ⟨c',hc',e⟩:=hj.box _ c hc;rw [e];exact hv.2 c' hc'⟩
    ·cases h
   | rpt k off=>
    cases l<;>simp only [L8] at h<;>try (cases h;done)
    split at h
    ·rename_i y0 hb hcast;obtain ⟨y,hy,rfl⟩:=Q3 h;have hb:=A0 hb;subst hb;obtain ⟨ek,rfl⟩:=C2o hcast;subst ek;exact step hy (SubM.refl _) fun m s1 m1 μf hj _ v hv=>by
      exact C6n hv hj.keep
    ·cases h
   | fn f=>
    cases l<;>simp only [L8] at h<;>try (cases h;done)
    split at h
    ·rename_i h1;have h1:=A0 h1;subst h1;exact step h (SubM.refl _) fun m s1 m1 μf _ _ v hv=>hv
    ·cases h
   | any=>
    simp only [L8] at h;exact step h (SubM.refl _) fun m s1 m1 μf _ _ v hv=>hv.one
def B9p(s:St)(m:Mem)(s1:St)(m1:Mem)(a:Act)(μ:Mp):It->LV->Prop
 | .t d _ _,lv=>∃ v,lv=.t v/\(∀ u,s.get (.t d)=some (.t u)->AVC s m u (a.tmps.getD d undef)->AVC s1 m1 v (a.tmps.getD d undef))/\∃ u,s.get (.t d)=some (.t u)
 | .b d _,lv=>∃ c c',lv=.b c/\s.get (.b d)=some (.b c')/\∀ vs,All2 (LfC s m) c' vs->All2 (LfC s1 m1) c vs
 | .r c e k,lv=>∃ xs:List k.T,lv=.r ⟨e,k,xs,0⟩/\OwL (Ow k m1.w m1.Z) e k.sz m1.w m1.Z [2*c] xs (m1.ρ c)/\
   ∀ a0,A29 μ c=some (some a0)->∃ row,s.get (.r a0)=some (.r row)/\row.k.sz=k.sz/\row.xs.length=xs.length
structure JR (s:St) (m:Mem) (m1:Mem) (μ:Mp):Prop where
 row:∀ c a row,A29 μ c=some (some a)->s.get (.r a)=some (.r row)->OwL (Ow row.k m1.w m1.Z) row.e row.k.sz m1.w m1.Z [2*c] row.xs (m.ρ a)
theorem A9V{s:St}:∀ {its:List It} {μ μ':Mp} {x:ShT its},A9T s its μ=some (x,μ')->SubM μ μ'/\∀ m s1 m1 a,JE s m s1 m1 μ'->JR s m m1 μ'->
   All2 (B9p s m s1 m1 a μ') its ((B2N its x).map fun p=>p.2.getD (.x 0))/\∀ p∈B2N its x,p.2.isSome=true
 | [],μ,μ',x,h=>by
  simp only [A9T] at h;injection h with h;injection h with h1 h2;subst h2
  exact ⟨SubM.refl _,fun m s1 m1 a _ _=>⟨trivial,fun p hp=>nomatch hp⟩⟩
 | .t d agg sps::its,μ,μ',x,h=>by
  simp only [A9T] at h;split at h
  ·rename_i l hg;obtain ⟨μ1,h1,h2,h3⟩:=A9U h;obtain ⟨h4,h5⟩:=A9V h1;refine ⟨h2.trans h4,fun m s1 m1 a hj hr=>?_⟩;obtain ⟨h6,h7⟩:=h5 m s1 m1 a hj hr;refine ⟨⟨⟨_,rfl,fun u hu hv=>?_,⟨_,St.getT_some.1 hg⟩⟩,h6⟩,fun p hp=>?_⟩
   ·rw [St.getT_some.1 hg] at hu;injection hu with hu;injection hu with hu;subst hu
    have hl:=h3 m s1 m1 μ' hj h4 [a.tmps.getD d undef] ⟨hv,trivial⟩;cases e:(M3 sps x).1 with
    | nil=>rw [e] at hl;exact hl.elim
    | cons l' ls'=>
     rw [e] at hl;cases ls' with
     | cons _ _=>exact hl.2.elim
     | nil=>exact hl.1
   ·rcases B4.1 hp with rfl | hp
    ·rfl
    ·exact h7 p hp
  ·rename_i ls hg;obtain ⟨μ1,h1,h2,h3⟩:=A9U h;obtain ⟨h4,h5⟩:=A9V h1;refine ⟨h2.trans h4,fun m s1 m1 a hj hr=>?_⟩;obtain ⟨h6,h7⟩:=h5 m s1 m1 a hj hr;refine ⟨⟨⟨_,rfl,fun u hu hv=>?_,⟨_,St.getT_some.1 hg⟩⟩,h6⟩,fun p hp=>?_⟩
   ·rw [St.getT_some.1 hg] at hu;injection hu with hu;injection hu with hu;subst hu
    obtain ⟨cs,hcs,hv⟩:=hv;exact ⟨cs,hcs,h3 m s1 m1 μ' hj h4 cs hv⟩
   ·rcases B4.1 hp with rfl | hp
    ·rfl
    ·exact h7 p hp
  ·cases h
 | .b d sps::its,μ,μ',x,h=>by
  simp only [A9T] at h;split at h
  ·rename_i ls hg;obtain ⟨μ1,h1,h2,h3⟩:=A9U h;obtain ⟨h4,h5⟩:=A9V h1;refine ⟨h2.trans h4,fun m s1 m1 a hj hr=>?_⟩;obtain ⟨h6,h7⟩:=h5 m s1 m1 a hj hr;refine ⟨⟨⟨_,ls,rfl,St.getB_some.1 hg,fun vs hv=>h3 m s1 m1 μ' hj h4 vs hv⟩,h6⟩,fun p hp=>?_⟩;rcases B4.1 hp with rfl | hp
   ·rfl
   ·exact h7 p hp
  ·cases h
 | .r c e k::its,μ,μ',x,h=>by
  simp only [A9T] at h;split at h
  ·rename_i a0 hm;split at h
   ·rename_i row hg;split at h
    ·rename_i xs hb hcast;obtain ⟨y,hy,rfl⟩:=Q3 h;obtain ⟨h4,h5⟩:=A9V hy;refine ⟨h4,fun m s1 m1 a hj hr=>?_⟩;obtain ⟨h6,h7⟩:=h5 m s1 m1 a hj hr;have hb:=A0 hb;obtain ⟨ek,rfl⟩:=S5 hcast;refine ⟨⟨⟨_,rfl,?_,fun a1 ha1=>?_⟩,h6⟩,fun p hp=>?_⟩
     ·have h8:=hr.row c a0 row (h4 _ _ hm) (St.getR_some.1 hg);rw [hj.rho c _ (h4 _ _ hm)];subst hb;subst ek;exact h8
     ·rw [h4 _ _ hm] at ha1;injection ha1 with ha1;injection ha1 with ha1;subst ha1
      subst ek;exact ⟨row,St.getR_some.1 hg,rfl,rfl⟩
     ·rcases B4.1 hp with rfl | hp
      ·rfl
      ·exact h7 p hp
    ·cases h
   ·cases h
  ·rename_i hm;obtain ⟨y,hy,rfl⟩:=Q3 h;obtain ⟨h4,h5⟩:=A9V hy;refine ⟨h4,fun m s1 m1 a hj hr=>?_⟩;obtain ⟨h6,h7⟩:=h5 m s1 m1 a hj hr;refine ⟨⟨⟨_,rfl,?_,fun a1 ha1=>by rw [h4 _ _ hm] at ha1;injection ha1 with ha1;cases ha1⟩,h6⟩,fun p hp=>?_⟩
   ·rw [hj.rho c _ (h4 _ _ hm)];exact ⟨[],A3M _ _ _ _,fun g hg=>by simp [Value.ownBlock] at hg,fun i h=>by simp at h⟩
   ·rcases B4.1 hp with rfl | hp
    ·rfl
    ·exact h7 p hp
  ·cases h
theorem C6p{s:St}{m:Mem}{s1:St}{m1:Mem}{a:Act}{μ:Mp}:∀ {its:List It} {x:ShT its} {l:Loc} {lv:LV} {rest:St},All2 (B9p s m s1 m1 a μ) its ((B2N its x).map fun p=>p.2.getD (.x 0))->(∀ p∈B2N its x,p.2.isSome=true)->
  St.get (B2N its x++rest) l=some lv->(∃ it∈its,it.loc=l/\B9p s m s1 m1 a μ it lv)\/((∀ it∈its,it.loc≠l)/\St.get rest l=some lv):=by
 intro its x;have hlocs:=A8q its x;generalize B2N its x=W at *
 clear x
 induction its generalizing W with
 | nil=>
  intro l lv rest _ _ hg;have:W = []:=by simpa using hlocs
  subst this;exact .inr ⟨fun it hi=>(nomatch hi),hg⟩
 | cons it its ih=>
  intro l lv rest hA hS hg;cases W with
  | nil=>simp at hlocs
  | cons w W=>
   simp only [G3] at hlocs hA;injection hlocs with hl1 hl2
   obtain ⟨wl,wv⟩:=w;simp only at hl1;by_cases e:wl=l
   ·subst e;rw [C7,St.get_cons_same] at hg;have:=hS _ A5;simp only [hg,T8] at hA;exact .inl ⟨it,A5,hl1.symm,hA.1⟩
   ·rw [C7,St.get_cons_ne e] at hg;rcases ih W hl2 hA.2 (fun p hp=>hS p (B5 _ hp)) hg with ⟨it',h1,h2⟩ | ⟨h1,h2⟩
    ·exact .inl ⟨it',B5 _ h1,h2⟩
    ·refine .inr ⟨fun it' hi=>?_,h2⟩;rcases B4.1 hi with rfl | hi
     ·exact fun h=>e (hl1.trans h)
     ·exact h1 it' hi
def A37(dead:List Loc):St:=dead.map fun l=>(l,none)
theorem A38{dead:List Loc}{rest:St}{l:Loc}{lv:LV}(h:St.get (A37 dead++rest) l=some lv):l ∉ dead/\St.get rest l=some lv:=by
 induction dead with
 | nil=>exact ⟨by simp,h⟩
 | cons d dead ih=>
  simp only [A37,G3,C7] at h;by_cases e:d=l
  ·subst e;rw [St.get_cons_same] at h;cases h
  ·rw [St.get_cons_ne e] at h;obtain ⟨h1,h2⟩:=ih h;exact ⟨fun hm=>(B4.1 hm).elim (fun h=>e h.symm) h1,h2⟩
def B2O(W:List Loc)(l:Loc):Bool:=W.any (Loc.eqb · l)
theorem B6E{W:List Loc}{l:Loc}(h:B2O W l=true):l∈W:=by
 obtain ⟨w,hw,e⟩:=A24.1 h;rw [<- Loc.eqb_iff.1 e];exact hw
def B8L(μ:Mp):List Nat:=μ.filterMap (·.2)
def AV.lfs:AV->List Lf
 | .one l=> [l]
 | .agg ls=>ls
 | .tup ps=>ps.flatMap (·.2)
 | .und=> []
def LV.lfs:LV->List Lf
 | .t v=>v.lfs
 | .b c=>c
 | _=> []
theorem C90{lv:LV}{l:Lf}(h:l∈lv.lfs){q:Loc}(hq:q∈l.men):q∈lv.men:=by
 cases lv with
 | t v=>
  cases v with
  | one l'=>simp only [LV.lfs,AV.lfs,A6] at h;subst h;exact hq
  | agg ls=>exact E6.2 ⟨l,h,hq⟩
  | tup ps=>
   obtain ⟨p,hp,hl⟩:=E6.1 h;exact E6.2 ⟨p,hp,E6.2 ⟨l,hl,hq⟩⟩
  | und=>cases h
 | b c=>exact E6.2 ⟨l,h,hq⟩
 | r row=>cases h
 | x i=>cases h
theorem AVC.lfs{s:St}{m:Mem}{s1:St}{m1:Mem}{v:AV}{x:Value}(h:AVC s m v x)(hl:∀ l∈v.lfs,∀ y,LfC s m l y->LfC s1 m1 l y):AVC s1 m1 v x:=by
 cases v with
 | one l=>exact hl l (by simp [AV.lfs]) x h
 | agg ls=>
  obtain ⟨cs,rfl,h⟩:=h;exact ⟨cs,rfl,All2.imp (fun l hm b hb=>hl l hm b hb) h⟩
 | tup ps=>
  obtain ⟨vs,rfl,h⟩:=h;refine ⟨vs,rfl,All2.imp (fun p hp b hb=>?_) h⟩;have hsub:∀ l∈p.2,∀ y,LfC s m l y->LfC s1 m1 l y:=fun l hm=>hl l (E6.2 ⟨p,hp,hm⟩)
  obtain ⟨f,ls⟩:=p;cases f with
  | true=>obtain ⟨cs,rfl,h⟩:=hb;exact ⟨cs,rfl,All2.imp (fun l hm b hb=>hsub l hm b hb) h⟩
  | false=>obtain ⟨l,rfl,h⟩:=hb;exact ⟨l,rfl,hsub l (by simp) _ h⟩
 | und=>exact h
def C6q(id:Nat):Lf->Bool
 | .sub i _ _ _=>Nat.beq i id
 | .ext i _ _ _ _ _ _ _=>Nat.beq i id
 | _=>false
def C12(s:St)(id:Nat):Bool:=s.all fun p=>match p.2 with
 | some lv=>lv.lfs.all fun l=>!(C6q id l)
 | none=>true
theorem C6r{s:St}{id:Nat}(h:C12 s id=true){l0:Loc}{lv:LV}(hg:s.get l0=some lv){q off ver:Nat}(hm:Lf.sub id q off ver∈lv.lfs):False:=by
 have h1:=C8.1 h _ (get_mem hg);have h2:=C8.1 h1 _ hm;simp [C6q] at h2
theorem C6s{s:St}{id:Nat}(h:C12 s id=true){l0:Loc}{lv:LV}(hg:s.get l0=some lv){q off ver:Nat}{p:List Nat}{e:Nat}{k:K}{zs:List k.T}(hm:Lf.ext id q off ver p e k zs∈lv.lfs):False:=by
 have h1:=C8.1 h _ (get_mem hg);have h2:=C8.1 h1 _ hm;simp [C6q] at h2
def C6t(p:Nat×Option Nat):Bool:=match p.2 with
 | some a=>Nat.beq a p.1
 | none=>false
theorem C6u{c:Nat}{o:Option Nat}(h:C6t (c,o)=true):o=some c:=by
 unfold C6t at h;split at h
 ·rename_i a e;simp only at e;rw [e,A0 h]
 ·cases h
def D00(W:List Loc)(s:St)(μ:Mp):Bool:=
 nodupB (B8L μ)&&(B8L μ).all (fun a=>B2O W (.r a))&&μ.all fun p=>(match C6t p with
  | true=>C12 s p.1
  | false=>fresh s (.r p.1)&&(Nat.blt p.1 1000||Nat.ble 4096 p.1))&&B2O W (.r p.1)
def C4E(s:St):List It->Mp
 | []=> []
 | .r c _ _::its=>match s.getR c with
  | some _=>(c,some c)::C4E s its
  | none=>C4E s its
 | _::its=>C4E s its
def C2p(its:List It)(dead:List Loc)(s s':St):Option (ShT its):=
 match A9T s' its (C4E s its) with
 | some (x,μ)=>match (s'.take (s'.length-s.length)).all (fun p=>B2O (its.map It.loc++dead) p.1),D00 (its.map It.loc++dead) s μ with
  | true,true=>some x
  | _,_=>none
 | none=>none
def V5(its:List It)(dead:List Loc)(s:St)(x:ShT its):St:=B2N its x++(A37 dead++s)
theorem A1Q(its:List It)(dead:List Loc)(s:St)(x:ShT its):s <:+ V5 its dead s x:=by
 unfold V5;exact (U6 _ _).trans (U6 _ _)
def tgM(μ:Mp):Tg:=μ.filterMap fun p=>match p.2 with
 | some a=>some (a,fun q=>some (2*p.1::q))
 | none=>none
theorem B26:∀ {μ:Mp} {c:Nat} {o:Option Nat},A29 μ c=some o->(c,o)∈μ
 | [],_,_,h=>by cases h
 | (c0,o0)::μ,c,o,h=>by
  simp only [A29] at h;split at h
  ·rename_i hb;injection h with h;subst h
   rw [A0 hb];exact A5
  ·exact B5 _ (B26 h)
theorem B6t:∀ {μ:Mp},nodupB (B8L μ)=true->∀ {c a:Nat},(c,some a)∈μ->A0D (tgM μ) (2*a)=some (fun q=>some (2*c::q))
 | [],_,_,_,h=>nomatch h
 | (c0,o0)::μ,hn,c,a,h=>by
  cases o0 with
  | none=>
   have hn':nodupB (B8L μ)=true:=by simpa [B8L] using hn
   rcases B4.1 h with e | h
   ·injection e with _ e;cases e
   ·have:=B6t hn' h;simpa [tgM] using this
  | some a0=>
   have hn':nodupB (a0::B8L μ)=true:=by simpa [B8L] using hn
   obtain ⟨hni,hn'⟩:=A7J hn';rcases B4.1 h with e | h
   ·injection e with e1 e2;injection e2 with e2;subst e1;subst e2
    simp [tgM,A0D]
   ·have hne:¬ 2*a0=2*a:=by
     intro e;refine hni (A0f.2 ⟨(c,some a),h,?_⟩);simp;omega
    have:=B6t hn' h;simp only [tgM] at this;simp only [tgM,A62,A0D,D6 hne];exact this
theorem B6u{μ:Mp}{r:Nat}(h:∀ a∈B8L μ,2*a≠r):A0D (tgM μ) r=none:=by
 refine A48 fun v hv=>?_
 obtain ⟨⟨c,o⟩,hm,e⟩:=A0f.1 hv;cases o with
 | none=>cases e
 | some a=>
  simp only at e;injection e with e;subst e
  exact h a (A0f.2 ⟨(c,some a),hm,rfl⟩)
theorem A4A{R:Type}{s:St}{sps:List Sp}{ls:List Lf}{μ μ':Mp}{kk:Mp->Option (R×Mp)}{x:LT sps R}(h:L8 s sps ls μ kk=some (x,μ')) :
  ∃ μ1 y,kk μ1=some (y,μ'):=let ⟨μ1,h1,_⟩:=A9U h;⟨μ1,_,h1⟩
theorem A8r{s:St}:∀ {its:List It} {μ μ':Mp} {x:ShT its},A9T s its μ=some (x,μ')->∀ d sps,It.b d sps∈its->∃ c,s.get (.b d)=some (.b c)
 | .t d agg sps::its,μ,μ',x,h,d',sps',hm=>by
  have hm2:=(B4.1 hm).resolve_left (by simp);simp only [A9T] at h;split at h
  ·obtain ⟨_,_,h1⟩:=A4A h;exact A8r h1 d' sps' hm2
  ·obtain ⟨_,_,h1⟩:=A4A h;exact A8r h1 d' sps' hm2
  ·cases h
 | .b d sps::its,μ,μ',x,h,d',sps',hm=>by
  simp only [A9T] at h;split at h
  ·rename_i ls hg;rcases B4.1 hm with e | hm
   ·injection e with e _;subst e;exact ⟨ls,St.getB_some.1 hg⟩
   ·obtain ⟨_,_,h1⟩:=A4A h;exact A8r h1 d' sps' hm
  ·cases h
 | .r c e k::its,μ,μ',x,h,d',sps',hm=>by
  have hm2:=(B4.1 hm).resolve_left (by simp);simp only [A9T] at h;split at h
  ·split at h
   ·split at h
    ·obtain ⟨y,hy,_⟩:=Q3 h;exact A8r hy d' sps' hm2
    ·cases h
   ·cases h
  ·obtain ⟨y,hy,_⟩:=Q3 h;exact A8r hy d' sps' hm2
  ·cases h
theorem B3b{its:List It}{x:ShT its}{l:Loc}(h:∀ it∈its,it.loc≠l):inW (B2N its x) l=false:=by
 cases e:inW (B2N its x) l with
 | false=>rfl
 | true=>
  obtain ⟨w,hw,rfl⟩:=A9S e;have:w.1∈its.map It.loc:=by rw [<- A8q its x];exact D0.2 ⟨w,hw,rfl⟩
  obtain ⟨it,hi,e⟩:=D0.1 this;exact absurd e (h it hi)
theorem B27{its:List It}{dead:List Loc}{s:St}{x:ShT its}{l:Loc}{lv:LV}(h:St.get (V5 its dead s x) l=some lv) :
  (∃ it∈its,it.loc=l)\/(l ∉ its.map It.loc++dead/\s.get l=some lv):=by
 by_cases hl:∃ it∈its,it.loc=l
 ·exact .inl hl
 ·have hl':∀ it∈its,it.loc≠l:=fun it hi e=>hl ⟨it,hi,e⟩
  unfold V5 at h;rw [A0T (B3b hl')] at h;obtain ⟨h1,h2⟩:=A38 h;refine .inr ⟨fun hm=>?_,h2⟩;rcases C9.1 hm with hm | hm
  ·obtain ⟨it,hi,e⟩:=D0.1 hm;exact hl' it hi e
  ·exact h1 hm
theorem C5B{its:List It}{dead:List Loc}{s s':St}{x:ShT its}(h:C2p its dead s s' = some x)(hs:s <:+ s'){n:Nat}{w0:World}{Z0:Gh}{a:Act}{m:Mem}(hr:Rel n w0 Z0 s' a m) :
  ∃ m1,m1.w=m.w/\Rel n w0 Z0 (V5 its dead s x) a m1:=by
 unfold C2p at h;split at h
 ·rename_i x' μ hp;split at h
  ·rename_i hW hM;injection h with h;subst h
   obtain ⟨pre,rfl⟩:=hs;rw [A3,Nat.add_sub_cancel,R7] at hW;simp only [D00,B3] at hM;obtain ⟨⟨hM1,hM2⟩,hM3⟩:=hM
   let m1:Mem:=⟨m.w,L0 (tgM μ) m.Z,B3a μ m.ρ,m.β⟩
   refine ⟨m1,rfl,?_⟩;obtain ⟨_,hfill⟩:=A9V hp;have hbase:∀ l,l ∉ its.map It.loc++dead->St.get (pre++s) l=s.get l:=fun l hl=>A0T (by
    cases e:inW pre l with
    | false=>rfl
    | true=>
     obtain ⟨w,hw,rfl⟩:=A9S e;exact absurd (B6E (C8.1 hW w hw)) hl)
   have hW2:∀ c o,A29 μ c=some o->Loc.r c∈its.map It.loc++dead:=by
    intro c o hc;have:=C8.1 hM3 _ (B26 hc);simp only [B3] at this;exact B6E this.2
   have hnone:∀ c o,A29 μ c=some o->(o=some c/\C12 s c=true)\/((∀ l lv,s.get l=some lv->Loc.r c ∉ lv.men)/\(c<1000\/4096<=c)):=by
    intro c o hc;have:=C8.1 hM3 _ (B26 hc);simp only [B3] at this;have h1:=this.1;split at h1
    ·rename_i hs;exact .inl ⟨C6u hs,h1⟩
    ·simp only [B3,I9] at h1;exact .inr ⟨fun l lv hg hm=>A6a h1.1 ⟨l,lv,hg,hm⟩,h1.2.imp A0S.1 D5⟩
   have hkeep:Keeps m.w m1.w m.Z m1.Z:=P6 _ _ _;have hact:∀ a,a∈B8L μ->Loc.r a∈its.map It.loc++dead:=fun a ha=>B6E (C8.1 hM2 a ha)
   have hJE:JE (pre++s) m (V5 its dead s x') m1 μ:=by
    refine ⟨hkeep,fun c o hc=>?_,fun b c hg=>?_⟩
    ·show B3a μ m.ρ c=_;simp only [B3a,hc];cases o<;>rfl
    ·rcases B27 hg with ⟨it,hi,e⟩ | ⟨h1,h2⟩
     ·cases it with
      | t d ag sps=>cases e
      | r c' e' k'=>cases e
      | b d sps=>
       injection e with e;subst e
       obtain ⟨c',hc'⟩:=A8r hp d sps hi;exact ⟨c',hc',rfl⟩
     ·exact ⟨c,by rw [hbase _ h1];exact h2,rfl⟩
   have hJR:JR (pre++s) m m1 μ:=⟨fun c a0 row hc hg=>by
    have hm:=A5K (w:=m.w) (Z:=m.Z) (tg:=tgM μ) (id:=a0) (p:= []) (p':= [2*c]) (B6t hM1 (B26 hc)) (fun q=>rfl);exact (hr.rw a0 row hg).move hm hkeep⟩
   obtain ⟨hA,hS⟩:=hfill m (V5 its dead s x') m1 a hJE hJR;have hmapped:∀ c' e' k',It.r c' e' k'∈its->∃ o,A29 μ c' = some o:=by
    intro c' e' k' hmem;have key:∀ {its:List It} {μ0 μ':Mp} {x:ShT its},A9T (pre++s) its μ0=some (x,μ')->It.r c' e' k'∈its->∃ o,A29 μ' c' = some o:=by
     intro its
     induction its with
     | nil=>intro μ0 μ' x _ h;cases h
     | cons it its ih=>
      intro μ0 μ' x h hm;cases it with
      | t d ag sps=>
       have hm2:=(B4.1 hm).resolve_left (by simp);simp only [A9T] at h;split at h
       ·obtain ⟨_,_,h1⟩:=A4A h;exact ih h1 hm2
       ·obtain ⟨_,_,h1⟩:=A4A h;exact ih h1 hm2
       ·cases h
      | b d sps=>
       have hm2:=(B4.1 hm).resolve_left (by simp);simp only [A9T] at h;split at h
       ·obtain ⟨_,_,h1⟩:=A4A h;exact ih h1 hm2
       ·cases h
      | r c2 e2 k2=>
       have hsub:=(A9V h).1;simp only [A9T] at h;rcases B4.1 hm with e | hm
       ·injection e with e _;subst e
        split at h
        ·rename_i hc;exact ⟨_,hsub _ _ hc⟩
        ·rename_i hc;exact ⟨_,hsub _ _ hc⟩
        ·cases h
       ·split at h
        ·split at h
         ·split at h
          ·obtain ⟨y,hy,_⟩:=Q3 h;exact ih hy hm
          ·cases h
         ·cases h
        ·obtain ⟨y,hy,_⟩:=Q3 h;exact ih hy hm
        ·cases h
    exact key hp hmem
   have hold:∀ l lv,St.get (V5 its dead s x') l=some lv->(∃ it∈its,it.loc=l/\B9p (pre++s) m (V5 its dead s x') m1 a μ it lv)\/(l ∉ its.map It.loc++dead/\s.get l=some lv/\St.get (pre++s) l=some lv):=by
    intro l lv hg;rcases C6p (rest:=A37 dead++s) hA hS hg with h1 | ⟨h1,h2⟩
    ·exact .inl h1
    ·rcases B27 hg with ⟨it,hi,e⟩ | ⟨h3,h4⟩
     ·exact absurd e (h1 it hi)
     ·exact .inr ⟨h3,h4,by rw [hbase _ h3];exact h4⟩
   have hL:∀ l0 lv0,s.get l0=some lv0->∀ l∈lv0.lfs,∀ v,LfC (pre++s) m l v->LfC (V5 its dead s x') m1 l v:=by
    intro l0 lv0 hg0 l hl v hv;have hrow:∀ id r',Loc.r id∈l.men->St.get (V5 its dead s x') (.r id)=some (.r r')->∃ r,St.get (pre++s) (.r id)=some (.r r)/\m1.ρ id=m.ρ id/\r'.k.sz=r.k.sz/\r'.xs.length=r.xs.length/\(C12 s id=true\/(r' = r/\Loc.r id ∉ its.map It.loc++dead)):=by
     intro id r' hm hg;rcases hold _ _ hg with ⟨it,hi,e,hf⟩ | ⟨h1,h2,h3⟩
     ·cases it with
      | t d ag sps=>cases e
      | b d sps=>cases e
      | r c' e' k'=>
       injection e with e;subst e
       obtain ⟨o,ho⟩:=hmapped c' e' k' hi;rcases hnone c' o ho with ⟨rfl,hns⟩ | ⟨hnm,_⟩
       ·obtain ⟨xs,e2,_,hf2⟩:=hf;injection e2 with e2;subst e2
        obtain ⟨row,g1,g2,g3⟩:=hf2 c' ho;refine ⟨row,g1,?_,g2.symm,g3.symm,.inl hns⟩;show B3a μ m.ρ c' = m.ρ c';simp only [B3a,ho]
       ·exact absurd (C90 hl hm) (hnm l0 lv0 hg0)
     ·refine ⟨r',h3,?_,rfl,rfl,.inr ⟨rfl,h1⟩⟩;show B3a μ m.ρ id=m.ρ id;cases hc:A29 μ id with
      | none=>simp only [B3a,hc]
      | some o=>exact absurd (hW2 id o hc) h1
    have hix:∀ q i,St.get (V5 its dead s x') (.x q)=some (.x i)->St.get (pre++s) (.x q)=some (.x i):=by
     intro q i hg;rcases B27 hg with ⟨it,hi,e⟩ | ⟨h1,h2⟩
     ·cases it<;>cases e
     ·rw [hbase _ h1];exact h2
    cases l with
    | int k n=>exact hv
    | bool b=>exact hv
    | str x=>exact hv
    | nil=>exact hv
    | fn f=>exact hv
    | anyb=>exact hv
    | chk f e k xs n=>exact LfC.ext hv ⟨hkeep,fun id r' h _=>by (simp [Lf.men] at h),fun b c' h _=>by (simp [Lf.men] at h),fun q i h _=>by (simp [Lf.men] at h)⟩
    | any=>exact hv
    | nilp=>exact hv
    | ext id q off ver p e k zs=>
     refine ⟨hv.1,fun r' i hr' hi'=>?_⟩;obtain ⟨r,g1,g2,g3,g4,g5⟩:=hrow id r' (by simp [Lf.men]) hr';rcases g5 with g5 | ⟨g5,g6⟩
     ·exact (C6s g5 hg0 hl).elim
     ·subst g5;obtain ⟨h0,h5⟩:=hv.2 r' i g1 (hix q i hi');refine ⟨h0,fun hver=>?_⟩;obtain ⟨h1,h2,h3⟩:=h5 hver;refine ⟨h1,h2,?_⟩;have hmv:Moves m.w m1.w m.Z m1.Z [2*id] [2*id]:=A0N (B6u fun a ha e=>g6 (by have:=hact a ha;rwa [show a=id by omega] at this)) [];obtain ⟨v0,e0,h4⟩:=Ow.move (k:=.sl e k) (cs:= [v]) ⟨v,rfl,h3⟩ (hmv.sub (i.toNat::p)) hkeep;injection e0 with e0;subst e0
      exact h4
    | ro e k xs=>exact Ro.keep (k:=.rs e k) hv hkeep
    | rpa n k xs=>exact Ro.keep (k:=.pa n k) hv hkeep
    | mpb b=>exact hv
    | mp es=>
     obtain ⟨b,ents,cl,e,h1,h2,h3⟩:=hv;have h4:=hkeep b h1 (A9.1 h2).1;exact ⟨b,ents,cl,e,h4.2,h4.1.trans h2,h3⟩
    | apt n id=>
     refine ⟨hv.1,fun r' hr'=>?_⟩;obtain ⟨r,g1,g2,g3,g4,_⟩:=hrow id r' (by simp [Lf.men]) hr';obtain ⟨h1,h3⟩:=hv.2 r g1;exact ⟨g4.trans h1,by rw [g2];exact h3⟩
    | own id=>
     refine ⟨hv.1,fun r' hr'=>?_⟩;obtain ⟨r,g1,g2,_⟩:=hrow id r' (by simp [Lf.men]) hr';rw [g2];exact hv.2 r g1
    | vw id lo hi=>
     refine ⟨hv.1,fun r' hr'=>?_⟩;obtain ⟨r,g1,g2,g3,g4,_⟩:=hrow id r' (by simp [Lf.men]) hr';obtain ⟨h1,h2,h3⟩:=hv.2 r g1;exact ⟨h1,g4▸h2,by rw [g2,g3];exact h3⟩
    | sub id q off ver=>
     refine ⟨hv.1,fun r' i hr' hi'=>?_⟩;obtain ⟨r,g1,g2,g3,g4,g5⟩:=hrow id r' (by simp [Lf.men]) hr';rcases g5 with g5 | g5
     ·exact (C6r g5 hg0 hl).elim
     ·obtain ⟨g5,_⟩:=g5;subst g5;rw [g2];exact hv.2 r' i g1 (hix q i hi')
    | ptr b off=>
     refine ⟨hv.1,fun c' hc'=>?_⟩;obtain ⟨c,h1,h2⟩:=hJE.box b c' hc';rw [h2];exact hv.2 c h1
    | clo f b off=>
     obtain ⟨p,e,k1,k2⟩:=hv;refine ⟨p,e,k1,fun c' hc'=>?_⟩;obtain ⟨c,h1,h2⟩:=hJE.box b c' hc';rw [h2];exact k2 c h1
    | ept id q off=>
     refine ⟨hv.1,fun r' i hr' hi'=>?_⟩;obtain ⟨r,g1,g2,g3,g4,_⟩:=hrow id r' (by simp [Lf.men]) hr';obtain ⟨h1,h2,h3⟩:=hv.2 r i g1 (hix q i hi');exact ⟨h1,g4▸h2,by rw [g2,g3];exact h3⟩
    | rpt k y off=>
     exact LfC.ext hv ⟨hkeep,fun id r' h _=>by (simp [Lf.men] at h),fun b c' h _=>by (simp [Lf.men] at h),fun q i h _=>by (simp [Lf.men] at h)⟩
   refine ⟨hr.sz,hr.df.fore (A6b _ _ _),fun d v hg=>?_,fun id r hg=>?_,fun b c hg=>?_,hr.kp.trans hkeep hr.hs,hr.fo.trans (A6b _ _ _) hr.hs,hr.nn,fun id r g1 g2 hg=>?_,fun b c hg=>by
    obtain ⟨c',h1,h2⟩:=hJE.box b c hg;rw [h2];exact hr.gb b c' h1,hr.hs,hr.os,hr.tp,hr.ou⟩
   ·rcases hold _ _ hg with ⟨it,hi,e,hf⟩ | ⟨h1,h2,h3⟩
    ·cases it with
     | b d sps=>cases e
     | r c e k=>cases e
     | t d' ag sps=>
      injection e with e;subst e
      obtain ⟨v',e',hf,u,hu⟩:=hf;injection e' with e';subst e'
      exact hf u hu (hr.tm d' u hu)
    ·exact (hr.tm d v h3).lfs (hL _ _ h2)
   ·rcases hold _ _ hg with ⟨it,hi,e,hf⟩ | ⟨h1,h2,h3⟩
    ·cases it with
     | b d sps=>cases e
     | t d ag sps=>cases e
     | r c e' k=>
      injection e with e;subst e
      obtain ⟨xs,e',hf,_⟩:=hf;injection e' with e';subst e'
      exact hf
    ·have hni:id ∉ B8L μ:=fun hm=>h1 (hact id hm)
     have hmv:=A0N (w:=m.w) (Z:=m.Z) (tg:=tgM μ) (r:=2*id) (B6u fun a0 ha e=>hni (by rw [show id=a0 by omega];exact ha)) [];have hrw:=(hr.rw id r h3).move hmv hkeep;have hρ:B3a μ m.ρ id=m.ρ id:=by
      cases hc:A29 μ id with
      | none=>simp only [B3a,hc]
      | some o=>exact absurd (hW2 id o hc) h1
     show OwL (Ow r.k m.w (L0 (tgM μ) m.Z)) r.e r.k.sz m.w (L0 (tgM μ) m.Z) [2*id] r.xs (B3a μ m.ρ id);rw [hρ];exact hrw
   ·have hcol:∀ c0 cs,All2 (LfC (pre++s) m) c0 cs->BxC (pre++s) m (m.β b) b c0->L0 (tgM μ) m.Z (m.β b).g=some [2*b+1]:=by
     intro c0 cs _ hb;obtain ⟨cs',_,_,h5,h6⟩:=hb;have hlt:(m.β b).g<m.w.heap.size:=(A9.1 h6).1;exact (A0N (w:=m.w) (tg:=tgM μ) (Z:=m.Z) (r:=2*b+1) (B6u fun v _=>by omega) [] (m.β b).g [] h5 hlt).2
    rcases hold _ _ hg with ⟨it,hi,e,hf⟩ | ⟨h1,h2,h3⟩
    ·cases it with
     | t d ag sps=>cases e
     | r c e k=>cases e
     | b d sps=>
      injection e with e;subst e
      obtain ⟨c1,c',e',hc',hf⟩:=hf;injection e' with e';subst e'
      have hb:=hr.bx d c' hc';obtain ⟨cs,h4,h5,h6,h7⟩:=hb;exact ⟨cs,hf cs h4,h5,hcol c' cs h4 ⟨cs,h4,h5,h6,h7⟩,h7⟩
    ·have hb:=hr.bx b c h3;obtain ⟨cs,h4,h5,h6,h7⟩:=hb;exact ⟨cs,All2.imp (fun l hl v hv=>hL _ _ h2 l hl v hv) h4,h5,hcol c cs h4 ⟨cs,h4,h5,h6,h7⟩,h7⟩
   ·cases hc:A29 μ id with
    | some o=>
     rcases hnone id o hc with ⟨rfl,_⟩ | ⟨_,h5⟩
     ·show B3a μ m.ρ id=_;simp only [B3a,hc];rcases hold _ _ hg with ⟨it,hi,e,hf⟩ | ⟨h1,h2,h3⟩
      ·cases it with
       | b d sps=>cases e
       | t d ag sps=>cases e
       | r c e' k=>
        injection e with e;subst e
        obtain ⟨xs,e2,_,hf2⟩:=hf;obtain ⟨row,g1',_⟩:=hf2 c hc;exact hr.gr c row g1 g2 g1'
      ·exact absurd (hW2 id _ hc) h1
     ·omega
    | none=>
     have hid:B3a μ m.ρ id=m.ρ id:=by simp only [B3a,hc]
     rcases hold _ _ hg with ⟨it,hi,e,hf⟩ | ⟨h1,h2,h3⟩
     ·cases it with
      | b d sps=>cases e
      | t d ag sps=>cases e
      | r c e' k=>
       injection e with e;subst e
       obtain ⟨o,ho⟩:=hmapped c e' k hi;rw [hc] at ho;cases ho
     ·exact hid.trans (hr.gr id r g1 g2 h3)
  ·cases h
 ·cases h
theorem Rel.retell{n:Nat}{w0:World}{Z0:Gh}{s:St}{a:Act}{m:Mem}(h:Rel n w0 Z0 s a m){d:Nat}{v:AV}(hv:AVC s m v (a.tmps.getD d undef)) :
  Rel n w0 Z0 ((.t d,some (.t v))::s) a m:=by
 have hsame:∀ l,(∀ d,l≠.t d)->St.get ((.t d,some (.t v))::s) l=s.get l:=fun l hl=>St.get_cons_ne (hl d).symm _ _
 have hE:∀ L,Ext s m ((.t d,some (.t v))::s) m L:=Ext.same hsame;refine ⟨h.sz,h.df,fun i u hi=>?_,fun id r hr=>h.rw id r (by rw [<- hsame _ (by simp)];exact hr),fun b c hc=>?_,h.kp,h.fo,h.nn,fun id r h1 h2 hr=>h.gr id r h1 h2 (by rw [<- hsame _ (by simp)];exact hr),fun b c hc=>h.gb b c (by rw [<- hsame _ (by simp)];exact hc),h.hs,h.os,h.tp,h.ou⟩
 ·by_cases e:i=d
  ·subst e;rw [St.get_cons_same] at hi;injection hi with hi;injection hi with hi
   rw [<- hi];exact hv.ext (hE _)
  ·rw [St.get_cons_ne (by intro hh;injection hh with hh;exact e hh.symm)] at hi;exact (h.tm i u hi).ext (hE _)
 ·obtain ⟨cs,h1,h2,h3,h4⟩:=h.bx b c (by rw [<- hsame _ (by simp)];exact hc);exact ⟨cs,All2.imp (fun l hl b hb=>hb.ext (hE _)) h1,h2,h3,h4⟩
def Lf.fz(id:Nat)(row:Row):Lf->Lf
 | .own i=>match Nat.beq i id with
  | true=>.ro row.e row.k row.xs
  | false=>.own i
 | .vw i lo hi=>match Nat.beq i id with
  | true=>.ro row.e row.k ((row.xs.take hi).drop lo)
  | false=>.vw i lo hi
 | l=>l
def AV.mp(f:Lf->Lf):AV->AV
 | .one l=>.one (f l)
 | .agg ls=>.agg (ls.map f)
 | .tup ps=>.tup (ps.map fun p=>(p.1,p.2.map f))
 | .und=>.und
def LV.mp(f:Lf->Lf):LV->LV
 | .t v=>.t (v.mp f)
 | .b c=>.b (c.map f)
 | l=>l
def Lf.isOwn(id:Nat):Lf->Bool
 | .own i=>Nat.beq i id
 | .vw i _ _=>Nat.beq i id
 | _=>false
def Lf.rowOf(s:St):Lf->Option (Nat×Row)
 | .own i=>match s.getR i with
  | some r=>some (i,r)
  | none=>none
 | .vw i _ _=>match s.getR i with
  | some r=>some (i,r)
  | none=>none
 | _=>none
theorem Lf.rowOf_some{s:St}{l:Lf}{id:Nat}{row:Row}(h:l.rowOf s=some (id,row)):s.getR id=some row:=by
 cases l<;>simp only [Lf.rowOf] at h<;>try (cases h;done)
 all_goals
  split at h
  ·rename_i r e;injection h with h;injection h with h1 h2
   subst h1;subst h2;exact e
  ·cases h
def AV.hasOwn(id:Nat):AV->Bool
 | .one l=>l.isOwn id
 | .agg ls=>ls.any (Lf.isOwn id)
 | .tup ps=>ps.any fun p=>p.2.any (Lf.isOwn id)
 | .und=>false
def roT(id:Nat)(row:Row)(p:Loc×LV):Loc×Option LV:=(p.1,some (p.2.mp (Lf.fz id row)))
def frz(ts:List (Loc×LV))(id:Nat)(row:Row):St:=ts.map (roT id row) ++ [(.r id,none)]
def TB(p:Loc×LV):Prop:=(∃ t v,p=(.t t,.t v))\/∃ b c,p=(.b b,.b c)
theorem TB.ne{p:Loc×LV}(h:TB p)(id:Nat):p.1≠.r id:=by
 rcases h with ⟨t,v,rfl⟩ | ⟨b,c,rfl⟩<;>simp
theorem Rel.retellB{n:Nat}{w0:World}{Z0:Gh}{s:St}{a:Act}{m:Mem}(h:Rel n w0 Z0 s a m){b:Nat}{c c':List Lf}(hc:s.get (.b b)=some (.b c))(hc':∀ cs,m.w.heap[(m.β b).g]? = some (.cells ((m.β b).pre++cs++(m.β b).post).toArray (m.β b).t (0,0))->All2 (LfC s m) c cs->All2 (LfC s m) c' cs) :
  Rel n w0 Z0 ((.b b,some (.b c'))::s) a m/\∀ L,Ext s m ((.b b,some (.b c'))::s) m L:=by
 have hsame:∀ l,l≠.b b->St.get ((.b b,some (.b c'))::s) l=s.get l:=fun l hl=>St.get_cons_ne (R5 hl) _ _
 have hE:∀ L,Ext s m ((.b b,some (.b c'))::s) m L:=fun L=>⟨Keeps.refl _ _,fun id r' _ hr=>⟨r',by rw [<- hsame _ (by simp)];exact hr,rfl,rfl,rfl,C6 _,fun _ _ _ _ hc=>hc,fun _=>Moves.refl _ _ _⟩,
  fun b' c'' _ hb=>by
   by_cases e:b' = b
   ·subst e;exact ⟨c,hc,rfl⟩
   ·exact ⟨c'',by rw [<- hsame _ (by simpa using e)];exact hb,rfl⟩,fun q i _ hi=>by rw [<- hsame _ (by simp)];exact hi⟩
 refine ⟨⟨h.sz,h.df,fun i u hi=>(h.tm i u (by rw [<- hsame _ (by simp)];exact hi)).ext (hE _),fun id r hr=>h.rw id r (by rw [<- hsame _ (by simp)];exact hr),fun b' c'' hb=>?_,h.kp,h.fo,h.nn,fun id r h1 h2 hr=>h.gr id r h1 h2 (by rw [<- hsame _ (by simp)];exact hr),fun b' c'' hb=>?_,h.hs,h.os,h.tp,h.ou⟩,hE⟩
 ·by_cases e:b' = b
  ·subst e;rw [St.get_cons_same] at hb;injection hb with hb;injection hb with hb
   subst hb;obtain ⟨cs,h1,h2,h3,h4⟩:=h.bx _ c hc;exact ⟨cs,All2.imp (fun l hl u hu=>hu.ext (hE _)) (hc' cs h4 h1),h2,h3,h4⟩
  ·obtain ⟨cs,h1,h2,h3,h4⟩:=h.bx b' c'' (by rw [<- hsame _ (by simpa using e)];exact hb);exact ⟨cs,All2.imp (fun l hl u hu=>hu.ext (hE _)) h1,h2,h3,h4⟩
 ·by_cases e:b' = b
  ·subst e;exact h.gb _ c hc
  ·exact h.gb b' c'' (by rw [<- hsame _ (by simpa using e)];exact hb)
theorem C4F{cs ds:List Value}(h:cs.toArray=ds.toArray):cs=ds:=by
 have:=Q9 Array.toList h;simpa using this
theorem All2.mp{s s1:St}{m m1:Mem}{f:Lf->Lf}(hf:∀ l u,LfC s m l u->LfC s1 m1 (f l) u):∀ {ls:List Lf} {cs:List Value},All2 (LfC s m) ls cs->All2 (LfC s1 m1) (ls.map f) cs
 | [],[],_=>trivial
 | _::_,_::_,h=>⟨hf _ _ h.1,All2.mp hf h.2⟩
theorem AVC.mp{s s1:St}{m m1:Mem}{f:Lf->Lf}(hf:∀ l u,LfC s m l u->LfC s1 m1 (f l) u){v:AV}{x:Value}(h:AVC s m v x):AVC s1 m1 (v.mp f) x:=by
 cases v with
 | one l=>exact hf _ _ h
 | agg ls=>
  obtain ⟨cs,rfl,h⟩:=h;exact ⟨cs,rfl,All2.mp hf h⟩
 | tup ps=>
  obtain ⟨vs,rfl,h⟩:=h;refine ⟨vs,rfl,?_⟩
  induction ps generalizing vs with
  | nil=>cases vs with
   | nil=>trivial
   | cons _ _=>exact h.elim
  | cons p ps ih=>
   cases vs with
   | nil=>exact h.elim
   | cons v vs=>
    refine ⟨?_,ih vs h.2⟩;obtain ⟨g,ls⟩:=p;have a0:=h.1;cases g with
    | true=>
     obtain ⟨cs,rfl,a0⟩:=a0;exact ⟨cs,rfl,All2.mp hf a0⟩
    | false=>
     obtain ⟨l,rfl,a0⟩:=a0;exact ⟨_,rfl,hf _ _ a0⟩
 | und=>exact h
def BoxIs(m:Mem)(b:Nat)(cs:List Value):Prop:=m.w.heap[(m.β b).g]? = some (.cells ((m.β b).pre++cs++(m.β b).post).toArray (m.β b).t (0,0))
theorem BoxIs.inj{m:Mem}{b:Nat}{cs ds:List Value}(h:BoxIs m b cs)(h':BoxIs m b ds):cs=ds:=by
 unfold BoxIs at h h';rw [h] at h';injection h' with h'
 injection h' with h'
 have h':=C4F h';exact A3J (List.append_cancel_right h')
theorem B6F{ts:List (Loc×LV)}{id:Nat}{row:Row}{s:St}{l:Loc}(h1:∀ t∈ts,l≠t.1)(h2:l≠.r id):St.get (frz ts id row++s) l=s.get l:=by
 unfold frz
 induction ts with
 | nil=>exact St.get_cons_ne (R5 h2) _ _
 | cons t ts ih=>
  have:=ih (fun t' hm=>h1 t' (B5 _ hm));simp only [G3,C7,roT];rw [St.get_cons_ne (R5 (h1 t A5))];exact this
theorem B0t{ts:List (Loc×LV)}{id:Nat}{row:Row}{s:St}(hT:∀ t∈ts,t.1≠.r id):St.get (frz ts id row++s) (.r id)=none:=by
 unfold frz
 induction ts with
 | nil=>exact St.get_cons_same _ _ _
 | cons t ts ih=>
  simp only [G3,C7,roT];rw [St.get_cons_ne (hT t A5)];exact ih (fun t hm=>hT t (B5 _ hm))
theorem C6v{ts:List (Loc×LV)}{id:Nat}{row:Row}{s:St}{l:Loc}(h:∃ t∈ts,l=t.1):∃ t∈ts,l=t.1/\St.get (frz ts id row++s) l=some (t.2.mp (Lf.fz id row)):=by
 unfold frz
 induction ts with
 | nil=>obtain ⟨t,hm,_⟩:=h;cases hm
 | cons t' ts ih=>
  simp only [G3,C7,roT];by_cases e:l=t'.1
  ·subst e;exact ⟨t',A5,rfl,St.get_cons_same _ _ _⟩
  ·rw [St.get_cons_ne (R5 e)];obtain ⟨t,hm,e2⟩:=h;rcases B4.1 hm with e3 | hm
   ·subst e3;exact absurd e2 e
   ·obtain ⟨t2,hm2,e4,e5⟩:=ih ⟨t,hm,e2⟩;exact ⟨t2,B5 _ hm2,e4,e5⟩
theorem Rel.frz{n:Nat}{w0:World}{Z0:Gh}{s:St}{a:Act}{m:Mem}(h:Rel n w0 Z0 s a m){ts:List (Loc×LV)}{id:Nat}{row:Row}(hT:∀ p∈ts,TB p)(ht:∀ p∈ts,s.get p.1=some p.2)(hr:s.get (.r id)=some (.r row)) :
  ∃ Z',Rel n w0 Z0 (frz ts id row++s) a ⟨m.w,Z',m.ρ,m.β⟩:=by
 refine ⟨L0 [(id,fun _=>none)] m.Z,?_⟩;have h1:=h.drop [(id,fun _=>none)];have hg:∀ l lv,St.get (Ev.frz ts id row++s) l=some lv->St.get ((.r id,none)::s) l=s.get l/\∃ lv0,s.get l=some lv0/\(lv=lv0.mp (Lf.fz id row)\/lv=lv0):=fun l lv e=>by
  have hn:l≠.r id:=fun hl=>by rw [hl,B0t fun t hm=>(hT t hm).ne id] at e;cases e
  refine ⟨St.get_cons_ne (R5 hn) _ _,?_⟩;by_cases hl:∃ t∈ts,l=t.1
  ·obtain ⟨t,hm,e1,e2⟩:=C6v (id:=id) (row:=row) (s:=s) hl;rw [e2] at e;injection e with e
   exact ⟨t.2,e1▸ht t hm,.inl e.symm⟩
  ·rw [B6F (fun t hm e=>hl ⟨t,hm,e⟩) hn] at e;exact ⟨lv,e,.inr rfl⟩
 have hE:∀ L,Ext s m (Ev.frz ts id row++s) ⟨m.w,L0 [(id,fun _=>none)] m.Z,m.ρ,m.β⟩ L:=fun L=>by
  refine ⟨P6 _ _ _,fun i r' _ hr'=>?_,fun b c' _ hc=>?_,fun q i _ hi=>?_⟩
  ·obtain ⟨e0,lv0,e1,e2⟩:=hg _ _ hr';have e3:lv0=.r r':=by cases lv0<;>simp [LV.mp] at e2<;>rw [e2]
   subst e3;refine ⟨r',e1,rfl,rfl,rfl,C6 _,fun _ _ _ _ hc=>hc,fun _=>A0N (A48 fun v hv e=>?_) []⟩;rw [A6.1 hv] at e;have:i=id:=by simp only at e;omega
   rw [this,B0t fun t hm=>(hT t hm).ne id] at hr';cases hr'
  ·obtain ⟨e0,lv0,e1,e2⟩:=hg _ _ hc;cases lv0<;>simp [LV.mp] at e2;exact ⟨_,e1,rfl⟩
  ·obtain ⟨e0,lv0,e1,e2⟩:=hg _ _ hi;have e3:lv0=.x i:=by cases lv0<;>simp [LV.mp] at e2<;>rw [e2]
   rw [e1,e3]
 have hfin:Ro (.rs row.e row.k) m.w (L0 [(id,fun _=>none)] m.Z) row.xs [m.ρ id]:=(h.rw id row hr).toFree (B0m (tg:= [(id,fun _=>none)]) (f:=fun _=>none) (by simp [A0D]) (fun _=>rfl)) (P6 _ _ _);have hf:∀ l u,LfC s m l u->LfC (Ev.frz ts id row++s) ⟨m.w,L0 [(id,fun _=>none)] m.Z,m.ρ,m.β⟩ (l.fz id row) u:=fun l u h0=>by
  cases l with
  | own i=>
   simp only [Lf.fz];cases e:Nat.beq i id with
   | true=>
    rw [A0 e] at h0;show Ro _ _ _ _ [u];rw [h0.2 row hr];exact hfin
   | false=>exact h0.ext (hE _)
  | vw i lo hi=>
   simp only [Lf.fz];cases e:Nat.beq i id with
   | true=>
    rw [A0 e] at h0;obtain ⟨g1,g2,g3⟩:=h0.2 row hr;show Ro _ _ _ _ [u];rw [g3];exact B4S hfin g1 g2
   | false=>exact h0.ext (hE _)
  | _=>exact h0.ext (hE _)
 refine ⟨h1.sz,h1.df,fun d v e=>?_,fun i r e=>?_,fun b c e=>?_,h1.kp,h1.fo,h1.nn,fun i r g1 g2 e=>?_,fun b c e=>?_,h1.hs,h1.os,h1.tp,h1.ou⟩
 ·obtain ⟨_,lv0,e1,e2⟩:=hg _ _ e;cases lv0<;>simp [LV.mp] at e2;rename_i v0;have h2:=h.tm d v0 e1;rcases e2 with rfl | rfl
  ·exact h2.mp hf
  ·exact h2.ext (hE _)
 ·obtain ⟨e0,lv0,e1,e2⟩:=hg _ _ e;have e3:lv0=.r r:=by cases lv0<;>simp [LV.mp] at e2<;>rw [e2]
  exact h1.rw i r (e0.trans (e3▸e1))
 ·obtain ⟨e0,lv0,e1,e2⟩:=hg _ _ e;cases lv0<;>simp [LV.mp] at e2;rename_i c0;obtain ⟨cs,g1,g2,g3,g4⟩:=h1.bx b c0 (e0.trans e1);obtain ⟨ds,k1,_,_,k4⟩:=h.bx b c0 e1;have:cs=ds:=BoxIs.inj (m:=m) g4 k4;subst this;refine ⟨cs,?_,g2,g3,g4⟩;rcases e2 with rfl | rfl
  ·exact k1.mp hf
  ·exact All2.imp (fun l _ u hu=>hu.ext (hE _)) k1
 ·obtain ⟨_,lv0,e1,e2⟩:=hg _ _ e;cases lv0<;>simp [LV.mp] at e2;exact h.gr i _ g1 g2 e1
 ·obtain ⟨_,lv0,e1,e2⟩:=hg _ _ e;cases lv0<;>simp [LV.mp] at e2;exact h.gb b _ e1
def B6v(s:St)(id:Nat):List (Loc×LV):=(s.filterMap fun p=>match p with
 | (.t t,some (.t v))=>match v.hasOwn id with
  | true=>match s.get (.t t) with
   | some (.t v)=>match v.hasOwn id with
    | true=>some (.t t,.t v)
    | false=>none
   | _=>none
  | false=>none
 | (.b b,some (.b c))=>match c.any (Lf.isOwn id) with
  | true=>match s.get (.b b) with
   | some (.b c)=>match c.any (Lf.isOwn id) with
    | true=>some (.b b,.b c)
    | false=>none
   | _=>none
  | false=>none
 | _=>none)
theorem B3c{s:St}{id:Nat}{p:Loc×LV}(h:p∈B6v s id):TB p/\s.get p.1=some p.2:=by
 obtain ⟨q,_,hq⟩:=A0f.1 h;split at hq
 ·split at hq
  ·split at hq
   ·rename_i e;split at hq
    ·injection hq with hq;subst hq;exact ⟨.inl ⟨_,_,rfl⟩,e⟩
    ·cases hq
   ·cases hq
  ·cases hq
 ·split at hq
  ·split at hq
   ·rename_i e;split at hq
    ·injection hq with hq;subst hq;exact ⟨.inr ⟨_,_,rfl⟩,e⟩
    ·cases hq
   ·cases hq
  ·cases hq
 ·cases hq
def B2P:List Sp->List Lf->St->St
 | .ro _ _::sps,l::ls,s=>match l.rowOf s with
  | some (id,row)=>B2P sps ls (frz (B6v s id) id row++s)
  | none=>B2P sps ls s
 | _::sps,_::ls,s=>B2P sps ls s
 | _,_,s=>s
def A3N:List It->St->St
 | [],s=>s
 | .t d _ sps::its,s=>match s.getT d with
  | some (.one l)=>A3N its (B2P sps [l] s)
  | some (.agg ls)=>A3N its (B2P sps ls s)
  | _=>A3N its s
 | .b d sps::its,s=>match s.getB d with
  | some c=>A3N its (B2P sps c s)
  | none=>A3N its s
 | _::its,s=>A3N its s
theorem C91{n:Nat}{w0:World}{Z0:Gh}{a:Act}:∀ {sps:List Sp} {ls:List Lf} {s:St} {m:Mem},Rel n w0 Z0 s a m->s <:+ B2P sps ls s/\∃ Z',Rel n w0 Z0 (B2P sps ls s) a ⟨m.w,Z',m.ρ,m.β⟩:=by
 intro sps
 induction sps with
 | nil=>intro ls s m h;cases ls<;>exact ⟨H7 _,m.Z,h⟩
 | cons sp sps ih=>
  intro ls s m h;cases ls with
  | nil=>cases sp<;>exact ⟨H7 _,m.Z,h⟩
  | cons l ls=>
   cases sp with
   | ro e k=>
    cases hr:l.rowOf s with
    | some p=>
     obtain ⟨id,row⟩:=p;have e:B2P (.ro e k::sps) (l::ls) s=B2P sps ls (frz (B6v s id) id row++s):=by
      simp only [B2P,hr]
     rw [e];obtain ⟨Z',h1⟩:=h.frz (ts:=B6v _ id) (fun p hm=>(B3c hm).1) (fun p hm=>(B3c hm).2) (St.getR_some.1 (Lf.rowOf_some hr));obtain ⟨h2,h3⟩:=ih (ls:=ls) h1;exact ⟨(U6 _ _).trans h2,h3⟩
    | none=>
     have e:B2P (.ro e k::sps) (l::ls) s=B2P sps ls s:=by
      simp only [B2P,hr]
     rw [e];exact ih h
   | _=>cases l<;>exact ih h
theorem C5C{n:Nat}{w0:World}{Z0:Gh}{a:Act}:∀ {its:List It} {s:St} {m:Mem},Rel n w0 Z0 s a m->s <:+ A3N its s/\∃ Z',Rel n w0 Z0 (A3N its s) a ⟨m.w,Z',m.ρ,m.β⟩:=by
 intro its
 induction its with
 | nil=>intro s m h;exact ⟨H7 _,m.Z,h⟩
 | cons it its ih=>
  intro s m h;have both:∀ sps ls,s <:+ A3N its (B2P sps ls s)/\∃ Z',Rel n w0 Z0 (A3N its (B2P sps ls s)) a ⟨m.w,Z',m.ρ,m.β⟩:=fun sps ls=>by
   obtain ⟨h1,Z',h2⟩:=C91 (sps:=sps) (ls:=ls) h;obtain ⟨h3,h4⟩:=ih h2;exact ⟨h1.trans h3,h4⟩
  cases it with
  | t d g sps=>
   unfold A3N;split
   ·exact both _ _
   ·exact both _ _
   ·exact ih h
  | b d sps=>
   unfold A3N;split
   ·exact both _ _
   ·exact ih h
  | r c e k=>
   unfold A3N;exact ih h
def Lf.ct(id:Nat)(l:Lf):Lf:=match l.men.any (Loc.eqb (.r id)) with
 | true=>.any
 | false=>l
def C2q(s:St)(id:Nat)(t:St):St:=t.filterMap fun p=>match s.get p.1 with
 | some lv=>match lv.men.any (Loc.eqb (.r id)) with
  | true=>some (p.1,some (lv.mp (Lf.ct id)))
  | false=>none
 | none=>none
theorem B3d{s u:St}{id:Nat}{l:Loc}{lv:LV}:∀ {t:St},St.get (C2q s id t++u) l=some lv->(∃ lv0,s.get l=some lv0/\lv=lv0.mp (Lf.ct id))\/(u.get l=some lv/\((∃ v,(l,v)∈t)->∀ lv0,s.get l=some lv0->lv0.men.any (Loc.eqb (.r id))=false))
 | [],h=>.inr ⟨h,fun ⟨v,hv⟩=>by cases hv⟩
 | (l',v)::t,h=>by
  simp only [C2q,A62] at h;split at h
  ·rename_i e;rcases B3d (t:=t) h with h | ⟨h1,h2⟩
   ·exact .inl h
   ·refine .inr ⟨h1,fun ⟨w,hw⟩ lv0 hg=>?_⟩;rcases B4.1 hw with e2 | hw
    ·injection e2 with e2;subst e2
     simp only [hg] at e;split at e
     ·cases e
     ·rename_i e3;exact e3
    ·exact h2 ⟨w,hw⟩ lv0 hg
  ·rename_i q e;split at e
   ·rename_i lv1 hg;split at e
    ·injection e with e;subst e
     by_cases e2:l' = l
     ·subst e2;rw [C7,St.get_cons_same] at h;injection h with h
      exact .inl ⟨lv1,hg,h.symm⟩
     ·rw [C7,St.get_cons_ne e2] at h;rcases B3d (t:=t) h with h | ⟨h1,h2⟩
      ·exact .inl h
      ·refine .inr ⟨h1,fun ⟨w,hw⟩=>h2 ⟨w,(B4.1 hw).resolve_left fun e3=>e2 (by injection e3 with e3;exact e3.symm)⟩⟩
    ·cases e
   ·cases e
theorem B9G{s u:St}{id:Nat}{l:Loc}{lv:LV}:∀ {t:St},u.get l=some lv->St.get (C2q s id t++u) l≠none
 | [],h=>by show St.get u l≠none;rw [h];simp
 | (l',v)::t,h=>by
  have ih:=B9G (s:=s) (id:=id) (t:=t) h;simp only [C2q,A62];split
  ·exact ih
  ·rename_i q e;by_cases e2:q.1=l
   ·split at e
    ·split at e
     ·injection e with e;subst e
      simp only at e2;subst e2;rw [C7,St.get_cons_same];simp
     ·cases e
    ·cases e
   ·obtain ⟨q1,q2⟩:=q;rw [C7,St.get_cons_ne e2];exact ih
def cut(s:St)(id:Nat)(row:Row)(hi:Nat):St:=(.r id,some (.r ⟨row.e,row.k,row.xs.take hi,row.ver⟩))::(C2q s id s++s)
theorem Rel.cut{n:Nat}{w0:World}{Z0:Gh}{s:St}{a:Act}{m:Mem}(h:Rel n w0 Z0 s a m){id hi:Nat}{row:Row}(hr:s.get (.r id)=some (.r row))(hh:hi<=row.xs.length)(hid:¬ (1000<=id/\id<4096)) :
  ∃ ρ',Rel n w0 Z0 (cut s id row hi) a ⟨m.w,m.Z,ρ',m.β⟩/\(∀ l u,LfC s m l u->LfC (cut s id row hi) ⟨m.w,m.Z,ρ',m.β⟩ (l.ct id) u)/\∀ u,LfC s m (.vw id 0 hi) u->LfC (cut s id row hi) ⟨m.w,m.Z,ρ',m.β⟩ (.own id) u:=by
 refine ⟨fun i=>if i=id then cutV row.k.sz 0 hi (m.ρ id) else m.ρ i,?_⟩;have hg:∀ {l lv},l≠.r id->(Ev.cut s id row hi).get l=some lv->∃ lv0,s.get l=some lv0/\(lv=lv0.mp (Lf.ct id)\/lv=lv0/\∀ q∈lv0.men,q≠.r id):=fun {l lv} hl e=>by
  rw [show (Ev.cut s id row hi).get l=_ from St.get_cons_ne (R5 hl) _ _] at e;rcases B3d e with ⟨lv0,h1,h2⟩ | ⟨h1,h2⟩
  ·exact ⟨lv0,h1,.inl h2⟩
  ·refine ⟨lv,h1,.inr ⟨rfl,fun q hq e=>?_⟩⟩;have:=h2 ⟨_,get_mem h1⟩ lv h1;rw [Q0] at this;exact this q hq (Loc.eqb_iff.2 e.symm)
 have hrow:∀ {i r},i≠id->(Ev.cut s id row hi).get (.r i)=some (.r r)->s.get (.r i)=some (.r r):=fun hi e=>by
  obtain ⟨lv0,e1,e2⟩:=hg (by simpa using hi) e;rcases e2 with e2 | ⟨e2,_⟩
  ·cases lv0<;>simp [LV.mp] at e2;rw [e1,e2]
  ·rw [e1,e2]
 have hE:Ext s m (Ev.cut s id row hi) ⟨m.w,m.Z,fun i=>if i=id then cutV row.k.sz 0 hi (m.ρ id) else m.ρ i,m.β⟩ (fun l=>l≠.r id):=by
  refine ⟨Keeps.refl _ _,fun i r' hl hr'=>?_,fun b c' _ hc=>?_,fun q i _ hi=>?_⟩
  ·have hi:i≠id:=by simpa using hl
   exact ⟨r',hrow hi hr',D6 hi,rfl,rfl,C6 _,fun _ _ _ _ hc=>hc,fun _=>Moves.refl _ _ _⟩
  ·obtain ⟨lv0,e1,e2⟩:=hg (by simp) hc;cases lv0<;>simp [LV.mp] at e2;exact ⟨_,e1,rfl⟩
  ·obtain ⟨lv0,e1,e2⟩:=hg (by simp) hi;rcases e2 with e2 | ⟨e2,_⟩
   ·cases lv0<;>simp [LV.mp] at e2;rw [e1,e2]
   ·rw [e1,e2]
 have hf:∀ l u,LfC s m l u->LfC (Ev.cut s id row hi) ⟨m.w,m.Z,fun i=>if i=id then cutV row.k.sz 0 hi (m.ρ id) else m.ρ i,m.β⟩ (l.ct id) u:=fun l u h0=>by
  unfold Lf.ct;split
  ·exact h0.one
  ·rename_i hm;refine h0.ext (hE.sub fun q hq e=>?_);subst e;rw [Q0] at hm;exact hm _ hq (Loc.eqb_iff.2 rfl)
 refine ⟨?_,hf,fun u h0=>⟨h0.1,fun r _=>(h0.2 row hr).2.2.trans (G0 rfl).symm⟩⟩;refine ⟨h.sz,h.df,fun d v e=>?_,fun i r e=>?_,fun b c e=>?_,h.kp,h.fo,h.nn,fun i r g1 g2 e=>?_,fun b c e=>?_,h.hs,h.os,h.tp,h.ou⟩
 ·obtain ⟨lv0,e1,e2 | ⟨e2,e3⟩⟩:=hg (by simp) e
  ·cases lv0<;>simp [LV.mp] at e2;subst e2;exact (h.tm d _ e1).mp hf
  ·subst e2;exact (h.tm d _ e1).ext (hE.sub e3)
 ·by_cases hi:i=id
  ·subst hi;rw [show (Ev.cut s i row hi).get (.r i)=_ from St.get_cons_same _ _ _] at e;injection e with e;injection e with e;subst e
   show OwL _ _ _ _ _ _ _ (if i=i then _ else _);rw [G0 rfl];exact B9h (h.rw i row hr) hh
  ·show OwL _ _ _ _ _ _ _ (if i=id then _ else _);rw [D6 hi];exact h.rw i r (hrow hi e)
 ·obtain ⟨lv0,e1,e2 | ⟨e2,e3⟩⟩:=hg (by simp) e
  ·cases lv0<;>simp [LV.mp] at e2;subst e2;obtain ⟨cs,g1,g2,g3,g4⟩:=h.bx b _ e1;exact ⟨cs,g1.mp hf,g2,g3,g4⟩
  ·subst e2;obtain ⟨cs,g1,g2,g3,g4⟩:=h.bx b _ e1;exact ⟨cs,All2.imp (fun l hl u hu=>hu.ext (hE.sub fun q hq=>e3 q (E6.2 ⟨l,hl,hq⟩))) g1,g2,g3,g4⟩
 ·have hi:i≠id:=fun e=>hid (e▸⟨g1,g2⟩)
  show (if i=id then _ else _)=_;rw [D6 hi];exact h.gr i r g1 g2 (hrow hi e)
 ·obtain ⟨lv0,e1,e2⟩:=hg (by simp) e;cases lv0<;>simp [LV.mp] at e2;exact h.gb b _ e1
def B8M:List Sp->List Lf->Option (Nat×Nat)
 | .own _::_,.vw id 0 hi::_=>some (id,hi)
 | _::sps,_::ls=>B8M sps ls
 | _,_=>none
theorem C6w{id hi:Nat}:∀ {sps:List Sp} {ls:List Lf},B8M sps ls=some (id,hi)->Lf.vw id 0 hi∈ls:=by
 intro sps ls h
 induction sps generalizing ls with
 | nil=>simp [B8M] at h
 | cons sp sps ih=>
  cases ls with
  | nil=>simp [B8M] at h
  | cons l ls=>
   unfold B8M at h;split at h
   ·rename_i e1 e2;injection h with h;injection h with h1 h2
    injection e2 with e2
    rw [e2,h1,h2];exact A5
   ·rename_i e1 e2;injection e1 with _ e1;injection e2 with _ e2
    subst e1;subst e2;exact B5 _ (ih h)
   ·cases h
def ctP(id:Nat):List Sp->List Lf->List Lf
 | .own _::_,.vw _ 0 _::ls=>.own id::ls.map (Lf.ct id)
 | _::sps,l::ls=>l.ct id::ctP id sps ls
 | _,ls=>ls.map (Lf.ct id)
theorem D0a{s s1:St}{m m1:Mem}{id hi:Nat}(hf:∀ l u,LfC s m l u->LfC s1 m1 (l.ct id) u)(ho:∀ u,LfC s m (.vw id 0 hi) u->LfC s1 m1 (.own id) u):∀ {sps:List Sp} {ls:List Lf} {cs:List Value},B8M sps ls=some (id,hi)->All2 (LfC s m) ls cs->All2 (LfC s1 m1) (ctP id sps ls) cs:=by
 intro sps
 induction sps with
 | nil=>intro ls cs h;simp [B8M] at h
 | cons sp sps ih=>
  intro ls cs h hl;cases ls with
  | nil=>simp [B8M] at h
  | cons l ls=>
   cases cs with
   | nil=>exact hl.elim
   | cons c cs=>
    unfold B8M at h;unfold ctP;split at h
    ·rename_i e1 e2;injection h with h;injection h with h1 h2
     injection e1 with e1 _;injection e2 with e2 e3
     subst e1;subst e2;subst e3;subst h1;subst h2;exact ⟨ho _ hl.1,hl.2.mp hf⟩
    ·rename_i hn e1 e2;injection e1 with e1 e3;injection e2 with e2 e4
     subst e1;subst e2;subst e3;subst e4;exact ⟨hf _ _ hl.1,ih h hl.2⟩
    ·cases h
def C5D(s:St)(sps:List Sp)(ls:List Lf)(p:Loc)(k:List Lf->LV):St:=match B8M sps ls with
 | some (id,hi)=>match s.getR id,Nat.blt id 1000||Nat.ble 4096 id with
  | some row,true=>(p,some (k (ctP id sps ls)))::cut s id row hi
  | _,_=>s
 | none=>s
def A3O:List It->St->St
 | [],s=>s
 | .t d _ sps::its,s=>match s.getT d with
  | some (.one l)=>A3O its (C5D s sps [l] (.t d) fun ls=>.t (.one (ls.headD .any)))
  | some (.agg ls)=>A3O its (C5D s sps ls (.t d) fun ls=>.t (.agg ls))
  | _=>A3O its s
 | .b d sps::its,s=>match s.getB d with
  | some c=>A3O its (C5D s sps c (.b d) .b)
  | none=>A3O its s
 | _::its,s=>A3O its s
theorem B9q{n:Nat}{w0:World}{Z0:Gh}{s:St}{a:Act}{m:Mem}(h:Rel n w0 Z0 s a m){sps:List Sp}{ls:List Lf}{p:Loc}{k:List Lf->LV}{cs:List Value}(hl:All2 (LfC s m) ls cs)
  (hk:∀ id row hi ρ',Rel n w0 Z0 (cut s id row hi) a ⟨m.w,m.Z,ρ',m.β⟩->(∀ l u,LfC s m l u->LfC (cut s id row hi) ⟨m.w,m.Z,ρ',m.β⟩ (l.ct id) u)->All2 (LfC (cut s id row hi) ⟨m.w,m.Z,ρ',m.β⟩) (ctP id sps ls) cs->Rel n w0 Z0 ((p,some (k (ctP id sps ls)))::cut s id row hi) a ⟨m.w,m.Z,ρ',m.β⟩) :
  s <:+ C5D s sps ls p k/\∃ ρ',Rel n w0 Z0 (C5D s sps ls p k) a ⟨m.w,m.Z,ρ',m.β⟩:=by
 unfold C5D;split
 ·rename_i id hi e;split
  ·rename_i row hr hid;obtain ⟨i,hi'⟩:=List.getElem?_of_mem (C6w e);obtain ⟨u,_,hu⟩:=hl.get hi';have hr:=St.getR_some.1 hr;simp only [I9,L4,Nat.ble_eq] at hid;obtain ⟨ρ',g1,g2,g3⟩:=h.cut hr (hu.2 row hr).2.1 (by omega);exact ⟨⟨_::_::C2q _ _ s,rfl⟩,ρ',hk _ _ _ _ g1 g2 (D0a g2 g3 e hl)⟩
  ·exact ⟨H7 _,_,h⟩
 ·exact ⟨H7 _,_,h⟩
theorem C5E{n:Nat}{w0:World}{Z0:Gh}{a:Act}:∀ {its:List It} {s:St} {m:Mem},Rel n w0 Z0 s a m->s <:+ A3O its s/\∃ ρ',Rel n w0 Z0 (A3O its s) a ⟨m.w,m.Z,ρ',m.β⟩:=by
 intro its
 induction its with
 | nil=>intro s m h;exact ⟨H7 _,_,h⟩
 | cons it its ih=>
  intro s m h;have both:∀ s',(s <:+ s'/\∃ ρ',Rel n w0 Z0 s' a ⟨m.w,m.Z,ρ',m.β⟩)->s <:+ A3O its s'/\∃ ρ',Rel n w0 Z0 (A3O its s') a ⟨m.w,m.Z,ρ',m.β⟩:=fun s' ⟨h1,ρ',h2⟩=>by
   obtain ⟨h3,h4⟩:=ih h2;exact ⟨h1.trans h3,h4⟩
  cases it with
  | t d g sps=>
   unfold A3O;split
   ·rename_i l e;refine both _ (B9q h (cs:= [_]) ⟨h.tm d _ (St.getT_some.1 e),trivial⟩ fun id row hi ρ' g1 g2 g3=>g1.retell ?_);cases e2:ctP id sps [l] with
    | nil=>rw [e2] at g3;exact g3.elim
    | cons l' ls'=>rw [e2] at g3;exact g3.1
   ·rename_i ls e;obtain ⟨cs,hx,hl⟩:=h.tm d _ (St.getT_some.1 e);exact both _ (B9q h hl fun id row hi ρ' g1 g2 g3=>g1.retell ⟨cs,hx,g3⟩)
   ·exact ih h
  | b d sps=>
   unfold A3O;split
   ·rename_i c e;have e:=St.getB_some.1 e;obtain ⟨cs,hl,hx,hy,hz⟩:=h.bx d _ e;refine both _ (B9q h hl fun id row hi ρ' g1 g2 g3=>?_);obtain ⟨c0,e0⟩:∃ c0,St.get (cut s id row hi) (.b d)=some (.b c0):=by
     unfold cut;rw [St.get_cons_ne (by simp)];cases e1:St.get (C2q s id s++s) (.b d) with
     | none=>exact absurd e1 (B9G e)
     | some lv=>
      rcases B3d e1 with ⟨lv0,k1,k2⟩ | ⟨k1,_⟩
      ·rw [e] at k1;injection k1 with k1;subst k1;exact ⟨_,by rw [k2];rfl⟩
      ·rw [e] at k1;injection k1 with k1;subst k1;exact ⟨_,rfl⟩
    exact (g1.retellB e0 fun ds hd _=>by
     have:ds=cs:=BoxIs.inj (m:=m) (b:=d) hd hz;rw [this];exact g3).1
   ·exact ih h
  | r c e k=>
   unfold A3O;exact ih h
def B2a(its:List It)(dead:List Loc)(s s':St):Option (ShT its):=C2p its dead s (A3O its (A3N its s'))
theorem A8s{its:List It}{dead:List Loc}{s s':St}{x:ShT its}(h:B2a its dead s s' = some x)(hs:s <:+ s'){n:Nat}{w0:World}{Z0:Gh}{a:Act}{m:Mem}(hr:Rel n w0 Z0 s' a m) :
  ∃ m1,m1.w=m.w/\Rel n w0 Z0 (V5 its dead s x) a m1:=by
 obtain ⟨h1,Z',h2⟩:=C5C (its:=its) hr;obtain ⟨h4,ρ',h5⟩:=C5E (its:=its) h2;obtain ⟨m1,e,h3⟩:=C5B h ((hs.trans h1).trans h4) h5;exact ⟨m1,e,h3⟩
theorem Rel.reAl{n:Nat}{w0:World}{Z0:Gh}{s:St}{a:Act}{m:Mem}(h:Rel n w0 Z0 s a m){al:List (Nat×Obj)}(hd:DfOk w0 al a.defers m.w m.Z):Rel n w0 {Z0 with al:=al} s a m:=
 ⟨h.sz,hd,h.tm,h.rw,h.bx,h.kp,h.fo,h.nn,h.gr,h.gb,h.hs,h.os,h.tp,h.ou⟩
theorem C70{k:K}{e:Nat}{w:World}{Z:Col}{p:H9}{xs:List k.T}{v:Value}(h:OwL (Ow k w Z) e k.sz w Z p xs v)(hx:0<xs.length):(A0R v).block<w.heap.size/\Z (A0R v).block=some p:=by
 obtain ⟨inner,ho,hc,_⟩:=h;rcases ho.2 with ⟨rfl,hn⟩ | ⟨g,cap,cur,fz,rfl,hg,hh,r⟩
 ·exact absurd hn (by first | omega | (intro e;simp_all))
 ·exact ⟨A1P ho rfl,hc g rfl⟩
theorem Rel.alien{n:Nat}{w0:World}{Z0:Gh}{s:St}{a:Act}{m:Mem}(h:Rel n w0 Z0 s a m){w':World}{Z':Col}{ds:List Deferred}
  (hsame:∀ b,m.Z b≠some []->b<m.w.heap.size->w'.heap[b]? = m.w.heap[b]?/\Z' b=m.Z b) (hfo:Fore w0 w' Z0.Z Z') (hs:m.w.heap.size<=w'.heap.size)
  (hos:w'.os=m.w.os) (htp:w'.tape=m.w.tape) (hou:w'.output=m.w.output) (hdf:DfOk w0 Z0.al ds w' Z'):Rel n w0 Z0 s {a with defers:=ds} ⟨w',Z',m.ρ,m.β⟩:=by
 have hk:Keeps m.w w' m.Z Z':=fun b hb hlt=>by
  obtain ⟨h1,h2⟩:=hsame b (by rw [hb];intro e;cases e) hlt;exact ⟨h1,h2.trans hb⟩
 have hm:∀ (r:Nat) (q:H9),Moves m.w w' m.Z Z' (r::q) (r::q):=fun r q b q' hb hlt=>by
  obtain ⟨h1,h2⟩:=hsame b (by rw [hb];intro e;cases e) hlt;exact ⟨h1,h2.trans hb⟩
 have hE:∀ L,Ext s m s ⟨w',Z',m.ρ,m.β⟩ L:=fun L=>
  ⟨hk,fun id r' _ hr=>⟨r',hr,rfl,rfl,rfl,C6 _,fun _ hx j v hc=>by
    obtain ⟨g1,g2⟩:=C70 (h.rw id r' hr) hx;have g3:=(hsame _ (by rw [g2];intro e;cases e) g1).1;exact (I6 (by rw [add_block];exact g3)).trans hc,fun _=>hm _ _⟩,fun b c' _ hc=>⟨c',hc,rfl⟩,fun q i _ hi=>hi⟩
 refine ⟨h.sz,hdf,fun d v hg=>(h.tm d v hg).ext (hE _),fun id r hr=>OwL.move (h.rw id r hr) (hm _ _) hk,fun b c hb=>?_,h.kp.trans hk h.hs,hfo,h.nn,h.gr,h.gb,A00 h.hs hs,hos.trans h.os,htp.trans h.tp,hou.trans h.ou⟩;obtain ⟨cs,h1,h2,h3,h4⟩:=h.bx b c hb;obtain ⟨g1,g2⟩:=hsame _ (by rw [h3];intro e;cases e) (A9.1 h4).1;exact ⟨cs,All2.imp (fun l hl b hb=>hb.ext (hE _)) h1,h2,g2.trans h3,g1.trans h4⟩
theorem C71{D D':Nat}(h:B6R D=B6R D'):D=D':=by
 unfold B6R at h;injection h with h1 h2
 injection h1
theorem Rel.turn{n:Nat}{w0:World}{Z0:Gh}{s:St}{a:Act}{m:Mem}(h:Rel n w0 Z0 s a m){l:Nat}{o':Obj}{ds:List Deferred}(hl:m.Z l=some [])(h0:w0.heap.size<=l)
  (hdf:DfOk w0 Z0.al ds (m.w.putObj l o') m.Z):Rel n w0 Z0 s {a with defers:=ds} ⟨m.w.putObj l o',m.Z,m.ρ,m.β⟩:=
 h.alien (fun b hb hlt=>⟨I3 (fun e=>hb (by rw [e];exact hl)),rfl⟩)
  (fun b hb hlt=>by
   obtain ⟨g1,g2⟩:=h.fo b hb hlt;exact ⟨(I3 (by omega)).trans g1,g2⟩) (by simp) rfl rfl rfl hdf
def C4G(o:Oper):Bool:=match o.op with
 | .defer _=>false
 | _=>true
theorem C72{o:Oper}(h:C4G o=true):∀ c,o.op≠.defer c:=fun c e=>by simp [C4G,e] at h
theorem C92{P:Program}{r N:Nat}{o:Oper}{a:Act}{K K':Act->World->Prop}{Q Q':Exit->Act->World->Prop}{x:Result Next}
  (hK:∀ a1 w1 v ds,a1=({a with defers:=ds}:Act).put o.dst v->K a1 w1->K' a1 w1) (hQ:∀ e a1 w1,e≠.normal->Q e a1 w1->Q' e a1 w1) (ho:∀ a1 w1,¬ Q .outgrown a1 w1)
  (h:o.upon P a K Q x):o.uponIn (Fence.wide.inRound r) N P a K' Q' x:=by
 have hl:¬ LetsOut Q:=fun ⟨a1,w1,h1⟩=>ho a1 w1 h1
 cases x with
 | ok nx w1=>
  cases nx with
  | value v=>exact hK _ _ v a.defers rfl h
  | skip=>exact hK _ _ undef a.defers rfl h
  | «defer» d=>exact hK _ _ undef (d::a.defers) rfl h
  | enter f args=>
   refine ⟨fun hd=>by simp [Fence.wide] at hd,CallsIn.inRound r ((B0R.2 h).mono ?_)⟩;intro e w2 he;cases e with
   | returned v=>exact hK _ _ v a.defers rfl he
   | panicked ch=>exact hQ _ _ _ (by simp) he
   | outgrown=>exact absurd he hl
  | row row args=>
   refine ⟨fun hd=>by simp [Fence.wide] at hd,fun c cs hr=>?_⟩;obtain ⟨v,w2,h1,h2⟩:=h c cs;exact ⟨v,w2,hK _ _ v a.defers rfl h1,stepsIn_wide.2 h2⟩
  | _=>exact h.elim
 | halt st w1=>
  cases st with
  | panic v=>exact hQ _ _ _ (by simp) h
  | _=>exact h.elim
def SameD(D:List Nat)(a a':Act):Prop:=a'.tmps.size=a.tmps.size/\∀ d,d ∉ D->a'.tmps.getD d undef=a.tmps.getD d undef
theorem SameD.refl(D:List Nat)(a:Act):SameD D a a:=⟨rfl,fun _ _=>rfl⟩
theorem SameD.trans{D D':List Nat}{a b c:Act}(h:SameD D a b)(h':SameD D' b c):SameD (D++D') a c:=
 ⟨h'.1.trans h.1,fun d hd=>(h'.2 d fun h=>hd (D3 _ h)).trans (h.2 d fun h=>hd (E2 _ h))⟩
theorem SameD.put{D:List Nat}{a:Act}{o:Option Nat}(ho:∀ d,o=some d->d∈D)(v:Value)(ds:List Deferred):SameD D a (({a with defers:=ds}:Act).put o v):=by
 cases o with
 | none=>exact ⟨rfl,fun _ _=>rfl⟩
 | some i=>
  refine ⟨by simp [Act.put],fun d hd=>?_⟩;have hne:i≠d:=fun e=>hd (e▸ho i rfl)
  simp only [Act.put,I4,A5v,D6 hne]
def dstsOf(ops:Array Oper):List Nat:=ops.toList.filterMap (·.dst)
theorem B9r{P:Program}{r N:Nat}{ops:Array Oper}(hnd:ops.toList.all C4G=true){Q:Exit->Act->World->Prop}(hq:∀ a w,¬ Q .outgrown a w):∀ (l:List Nat) (a0 a:Act) (w:World),SameD (dstsOf ops) a0 a->wpOps P ops Q l a w->
  wpOpsIn (Fence.wide.inRound r) N P ops (fun e a' w'=>Q e a' w'/\(e=.normal->SameD (dstsOf ops) a0 a')) l a w
 | [],a0,a,w,hs,h=>⟨h,fun _=>hs⟩
 | i::l,a0,a,w,hs,h=>by
  have hl:¬ LetsOut Q:=fun ⟨a1,w1,h1⟩=>hq a1 w1 h1
  rw [B3R] at h;simp only [wpOp] at h;simp only [wpOpsIn];cases ho:ops[i]? with
  | none=>rw [ho] at h;exact B9r hnd hq l a0 a w hs h
  | some o=>
   rw [ho] at h;simp only at h ⊢;have hmem:o∈ops.toList:=by
    have:=J1 (xs:=ops) (i:=i);exact I7 (by rw [this];exact ho)
   have hdst:∀ d,o.dst=some d->d∈dstsOf ops:=fun d hd=>A0f.2 ⟨o,hmem,hd⟩
   have hstep:∀ v ds,SameD (dstsOf ops) a0 (({a with defers:=ds}:Act).put o.dst v):=fun v ds=>by
    have h2:=SameD.put (a:=a) hdst v ds;exact ⟨h2.1.trans hs.1,fun d hd=>(h2.2 d hd).trans (hs.2 d hd)⟩
   split at h
   ·rename_i hw;rw [G0 hw];rcases h with h | h
    ·refine ⟨fun _ _=>trivial,?_⟩;rw [Fence.inRound_round,Oper.semAt_some r _ _ (C72 (C8.1 hnd o hmem))];refine C92 (K:=wpOps P ops Q l) (fun a1 w1 v ds e h1=>?_) (fun e a1 w1 hne h1=>⟨h1,fun e=>absurd e hne⟩) hq h;exact B9r hnd hq l a0 a1 w1 (by rw [e];exact hstep v ds) h1
    ·exact absurd h.2 hl
   ·rename_i hw;rw [D6 hw];exact ⟨fun _ _=>trivial,B9r hnd hq l a0 _ w (hstep undef a.defers) h⟩
theorem SameD.mono{D D':List Nat}{a a':Act}(h:SameD D a a')(hs:∀ d,d∈D->d∈D'):SameD D' a a':=⟨h.1,fun d hd=>h.2 d fun hm=>hd (hs d hm)⟩
def wrR:Code->Option (List Nat)
 | .skip=>some []
 | .region _ ops false=>match ops.toList.all C4G with
  | true=>some (dstsOf ops)
  | false=>none
 | .seq x y=>match wrR x,wrR y with
  | some a,some b=>some (a++b)
  | _,_=>none
 | .block _ x=>wrR x
 | .cond _ x y=>match wrR x,wrR y with
  | some a,some b=>some (a++b)
  | _,_=>none
 | _=>none
def evR(E:A79){R:Type}(n:Nat):Code->St->(St->Option R)->Option R
 | .skip,s,k=>k s
 | .region _ ops false,s,k=>B0s E n ops ops.toList s k
 | .seq x y,s,k=>evR E n x s fun s'=>evR E n y s' k
 | .block _ x,s,k=>evR E n x s k
 | .cond c x y,s,k=>match L1 s c with
  | some (.one (.bool t),_)=>bif t then evR E n x s k else evR E n y s k
  | _=>none
 | _,_,_=>none
theorem C73{P:Program}{E:A79}(hE:A49 P E){R:Type}{n r N:Nat}:∀ (c:Code) {D:List Nat} {s:St} {k:St->Option R} {z:R},wrR c=some D->evR E n c s k=some z->
  ∃ s',k s' = some z/\s <:+ s'/\∀ w0 Z0 a m,Rel n w0 Z0 s a m->c.wpIn (Fence.wide.inRound r) N P (fun e a' w'=>e=.normal/\SameD D a a'/\∃ m',m'.w=w'/\Rel n w0 Z0 s' a' m') a m.w:=by
 intro c
 induction c with
 | skip=>
  intro D s k z hD h;exact ⟨s,h,H7 _,fun w0 Z0 a m hr=>wpIn_skip ⟨rfl,SameD.refl _ _,m,rfl,hr⟩⟩
 | region id ops d=>
  intro D s k z hD h;cases d with
  | true=>simp [wrR] at hD
  | false=>
   simp only [wrR] at hD;split at hD
   ·rename_i hnd;injection hD with hD;subst hD
    obtain ⟨s',h1,h2,h3⟩:=B4a hE (i:=0) (fun j o hj=>by rw [D9,<- J1];exact hj) h;refine ⟨s',h1,h2,fun w0 Z0 a m hr=>?_⟩;have h4:=h3 w0 Z0 a m hr (fun e a' w'=>e=.normal/\∃ m',m'.w=w'/\Rel n w0 Z0 s' a' m') fun a' m' hr'=>⟨rfl,m',rfl,hr'⟩
    rw [D4,<- B1s] at h4;refine A4e (wpIn_region (B9r hnd (fun a w h=>by cases h.1) _ a a m.w (SameD.refl _ _) h4)) ?_;rintro e a' w' ⟨⟨rfl,m',e',hr'⟩,hs⟩;exact ⟨rfl,hs rfl,m',e',hr'⟩
   ·cases hD
 | seq x y ihx ihy=>
  intro D s k z hD h;simp only [wrR] at hD;split at hD
  ·rename_i A B eA eB;injection hD with hD;subst hD
   simp only [evR] at h;obtain ⟨s1,h1,g1,f1⟩:=ihx eA h;obtain ⟨s2,h2,g2,f2⟩:=ihy eB h1;refine ⟨s2,h2,g1.trans g2,fun w0 Z0 a m hr=>wpIn_seq (A4e (f1 w0 Z0 a m hr) ?_)⟩;rintro e a1 w1 ⟨rfl,hs1,m1,rfl,hr1⟩;refine A4e (f2 w0 Z0 a1 m1 hr1) ?_;rintro e a2 w2 ⟨rfl,hs2,m2,rfl,hr2⟩;exact ⟨rfl,hs1.trans hs2,m2,rfl,hr2⟩
  ·cases hD
 | block id x ih=>
  intro D s k z hD h;simp only [wrR] at hD;simp only [evR] at h;obtain ⟨s1,h1,g1,f1⟩:=ih hD h;refine ⟨s1,h1,g1,fun w0 Z0 a m hr=>wpIn_block (A4e (f1 w0 Z0 a m hr) ?_)⟩;rintro e a1 w1 ⟨rfl,hs1,m1,rfl,hr1⟩;exact ⟨rfl,hs1,m1,rfl,hr1⟩
 | cond c x y ihx ihy=>
  intro D s k z hD h;simp only [wrR] at hD;split at hD
  ·rename_i A B eA eB;injection hD with hD;subst hD
   simp only [evR] at h;split at h
   ·rename_i t rd hc;cases t with
    | true=>
     obtain ⟨s1,h1,g1,f1⟩:=ihx eA h;refine ⟨s1,h1,g1,fun w0 Z0 a m hr=>wpIn_cond_true ?_ (A4e (f1 w0 Z0 a m hr) ?_)⟩
     ·exact D8 hc hr (B9 hc)
     ·rintro e a1 w1 ⟨rfl,hs1,m1,rfl,hr1⟩;exact ⟨rfl,hs1.mono fun d hd=>E2 _ hd,m1,rfl,hr1⟩
    | false=>
     obtain ⟨s1,h1,g1,f1⟩:=ihy eB h;refine ⟨s1,h1,g1,fun w0 Z0 a m hr=>wpIn_cond_false ?_ (A4e (f1 w0 Z0 a m hr) ?_)⟩
     ·exact D8 hc hr (B9 hc)
     ·rintro e a1 w1 ⟨rfl,hs1,m1,rfl,hr1⟩;exact ⟨rfl,hs1.mono fun d hd=>D3 _ hd,m1,rfl,hr1⟩
   ·cases h
  ·cases hD
 | _=>intro D s k z hD h;simp [wrR] at hD
def B0U{X Y:Type}(G:X->Y->Option Y):List X->Y->Option Y
 | [],y=>some y
 | x::xs,y=>match G x y with
  | some y'=>B0U G xs y'
  | none=>none
def Q6{α:Type}(n:Nat)(xs:List α)(i:Nat):List α:=(xs.take (i*n+n)).drop (i*n)
def pieces{α:Type}(n:Nat)(xs:List α):List (List α):=(List.range ((xs.length+n-1) / n)).map (Q6 n xs)
theorem C93{e:Nat}{U:IntKind}{w:World}{Z:Col}{xs:List Int}{v:Value}(h:Ro (.rs e (.int U)) w Z xs [v]){lo hi:Nat}(h1:lo<hi)(h2:hi<=xs.length) :
  Ro (.rs e (.int U)) w Z ((xs.take hi).drop lo) [C0m lo hi v]:=by
 have h3:=B4S (k:=.int U) h (A3t h1) h2;obtain ⟨A,c,e1,hl,hm,hc⟩:=h;injection e1 with e1 _
 subst e1;have hlen:((xs.take hi).drop lo).length=hi-lo:=by rw [C5,B2];omega
 obtain ⟨A2,c2,e2,hl2,hm2,hc2⟩:=h3;simp only [cutV,D6 (show ¬ c=lo by omega),K.sz,A0P] at e2;injection e2 with e2 _
 injection e2 with e2 e3 e4
 refine ⟨A2,hi-lo,by rw [hlen,<- e2];rfl,by rw [hlen];exact C6 _,by omega,hc2⟩
def C94(l:Loc):Bool:=match l with
 | .t _=>false
 | _=>true
theorem C2r{dead:List Loc}{rest:St}{l:Loc}(h:B2O dead l=false):St.get (A37 dead++rest) l=St.get rest l:=by
 induction dead with
 | nil=>rfl
 | cons d dead ih=>
  simp only [B2O,A0t,A5f] at h;simp only [A37,G3,C7];rw [St.get_cons_ne (Loc.eqb_false.1 h.1)];exact ih h.2
theorem C74{its:List It}{dead:List Loc}{s:St}{x:ShT its}(hits:its.all (fun it=>C94 it.loc)=true){t:Nat}(hd:B2O dead (.t t)=false):St.get (V5 its dead s x) (.t t)=s.get (.t t):=by
 have hl:∀ it∈its,it.loc≠.t t:=fun it hi e=>by
  have:=C8.1 hits it hi;rw [e] at this;cases this
 unfold V5;rw [A0T (B3b hl),C2r hd]
theorem C5F{its:List It}{dead:List Loc}{s:St}{x:ShT its}(hits:its.all (fun it=>C94 it.loc)=true){t:Nat}{lv:LV}(hg:St.get (V5 its dead s x) (.t t)=some lv):B2O dead (.t t)=false:=by
 rcases B27 hg with ⟨it,hi,e⟩ | ⟨h,_⟩
 ·have:=C8.1 hits it hi;rw [e] at this;cases this
 ·cases hb:B2O dead (.t t) with
  | false=>rfl
  | true=>exact absurd (D3 _ (B6E hb)) h
theorem Rel.act{n:Nat}{w0:World}{Z0:Gh}{s:St}{a a':Act}{m:Mem}(h:Rel n w0 Z0 s a m)(hsz:a'.tmps.size=n)(hdf:DfOk w0 Z0.al a'.defers m.w m.Z)
  (ht:∀ d v,s.get (.t d)=some (.t v)->a'.tmps.getD d undef=a.tmps.getD d undef):Rel n w0 Z0 s a' m:=
 ⟨hsz,hdf,fun d v hg=>by rw [ht d v hg];exact h.tm d v hg,h.rw,h.bx,h.kp,h.fo,h.nn,h.gr,h.gb,h.hs,h.os,h.tp,h.ou⟩
def mks(ds:List Deferred):List (Nat×Obj):=ds.map fun d=>(match d.target with
 | .collected D=>D
 | _=>0,.deferred (some []))
def al1(D:Nat)(o:Obj)(ds:List Deferred)(al:List (Nat×Obj)):List (Nat×Obj):=(D,.deferred (some []))::(D+1,o)::(mks ds++al)
theorem D0b{w0:World}{al:List (Nat×Obj)}{ds:List Deferred}{w:World}{Z:Col}(h:DfOk w0 al ds w Z):∀ p∈mks ds++al,w0.heap.size<=p.1/\Z p.1=some []/\w.heap[p.1]? = some p.2:=by
 intro p hp;rcases C9.1 hp with hp | hp
 ·obtain ⟨d,hd,rfl⟩:=D0.1 hp;obtain ⟨D,rfl,h1,h2,h3⟩:=h.1.2 d hd;exact ⟨h1,h2,h3⟩
 ·exact h.2 p hp
theorem D01{n:Nat}{w0:World}{Z0:Gh}{s:St}{a:Act}{m:Mem}{D:Nat}{r r':Loop}{ds0:List Deferred}{al0:List (Nat×Obj)}(h:Rel n w0 {Z0 with al:=al1 D (.loop r) ds0 al0} s a m)(hD:∀ p∈mks ds0++al0,p.1<D) :
  Rel n w0 {Z0 with al:=al1 D (.loop r') ds0 al0} s a ⟨m.w.putObj (D+1) (.loop r'),m.Z,m.ρ,m.β⟩:=by
 have hA:=h.df.2;obtain ⟨l0,l1,l2⟩:=hA (D+1,.loop r) (by simp [al1]);have hds:a.defers.Nodup/\∀ d∈a.defers,∃ D',d=B6R D'/\w0.heap.size<=D'/\m.Z D' = some []/\(m.w.putObj (D+1) (.loop r')).heap[D']? = some (.deferred (some [])):=
  ⟨h.df.1.1,fun d hd=>by
   obtain ⟨D',e,g1,g2,g3⟩:=h.df.1.2 d hd;refine ⟨D',e,g1,g2,(I3 fun e=>?_).trans g3⟩;rw [e] at g3;rw [g3] at l2;injection l2 with l2;cases l2⟩
 have h0:Rel n w0 {Z0 with al:= []} s a m:=h.reAl (al:= []) ⟨h.df.1,fun p hp=>by cases hp⟩;have h1:=h0.turn (l:=D+1) (o':=.loop r') (ds:=a.defers) l1 l0 ⟨hds,fun p hp=>by cases hp⟩;refine Rel.reAl (Z0:={Z0 with al:= []}) h1 ⟨hds,fun p hp=>?_⟩;simp only [al1,B4] at hp;rcases hp with rfl | rfl | hp
 ·obtain ⟨g0,g1,g2⟩:=hA (D,.deferred (some [])) (by simp [al1]);exact ⟨g0,g1,(I3 (by simp)).trans g2⟩
 ·exact ⟨l0,l1,World.putObj_heap_same (A9.1 l2).1⟩
 ·obtain ⟨g0,g1,g2⟩:=hA p (by simp only [al1,B4];exact .inr (.inr hp));have:=hD p hp;exact ⟨g0,g1,(I3 (by omega)).trans g2⟩
theorem C75{P:Program}{E:A79}(hE:A49 P E){n f e:Nat}{xs:List Int}{n0:Int}(hit:B64 P f){its:List It}{dead:List Loc}{s:St}{t q:Nat}{assign body:Code}{D1 D2:List Nat}
  (h1:wrR assign=some D1) (h2:wrR body=some D2) (ht:s.getT t=some (.one (.chk f e (.int .u8) xs n0))) (hn0:0<n0/\n0<=1048576) (hxs:xs.length<=1152921504606846976) (hq:q<n) (hits:its.all (fun it=>C94 it.loc)=true)
  (hdead:(q::(D1++D2)).all (fun d=>B2O dead (.t d))=true) (htd:B2O dead (.t t)=false) {x0 y:ShT its} (hj:B2a its dead s s=some x0)
  (hf:B0U (fun piece x=>evR E n assign ((.t q,some (.t (.one (.ro e (.int .u8) piece))))::V5 its dead s x) fun s1=>evR E n body s1 fun s2=>B2a its dead s s2) (pieces n0.toNat xs) x0=some y)
  {w0:World} {Z0:Gh} {a:Act} {m:Mem} (hr:Rel n w0 Z0 s a m) {Q:Exit->Act->World->Prop} (hQ:∀ a' m',Rel n w0 Z0 (V5 its dead s y) a' m'->Q .normal a' m'.w) :
  (Code.rangeFunc (.tmp t) #[q] assign body).wp P Q a m.w:=by
 obtain ⟨m0,em0,hr0⟩:=A8s hj (H7 _) hr;rw [<- em0]
 clear hr em0 m
 have htg:∀ x,St.get (V5 its dead s x) (.t t)=some (.t (.one (.chk f e (.int .u8) xs n0))):=fun x=>by rw [C74 hits htd];exact St.getT_some.1 ht
 obtain ⟨b1,b2,v1,ev,_⟩:=hr0.tm t _ (htg x0);have hsz0:=hr0.sz;generalize hG:(fun (piece:List Int) (x:ShT its)=>evR E n assign ((.t q,some (.t (.one (.ro e (.int .u8) piece))))::V5 its dead s x) fun s1=>evR E n body s1 fun s2=>B2a its dead s s2)=G at hf;refine (wpIn_wide (n:=3)).1 (wpIn_rangeFunc fun fn _=>?_);obtain ⟨D,hD⟩:∃ D,D=m0.w.heap.size:=⟨_,rfl⟩
 let rc:LoopState->Loop:=fun st=>{state:=st,pending:=none,fn,tmps:=a.tmps,params:=#[q],assign,body,defers:=D}
 obtain ⟨W1,hW1⟩:∃ W,W=(m0.w.alloc (.deferred (some []))).alloc (.loop (rc .ready)):=⟨_,rfl⟩;have sW1:W1.heap.size=D+2:=by rw [hW1];simp [<- hD]
 have oW1:∀ b,b<D->W1.heap[b]? = m0.w.heap[b]?:=fun b hb=>by
  rw [hW1,alloc_old _ _ _ (by simp;omega),alloc_old _ _ _ (by omega)]
 have dW1:W1.heap[D]? = some (.deferred (some [])):=by
  rw [hW1,alloc_old _ _ _ (by simp [<- hD]),hD];exact A1N _ _
 have lW1:W1.heap[D+1]? = some (.loop (rc .ready)):=by
  have:=A1N (m0.w.alloc (.deferred (some []))) (.loop (rc .ready));rw [World.size_alloc,<- hD,<- hW1] at this;exact this
 let Z1:Col:=upd (upd m0.Z D (some [])) (D+1) (some [])
 have cD:Z1 D=some []:=by simp only [Z1];rw [upd_ne _ (by omega),upd_same]
 have cl:Z1 (D+1)=some []:=by simp only [Z1];rw [upd_same]
 have co:∀ b,b<D->Z1 b=m0.Z b:=fun b hb=>by simp only [Z1];rw [upd_ne _ (by omega),upd_ne _ (by omega)]
 have hw0:w0.heap.size<=D:=by rw [hD];exact hr0.hs
 have hmk:=D0b hr0.df;have hmk1:∀ p∈mks a.defers++Z0.al,p.1<D/\w0.heap.size<=p.1/\Z1 p.1=some []/\W1.heap[p.1]? = some p.2:=fun p hp=>by
  obtain ⟨g1,g2,g3⟩:=hmk p hp;have hlt:p.1<D:=by rw [hD];exact (A9.1 g3).1
  exact ⟨hlt,g1,(co _ hlt).trans g2,(oW1 _ hlt).trans g3⟩
 let gh:LoopState->Gh:=fun st=>{Z0 with al:=al1 D (.loop (rc st)) a.defers Z0.al}
 have hst:Rel n w0 (gh .ready) (V5 its dead s x0) ⟨a.tmps,[]⟩ ⟨W1,Z1,m0.ρ,m0.β⟩:=by
  refine Rel.reAl (hr0.alien (ds:= []) (fun b hb hlt=>⟨oW1 b (by omega),co b (by omega)⟩) (fun b hb hlt=>?_) (by omega) (by rw [hW1];rfl) (by rw [hW1];rfl) (by rw [hW1];rfl) ⟨⟨A3p,fun d hd=>by cases hd⟩,fun p hp=>(hmk1 p (D3 _ hp)).2⟩) ⟨⟨A3p,fun d hd=>by cases hd⟩,fun p hp=>?_⟩
  ·obtain ⟨g1,g2⟩:=hr0.fo b hb hlt;exact ⟨(oW1 b (by omega)).trans g1,(co b (by omega)).trans g2⟩
  ·simp only [gh,al1,B4] at hp;rcases hp with rfl | rfl | hp
   ·exact ⟨hw0,cD,dW1⟩
   ·exact ⟨by show w0.heap.size<=D+1;omega,cl,lW1⟩
   ·exact (hmk1 p hp).2
 have hmkD:∀ p∈mks a.defers++Z0.al,p.1<D:=fun p hp=>(hmk1 p hp).1
 refine ⟨D+1,[B6R D],W1,{target:=.fn (.func f) #[.pointer (some ⟨b1,0,none⟩),.pointer (some ⟨b2,0,none⟩)],args:=#[.func (.yield (D+1)) #[] #[]]},W1,f,
  #[.func (.yield (D+1)) #[] #[]]++#[.pointer (some ⟨b1,0,none⟩),.pointer (some ⟨b2,0,none⟩)],W1,?_,?_,fun _ _=>trivial,?_,fun hd=>by simp [Fence.wide] at hd,?_⟩
 ·rw [hW1];have:=run_enterLoop_outer (P:=P) (w:=m0.w) fn a.tmps #[q] assign body;rw [<- hD] at this;exact this
 ·have hev:a.eval (.tmp t)=.func (.func f) #[] #[.pointer (some ⟨b1,0,none⟩),.pointer (some ⟨b2,0,none⟩)]:=ev;simp only [resolve,hev];simp [go_sem]
 ·simp [invoke,go_sem,hit.1]
 let J:Nat->World->Prop:=fun i W=>∃ x,B0U G ((pieces n0.toNat xs).drop i) x=some y/\∃ m',m'.w=W/\Rel n w0 (gh .ready) (V5 its dead s x) ⟨a.tmps,[]⟩ m'
 have hlen:(pieces n0.toNat xs).length=(xs.length+n0.toNat-1) / n0.toNat:=by simp [pieces]
 have hchk:∀ x m',Rel n w0 (gh .ready) (V5 its dead s x) ⟨a.tmps,[]⟩ m'->∃ v1,m'.w.cell? ⟨b1,0,none⟩=some v1/\m'.w.cell? ⟨b2,0,none⟩=some (.int .i64 n0)/\Ro (.rs e (.int .u8)) m'.w m'.Z xs [v1]:=fun x m' hr'=>by
  obtain ⟨c1,c2,v1',ev',_,_,g1,g2,g3⟩:=hr'.tm t _ (htg x);have e3:Value.func (.func f) #[] #[.pointer (some ⟨b1,0,none⟩),.pointer (some ⟨b2,0,none⟩)]=Value.func (.func f) #[] #[.pointer (some ⟨c1,0,none⟩),.pointer (some ⟨c2,0,none⟩)]:=ev.symm.trans ev';injection e3 with _ _ e3
  simp at e3;obtain ⟨rfl,rfl⟩:=e3;exact ⟨v1',g1,g2,g3⟩
 refine ((hit.2 1 (D+1) b1 b2 e xs n0.toNat (by omega) (by omega) hxs J ?drew ?cells ?yield W1 ⟨x0,by rw [U5];exact hf,⟨W1,Z1,m0.ρ,m0.β⟩,rfl,hst⟩).mono ?post)
 case drew=>
  rintro i W ⟨x,hx,m',rfl,hr'⟩;have hf:Fore m'.w m'.w.drew m'.Z m'.Z:=fun b h1 h2=>⟨rfl,h1⟩
  exact ⟨x,hx,⟨m'.w.drew,m'.Z,m'.ρ,m'.β⟩,rfl,hr'.alien (ds:= []) (fun b _ _=>⟨rfl,rfl⟩) (fun b h1 h2=>hr'.fo b h1 h2) (C6 _) rfl rfl rfl (hr'.df.fore hf)⟩
 case cells=>
  rintro i W ⟨x,_,m',rfl,hr'⟩;obtain ⟨v1',g1,g2,g3⟩:=hchk x m' hr';exact ⟨v1',m'.Z,g1,by rw [A28 (by omega)];exact g2,g3⟩
 case post=>
  rintro e' W2 ⟨⟨v,rfl⟩,x,hx,m',rfl,hr'⟩;rw [<- hlen,List.drop_length] at hx;simp only [B0U] at hx;injection hx with hx;subst hx
  have hA:=hr'.df.2;obtain ⟨l0,l1,l2⟩:=hA (D+1,.loop (rc .ready)) (by simp [gh,al1]);refine ⟨none,m'.w.putObj (D+1) (.loop {rc .ready with state:=.exhausted}),run_endLoop l2 (by simp [rc]),?_⟩;have hr1:Rel n w0 Z0 (V5 its dead s x) ⟨a.tmps,[]⟩ m':=hr'.reAl (al:=Z0.al) ⟨⟨A3p,fun d hd=>by cases hd⟩,fun p hp=>hA p (by simp only [gh,al1,B4];exact .inr (.inr (D3 _ hp)))⟩;have hr2:=hr1.turn (l:=D+1) (o':=.loop {rc .ready with state:=.exhausted}) (ds:=B6R D::a.defers) l1 l0 ⟨⟨List.nodup_cons.2 ⟨fun hm=>?_,hr0.df.1.1⟩,fun d hd=>?_⟩,fun p hp=>?_⟩
  ·exact hQ _ _ hr2
  ·obtain ⟨D',e',g1,g2,g3⟩:=hr0.df.1.2 _ hm;have:=(A9.1 g3).1;have:=C71 e';omega
  ·rcases B4.1 hd with rfl | hd
   ·obtain ⟨g0,g1,g2⟩:=hA (D,.deferred (some [])) (by simp [gh,al1]);exact ⟨D,rfl,g0,g1,(I3 (by simp)).trans g2⟩
   ·obtain ⟨D',e',_⟩:=hr0.df.1.2 d hd;have hm:(D',Obj.deferred (some []))∈mks a.defers++Z0.al:=E2 _ (D0.2 ⟨d,hd,by rw [e'];rfl⟩);obtain ⟨g0,g1,g2⟩:=hA (D',.deferred (some [])) (by simp only [gh,al1,B4];exact .inr (.inr hm));have:=hmkD _ hm;exact ⟨D',e',g0,g1,(I3 (by simp only at this;omega)).trans g2⟩
  ·obtain ⟨g0,g1,g2⟩:=hA p (by simp only [gh,al1,B4];exact .inr (.inr (D3 _ hp)));have:=hmkD p (D3 _ hp);exact ⟨g0,g1,(I3 (by omega)).trans g2⟩
 case yield=>
  rintro i W v1' hi ⟨x,hx,m',rfl,hr'⟩ hv1';have hlt:i<(pieces n0.toNat xs).length:=by
   rw [hlen];refine (A43 (by omega)).2 ?_;rw [G2];omega
  have hdrop:(pieces n0.toNat xs).drop i=Q6 n0.toNat xs i::(pieces n0.toNat xs).drop (i+1):=by
   rw [I0 hlt];simp [pieces]
  rw [hdrop] at hx;simp only [B0U] at hx;split at hx
  ·rename_i x' hgx;rw [<- hG] at hgx;obtain ⟨s1,k1,g1,f1⟩:=C73 hE (r:=D+1) (N:=1) assign h1 hgx;obtain ⟨s2,k2,g2,f2⟩:=C73 hE (r:=D+1) (N:=1) body h2 k1;obtain ⟨l0,l1,l2⟩:=hr'.df.2 (D+1,.loop (rc .ready)) (by simp [gh,al1]);obtain ⟨v1'',c1,_,c3⟩:=hchk x m' hr';rw [hv1'] at c1;injection c1 with c1;subst c1
   have hro:Ro (.rs e (.int .u8)) m'.w m'.Z (Q6 n0.toNat xs i) [C0m (i*n0.toNat) (min (i*n0.toNat+n0.toNat) xs.length) v1']:=by
    have:=C93 c3 (lo:=i*n0.toNat) (hi:=min (i*n0.toNat+n0.toNat) xs.length) (by omega) (by omega)
    rwa [List.take_eq_take_iff.2 (show min (min (i*n0.toNat+n0.toNat) xs.length) xs.length=min (i*n0.toNat+n0.toNat) xs.length by omega)] at this
   have hput:=hr'.put (d:=q) (v:=.one (.ro e (.int .u8) (Q6 n0.toNat xs i))) hq hro;refine ⟨fn,_,assign,body,run_yield l2 (by simp [rc]),roundIn_of_wpIn trivial ?_⟩;have F1:=f1 _ _ _ _ hput;have etm:(rc .ready).tmps.setIfInBounds q (C0m (i*n0.toNat) (min (i*n0.toNat+n0.toNat) xs.length) v1')=((rc .ready).params.zip #[C0m (i*n0.toNat) (min (i*n0.toNat+n0.toNat) xs.length) v1']).foldl (fun tmps (t,a)=>tmps.setIfInBounds t a) (rc .ready).tmps:=by
    simp [rc]
   rw [<- etm];refine A4e F1 ?_;rintro e1 a1 w1 ⟨rfl,hs1,m1,rfl,hr1⟩;obtain ⟨_,_,l2'⟩:=hr1.df.2 (D+1,.loop (rc .ready)) (by simp [gh,al1]);refine ⟨_,run_beginRound l2' rfl,?_⟩;have hb:=D01 (r':=rc .busy) hr1 hmkD;refine A4e (f2 _ _ _ _ hb) ?_;rintro e2 a2 w2 ⟨rfl,hs2,m2,rfl,hr2⟩;obtain ⟨_,_,l3⟩:=hr2.df.2 (D+1,.loop (rc .busy)) (by simp [al1]);refine ⟨_,_,run_endRound none l3,rfl,x',hx,?_⟩;obtain ⟨m3,e3,hr3⟩:=A8s k2 ((A1Q its dead s x).trans ((A9K _ _).trans (g1.trans g2))) hr2;have hr4:=D01 (r':=rc .ready) hr3 hmkD;rw [e3] at hr4;refine ⟨_,?_,hr4.act (a':=⟨a.tmps,[]⟩) hsz0 ⟨⟨A3p,fun d hd=>by cases hd⟩,hr4.df.2⟩ fun d v hg=>?_⟩
   ·rfl
   ·have hnd:=C5F hits hg;have hnm:d ∉ q::(D1++D2):=fun hm=>by
     have:=C8.1 hdead d hm;rw [hnd] at this;cases this
    simp only [B4,C9,not_or] at hnm;rw [hs2.2 d hnm.2.2,hs1.2 d hnm.2.1,B6S (by rw [hsz0];exact hq),D6 hnm.1]
  ·cases hx
def A8t{α β:Type}(f:α->Option (α⊕β)):Nat->α->Option β
 | 0,_=>none
 | n+1,x=>match f x with
  | some (.inl y)=>A8t f n y
  | some (.inr y)=>some y
  | none=>none
theorem B2u{α β:Type}{f:α->Option (α⊕β)}:∀ {n:Nat} {x:α} {y:β},A8t f n x=some y->∀ m,n<=m->A8t f m x=some y
 | 0,_,_,h,_,_=>by cases h
 | n+1,x,y,h,m,hm=>by
  obtain ⟨k,rfl⟩:∃ k,m=k+1:=⟨m-1,by omega⟩;simp only [A8t] at h ⊢;split at h
  ·exact B2u h k (by omega)
  ·exact h
  ·cases h
open Classical in
noncomputable def G4{α β:Type}(f:α->Option (α⊕β))(x:α):Option β:=
 if h:∃ y n,A8t f n x=some y then some h.choose else none
theorem A9W{α β:Type}{f:α->Option (α⊕β)}{x:α}{y:β}(h:G4 f x=some y):∃ n,A8t f n x=some y:=by
 unfold G4 at h;split at h
 ·rename_i hh;injection h with h;rw [<- h];exact hh.choose_spec
 ·cases h
theorem B6w{α β:Type}{f:α->Option (α⊕β)}{x:α}{y:β}{n:Nat}(h:A8t f n x=some y):G4 f x=some y:=by
 have hh:∃ y n,A8t f n x=some y:=⟨y,n,h⟩;unfold G4;rw [dif_pos hh];obtain ⟨k,hk⟩:=hh.choose_spec;have h1:=B2u h (max n k) (Nat.le_max_left _ _);have h2:=B2u hk (max n k) (Nat.le_max_right _ _);rw [h1] at h2;exact h2.symm
theorem N8{α β:Type}(f:α->Option (α⊕β))(x:α):G4 f x=match f x with
  | some (.inl y)=>G4 f y
  | some (.inr y)=>some y
  | none=>none:=by
 cases e:f x with
 | none=>
  cases h:G4 f x with
  | none=>rfl
  | some y=>
   obtain ⟨n,hn⟩:=A9W h;cases n with
   | zero=>cases hn
   | succ n=>simp only [A8t,e] at hn;cases hn
 | some z=>
  cases z with
  | inr y=>exact B6w (n:=1) (by simp only [A8t,e])
  | inl y=>
   show G4 f x=G4 f y;cases h:G4 f y with
   | some z=>
    obtain ⟨n,hn⟩:=A9W h;exact B6w (n:=n+1) (by simp only [A8t,e];exact hn)
   | none=>
    cases h':G4 f x with
    | none=>rfl
    | some z=>
     obtain ⟨n,hn⟩:=A9W h';cases n with
     | zero=>cases hn
     | succ n=>
      simp only [A8t,e] at hn;rw [B6w hn] at h;cases h
inductive Ex where
 | normal
 | exit (id:Nat)
 | ret
def Ex.to:Ex->Exit
 | .normal=>.normal
 | .exit id=>.exit id
 | .ret=>.ret
structure Jn where
 its:List It
 dead:List Loc
 all:Bool
def B1{A B:Type}(o:Option A)(f:A->Option B):Option B:=match o with
 | some x=>f x
 | none=>none
def C5G{A B:Type}(f:A->B)(o:Option A):Option B:=match o with
 | some x=>some (f x)
 | none=>none
def V6{A B:Type}(o:Option (A⊕B))(f:A->Option B):Option B:=match o with
 | some (.inl x)=>f x
 | some (.inr y)=>some y
 | none=>none
def C4H(id:Nat):Ex->Ex
 | .exit i=>match Nat.beq i id with
  | true=>.normal
  | false=>.exit i
 | e=>e
noncomputable def meet{R:Type}(j:Jn)(s:St)(f:(R':Type)->(Ex->St->Option R')->Option R')(lv:Ex->Ex)(g:St->Option R)(k:Ex->St->Option R):Option R:=
 match j.all with
 | true=>B1 (f (ShT j.its) fun e s'=>match lv e with
  | .normal=>B2a j.its j.dead s s'
  | _=>none) fun x=>g (V5 j.its j.dead s x)
 | false=>V6 (f (ShT j.its⊕R) fun e s'=>match lv e with
  | .normal=>C5G Sum.inl (B2a j.its j.dead s s')
  | e=>C5G Sum.inr (k e s')) fun x=>g (V5 j.its j.dead s x)
open Classical in
noncomputable def eqO{R:Type}(a b:Option R):Option R:=if a=b then a else none
theorem C76{R:Type}{a b:Option R}{r:R}(h:eqO a b=some r):a=some r/\b=some r:=by
 unfold eqO at h;split at h
 ·rename_i e;exact ⟨h,e▸h⟩
 ·cases h
def B9s(E:A79)(ck:Option (Nat×Nat))(n:Nat)(oj:Option Jn)(t:Nat)(ps:List Tmp)(assign body:Code)(s:St){R:Type}(k:St->Option R):Option R:=
 match oj,s.getT t,ps,ck,wrR assign,wrR body with
 | some j,some (.one (.chk f e (.int .u8) xs n0)),[q],some (_,g),some D1,some D2=>
  match Nat.beq f g&&Nat.blt q n&&j.its.all (fun it=>C94 it.loc)&&(q::(D1++D2)).all (fun d=>B2O j.dead (.t d))&&!(B2O j.dead (.t t)) with
  | true=>bif decide (0<n0) then bif decide (n0<=1048576) then bif decide (xs.length<=1152921504606846976) then B1 (B2a j.its j.dead s s) fun x0=>B1 (B0U (fun piece x=>evR E n assign ((.t q,some (.t (.one (.ro e (.int .u8) piece))))::V5 j.its j.dead s x) fun s1=>evR E n body s1 fun s2=>B2a j.its j.dead s s2) (pieces n0.toNat xs) x0) fun y=>k (V5 j.its j.dead s y) else none else none else none
  | false=>none
 | _,_,_,_,_,_=>none
noncomputable def ev(E:A79)(ck:Option (Nat×Nat))(n:Nat)(An:Nat->Option Jn):Code->Nat->St->(R:Type)->(Ex->St->Option R)->Option R
 | .skip,_,s,_,k=>k .normal s
 | .region _ ops false,_,s,_,k=>B0s E n ops ops.toList s (k .normal)
 | .region _ ops true,_,s,_,k=>B9o E n ops s (k .normal)
 | .seq a b,p,s,R,k=>match An p with
  | none=>ev E ck n An a (2*p) s R fun e s'=>match e with
   | .normal=>ev E ck n An b (2*p+1) s' R k
   | e=>k e s'
  | some j=>meet j s (ev E ck n An a (2*p) s) id (fun s'=>ev E ck n An b (2*p+1) s' R k) k
 | .cond c a b,p,s,R,k=>match L1 s c with
  | some (.one (.bool t),_)=>bif t then ev E ck n An a (2*p) s R k else ev E ck n An b (2*p+1) s R k
  | some (.one .anyb,_)=>eqO (ev E ck n An a (2*p) s R k) (ev E ck n An b (2*p+1) s R k)
  | _=>none
 | .block id a,p,s,R,k=>match An p with
  | none=>ev E ck n An a (2*p) s R fun e s'=>k (C4H id e) s'
  | some j=>meet j s (ev E ck n An a (2*p) s) (C4H id) (k .normal) k
 | .loop a,p,s,R,k=>match An p with
  | none=>none
  | some j=>B1 (B2a j.its j.dead s s) fun x0=>G4 (fun x=>ev E ck n An a (2*p) (V5 j.its j.dead s x) (ShT j.its⊕R) fun e s'=>match e with
   | .normal=>C5G Sum.inl (B2a j.its j.dead s s')
   | e=>C5G Sum.inr (k e s')) x0
 | .ret,_,s,_,k=>k .ret s
 | .exit id,_,s,_,k=>k (.exit id) s
 | .rangeFunc (.tmp t) ps assign body,p,s,_,k=>B9s E ck n (An p) t ps.toList assign body s (k .normal)
 | _,_,_,_,_=>none
theorem A14{A B:Type}{o:Option A}{f:A->Option B}{y:B}(h:B1 o f=some y):∃ x,o=some x/\f x=some y:=by
 cases o with
 | none=>cases h
 | some x=>exact ⟨x,rfl,h⟩
theorem A0l{A B:Type}{o:Option A}{f:A->B}{y:B}(h:C5G f o=some y):∃ x,o=some x/\f x=y:=by
 cases o with
 | none=>cases h
 | some x=>simp only [C5G] at h;injection h with h;exact ⟨x,rfl,h⟩
theorem C2s{A B:Type}{o:Option (A⊕B)}{f:A->Option B}{y:B}(h:V6 o f=some y):(∃ x,o=some (.inl x)/\f x=some y)\/o=some (.inr y):=by
 cases o with
 | none=>cases h
 | some x=>cases x with
  | inl x=>exact .inl ⟨x,rfl,h⟩
  | inr z=>simp only [V6] at h;injection h with h;subst h;exact .inr rfl
def D16(P:Program)(n:Nat)(c:Code)(s:St)(f:(R:Type)->(Ex->St->Option R)->Option R):Prop:=
 ∀ (R:Type) (k:Ex->St->Option R) (r:R),f R k=some r->∀ w0 Z0 a m (Q:Exit->Act->World->Prop),Rel n w0 Z0 s a m->
  (∀ e s' a' m',k e s' = some r->s <:+ s'->Rel n w0 Z0 s' a' m'->Q e.to a' m'.w)->c.wp P Q a m.w
theorem C4I{P:Program}{n:Nat}{c:Code}{s:St}{f:(R:Type)->(Ex->St->Option R)->Option R}(hf:D16 P n c s f){R:Type}{j:Jn}{lv:Ex->Ex}{g:St->Option R}{k:Ex->St->Option R}{r:R}
  (h:meet j s f lv g k=some r) {w0:World} {Z0:Gh} {a:Act} {m:Mem} (hr:Rel n w0 Z0 s a m) {Q:Exit->Act->World->Prop}
  (hn:∀ e s' a' m',lv e=.normal->g s' = some r->s <:+ s'->Rel n w0 Z0 s' a' m'->Q e.to a' m'.w)
  (ho:∀ e s' a' m',lv e≠.normal->k (lv e) s' = some r->s <:+ s'->Rel n w0 Z0 s' a' m'->Q e.to a' m'.w):c.wp P Q a m.w:=by
 unfold meet at h;split at h
 ·obtain ⟨x,h1,h2⟩:=A14 h;refine hf _ _ _ h1 w0 Z0 a m Q hr fun e s' a' m' hk hs hr'=>?_
  split at hk
  ·rename_i he;obtain ⟨m1,e1,hr1⟩:=A8s hk hs hr';rw [<- e1];exact hn e _ a' m1 he h2 (A1Q _ _ _ _) hr1
  ·cases hk
 ·rcases C2s h with ⟨x,h1,h2⟩ | h1
  ·refine hf _ _ _ h1 w0 Z0 a m Q hr fun e s' a' m' hk hs hr'=>?_
   split at hk
   ·rename_i he;obtain ⟨y,h3,h4⟩:=A0l hk;injection h4 with h4;subst h4
    obtain ⟨m1,e1,hr1⟩:=A8s h3 hs hr';rw [<- e1];exact hn e _ a' m1 he h2 (A1Q _ _ _ _) hr1
   ·obtain ⟨y,h3,h4⟩:=A0l hk;cases h4
  ·refine hf _ _ _ h1 w0 Z0 a m Q hr fun e s' a' m' hk hs hr'=>?_
   split at hk
   ·obtain ⟨y,h3,h4⟩:=A0l hk;cases h4
   ·rename_i he;obtain ⟨y,h3,h4⟩:=A0l hk;injection h4 with h4;subst h4
    exact ho e s' a' m' (fun hh=>he hh) h3 hs hr'
theorem C5H{s:St}{x:Operand}{b:Bool}{rd:Rds}(h:L1 s x=some (.one (.bool b),rd)){n:Nat}{w0:World}{Z0:Gh}{a:Act}{m:Mem}(hr:Rel n w0 Z0 s a m):a.eval x=.bool b:=
 D8 h hr (B9 h)
theorem C2t{P:Program}{E:A79}(hE:A49 P E){ck:Option (Nat×Nat)}(hck:∀ f g,ck=some (f,g)->B64 P g){n:Nat}{oj:Option Jn}{t:Nat}{ps:Array Tmp}{assign body:Code}{s:St}{R:Type}{k:St->Option R}{r:R}
  (h:B9s E ck n oj t ps.toList assign body s k=some r):∃ s',k s' = some r/\s <:+ s'/\∀ w0 Z0 a m (Q:Exit->Act->World->Prop),Rel n w0 Z0 s a m->(∀ a' m',Rel n w0 Z0 s' a' m'->Q .normal a' m'.w)->(Code.rangeFunc (.tmp t) ps assign body).wp P Q a m.w:=by
 unfold B9s at h;split at h
 ·rename_i j f e xs n0 q f' g D1 D2 e1 e2 e3 e4;have e2:ps=#[_]:=T9.1 e2;subst e2;split at h
  ·rename_i hc;simp only [B3,P9] at hc;obtain ⟨⟨⟨⟨c1,c3⟩,c4⟩,c5⟩,c6⟩:=hc;cases c2:decide (0<n0) with
   | false=>rw [c2] at h;cases h
   | true=>
   rw [c2] at h;simp only [B6] at h;cases c7:decide (n0<=1048576) with
   | false=>rw [c7] at h;cases h
   | true=>
   rw [c7] at h;simp only [B6] at h;cases hxs:decide (xs.length<=1152921504606846976) with
   | false=>rw [hxs] at h;cases h
   | true=>
   rw [hxs] at h;have hxs:=A8 hxs;simp only [B6] at h;obtain ⟨x0,h1,h⟩:=A14 h;obtain ⟨y,h2,h⟩:=A14 h;have hfg:=A0 c1;refine ⟨_,h,A1Q _ _ _ _,fun w0 Z0 a m Q hr hQ=>C75 hE (hfg▸hck f' g rfl) e3 e4 e1 ⟨A8 c2,A8 c7⟩ hxs (A0S.1 c3) c4 c5 c6 h1 h2 hr hQ⟩
  ·cases h
 ·cases h
theorem D02{P:Program}(hm:P.follows .mixedOrders=true){E:A79}(hE:A49 P E){ck:Option (Nat×Nat)}(hck:∀ f g,ck=some (f,g)->B64 P g){n:Nat}{An:Nat->Option Jn}:∀ (c:Code) (p:Nat) (s:St),D16 P n c s (ev E ck n An c p s):=by
 intro c
 induction c with
 | skip=>intro p s R k r h w0 Z0 a m Q hr hk;simp only [ev] at h;exact wp_skip (hk _ _ a m h (H7 _) hr)
 | region id ops d=>
  intro p s R k r h w0 Z0 a m Q hr hk;cases d with
  | false=>
   simp only [ev] at h;obtain ⟨s',h1,h2,h3⟩:=B8K (id:=id) hE h;exact h3 w0 Z0 a m hr Q fun a' m' hr'=>hk .normal s' a' m' h1 h2 hr'
  | true=>
   simp only [ev] at h;obtain ⟨s',h1,h2,h3⟩:=B6s (id:=id) hm hE h;exact h3 w0 Z0 a m hr Q fun a' m' hr'=>hk .normal s' a' m' h1 h2 hr'
 | seq x y ihx ihy=>
  intro p s R k r h w0 Z0 a m Q hr hk;simp only [ev] at h;refine wp_seq ?_;split at h
  ·refine ihx _ s _ _ r h w0 Z0 a m _ hr fun e s' a' m' hk' hs hr'=>?_
   cases e with
   | normal=>exact ihy _ s' _ _ r hk' w0 Z0 a' m' Q hr' fun e s'' a'' m'' h1 h2 h3=>hk e s'' a'' m'' h1 (hs.trans h2) h3
   | exit id=>exact hk _ s' a' m' hk' hs hr'
   | ret=>exact hk _ s' a' m' hk' hs hr'
  ·refine C4I (ihx _ s) h hr (fun e s' a' m' he hg hs hr'=>?_) (fun e s' a' m' he hg hs hr'=>?_)
   ·simp only [id] at he;subst he;exact ihy _ s' _ _ r hg w0 Z0 a' m' Q hr' fun e s'' a'' m'' h1 h2 h3=>hk e s'' a'' m'' h1 (hs.trans h2) h3
   ·simp only [id] at he hg;have:=hk e s' a' m' hg hs hr';cases e with
    | normal=>exact absurd rfl he
    | exit id=>exact this
    | ret=>exact this
 | cond c x y ihx ihy=>
  intro p s R k r h w0 Z0 a m Q hr hk;simp only [ev] at h;split at h
  ·rename_i t rd hc;refine wp_cond (C5H hc hr) ?_;cases t with
   | true=>exact ihx _ s _ _ r h w0 Z0 a m Q hr hk
   | false=>exact ihy _ s _ _ r h w0 Z0 a m Q hr hk
  ·rename_i rd hc;obtain ⟨h1,h2⟩:=C76 h;obtain ⟨b,hb⟩:∃ b,a.eval c=.bool b:=D8 hc hr (B9 hc);refine wp_cond hb ?_;cases b with
   | true=>exact ihx _ s _ _ r h1 w0 Z0 a m Q hr hk
   | false=>exact ihy _ s _ _ r h2 w0 Z0 a m Q hr hk
  ·cases h
 | block id x ih=>
  intro p s R k r h w0 Z0 a m Q hr hk;simp only [ev] at h;refine wp_block ?_;have key:∀ e s' a' m',k (C4H id e) s' = some r->s <:+ s'->Rel n w0 Z0 s' a' m'->Exit.inBlock id Q e.to a' m'.w:=by
   intro e s' a' m' h1 h2 h3;have:=hk _ s' a' m' h1 h2 h3;cases e with
   | normal=>exact this
   | ret=>exact this
   | exit i=>
    simp only [C4H] at this;simp only [Ex.to,Exit.inBlock];split at this
    ·rename_i hb;rw [G0 (A0 hb)];exact this
    ·rename_i hb;rw [D6 fun e=>by subst e;rw [A0e] at hb;cases hb];exact this
  split at h
  ·exact ih _ s _ _ r h w0 Z0 a m _ hr key
  ·refine C4I (ih _ s) h hr (fun e s' a' m' he hg hs hr'=>?_) (fun e s' a' m' he hg hs hr'=>key e s' a' m' hg hs hr');exact key e s' a' m' (by rw [he];exact hg) hs hr'
 | loop x ih=>
  intro p s R k r h w0 Z0 a m Q hr hk;simp only [ev] at h;split at h
  ·cases h
  ·rename_i j hj;obtain ⟨x0,h1,h2⟩:=A14 h;obtain ⟨N,hN⟩:=A9W h2;obtain ⟨m0,e0,hr0⟩:=A8s h1 (H7 _) hr;refine wp_loop_rounds N ?_;rw [<- e0]
   clear h1 h h2 e0 hr
   induction N generalizing x0 a m0 with
   | zero=>cases hN
   | succ N ihN=>
    rw [rounds_succ];simp only [A8t] at hN;split at hN
    ·rename_i y hy;refine ih _ _ _ _ _ hy w0 Z0 a m0 _ hr0 fun e s' a' m' hk' hs hr'=>?_
     cases e with
     | normal=>
      obtain ⟨z,h3,h4⟩:=A0l hk';injection h4 with h4;subst h4
      obtain ⟨m1,e1,hr1⟩:=A8s h3 ((A1Q _ _ _ _).trans hs) hr';simp only [Ex.to,Exit.then];rw [<- e1]
      first | exact ihN _ _ _ hN hr1 | exact ihN _ _ hN _ hr1 | exact ihN _ _ _ hr1 hN
     | exit id=>obtain ⟨z,h3,h4⟩:=A0l hk';cases h4
     | ret=>obtain ⟨z,h3,h4⟩:=A0l hk';cases h4
    ·rename_i y hy;injection hN with hN;subst hN
     refine ih _ _ _ _ _ hy w0 Z0 a m0 _ hr0 fun e s' a' m' hk' hs hr'=>?_
     have hs':=(A1Q j.its j.dead s x0).trans hs;cases e with
     | normal=>obtain ⟨z,h3,h4⟩:=A0l hk';cases h4
     | exit id=>
      obtain ⟨z,h3,h4⟩:=A0l hk';injection h4 with h4;subst h4
      exact hk _ s' a' m' h3 hs' hr'
     | ret=>
      obtain ⟨z,h3,h4⟩:=A0l hk';injection h4 with h4;subst h4
      exact hk _ s' a' m' h3 hs' hr'
    ·cases hN
 | ret=>intro p s R k r h w0 Z0 a m Q hr hk;simp only [ev] at h;exact wp_ret (hk _ _ a m h (H7 _) hr)
 | exit id=>intro p s R k r h w0 Z0 a m Q hr hk;simp only [ev] at h;exact wp_exit (hk _ _ a m h (H7 _) hr)
 | rangeFunc g ps x y _ _=>
  intro p s R k r h w0 Z0 a m Q hr hk;cases g with
  | tmp t=>
   simp only [ev] at h;obtain ⟨s',h1,h2,h3⟩:=C2t hE hck h;exact h3 w0 Z0 a m Q hr fun a' m' hr'=>hk .normal s' a' m' h1 h2 hr'
  | _=>simp only [ev] at h;cases h
 | scope x _=>intro p s R k r h;simp only [ev] at h;cases h
 | label l=>intro p s R k r h;simp only [ev] at h;cases h
 | goto l=>intro p s R k r h;simp only [ev] at h;cases h
 | refuse w=>intro p s R k r h;simp only [ev] at h;cases h
end Go.Proofs.YthnfghmjipikhaaGreatDoor.Ev
namespace Go.Proofs.YthnfghmjipikhaaGreatDoor.Ev
structure Hd where
 id:Nat
 r:Nat
 row:Row
 kp:Bool
def C5I:Lf->List Nat
 | .own id=> [id]
 | .vw id _ _=> [id]
 | .sub id _ _ _=> [id]
 | _=> []
def C13(cfg:Cfg)(s:St)(k:K)(l:Lf):Option (List k.T×Rds):=match l with
 | .nil=>some ([],[])
 | l=>match E9 cfg s 0 l with
  | some (sl,rds)=>match A35 sl.k k sl.xs with
   | some xs=>some (xs,rds)
   | none=>none
  | none=>none
theorem B9t{cfg:Cfg}{s s':St}{t:Nat}{l:Lf}{sl:SL}{rds:Rds}(h:E9 cfg s t l=some (sl,rds))(hnil:l≠.nil){n:Nat}{w0:World}{Z0:Gh}{a:Act}{m:Mem}
  (hr:Rel n w0 Z0 s' a m) (hrd:Reads s' rds) {v:Value} (hv:LfC s' m l v) {Z':Col} (hk:Keeps m.w m.w m.Z Z') (hb:∀ id∈C5I l,Frees m.w m.w m.Z Z' [2*id]):Ro (.rs sl.e sl.k) m.w Z' sl.xs [v]:=by
 cases l with
 | nil=>exact absurd rfl hnil
 | ro e k xs=>
  simp only [E9] at h;injection h with h;injection h with h _;subst h
  exact Ro.keep (k:=.rs e k) hv hk
 | own id=>
  simp only [E9] at h;split at h
  ·rename_i r hrow;injection h with h;injection h with h1 h2;subst h1;subst h2
   have hg:=hrd _ A5;rw [hv.2 r hg];exact (hr.rw id r hg).toFree (hb id (by simp [C5I])) hk
  ·cases h
 | vw id lo hi=>
  simp only [E9] at h;split at h
  ·rename_i r hrow;injection h with h;injection h with h1 h2;subst h1;subst h2
   have hg:=hrd _ A5;obtain ⟨h1,h2,h3⟩:=hv.2 r hg;rw [h3];exact B4S ((hr.rw id r hg).toFree (hb id (by simp [C5I])) hk) h1 h2
  ·cases h
 | sub id q off ver=>
  simp only [E9] at h;split at h
  ·rename_i r i hrow hix;split at h
   ·rename_i hver;split at h
    ·rename_i sl' hsl;injection h with h;injection h with h1 h2;subst h1;subst h2
     have hg:=hrd (.r id,.r r) (by simp);have hq:=hrd (.x q,.x i) (by simp);obtain ⟨h0,h5⟩:=hv.2 r i hg hq;obtain ⟨h1,h2,h3,h4⟩:=h5 (A0 hver);have hno:Ro (.rs r.e r.k) m.w Z' r.xs [m.ρ id]:=(hr.rw id r hg).toFree (hb id (by simp [C5I])) hk;obtain ⟨c,ad,ds,e1,_,hro,hcell⟩:=B67 hno h2;rw [A8l h2] at hsl;have hlen:=hro.len;have hd:ds[off]? = some ds[off]:=by simp [show off<ds.length by omega]
     have:=hcell off _ hd;rw [e1,O2] at h4;rw [this] at h4;injection h4 with h4
     exact B20 hro hsl (h4▸hd)
    ·cases h
   ·cases h
  ·cases h
 | int k n=>simp [E9] at h
 | bool b=>simp [E9] at h
 | str x=>simp [E9] at h
 | ptr b off=>simp [E9] at h
 | ept id q off=>simp [E9] at h
 | rpt k x off=>simp [E9] at h
 | rpa n k x=>simp [E9] at h
 | mp _=>simp [E9] at h
 | mpb _=>simp [E9] at h
 | apt n id=>simp [E9] at h
 | fn f=>simp [E9] at h
 | anyb=>simp [E9] at h
 | chk _ _ _ _ _=>simp [E9] at h
 | clo _ _ _=>simp [E9] at h
 | any=>simp [E9] at h
 | nilp=>simp [E9] at h
 | ext id q off ver p e k zs=>simp [E9] at h
theorem C77{cfg:Cfg}{s s':St}{k:K}{l:Lf}{xs:List k.T}{rds:Rds}(h:C13 cfg s k l=some (xs,rds)){n:Nat}{w0:World}{Z0:Gh}{a:Act}{m:Mem}
  (hr:Rel n w0 Z0 s' a m) (hrd:Reads s' rds) {v:Value} (hv:LfC s' m l v) {Z':Col} (hk:Keeps m.w m.w m.Z Z') (hb:∀ id∈C5I l,Frees m.w m.w m.Z Z' [2*id]):RoL (Ro k m.w Z') k.sz m.w Z' xs [v]:=by
 by_cases hnil:l=.nil
 ·subst hnil;simp only [C13] at h;injection h with h;injection h with h1 h2;subst h1
  simp only [LfC] at hv;subst hv;exact ⟨none,0,rfl,C6 _,G6 _,fun h=>by simp at h⟩
 ·have h':(match E9 cfg s 0 l with
   | some (sl,rds)=>match A35 sl.k k sl.xs with
    | some xs=>some (xs,rds)
    | none=>none
   | none=>none)=some (xs,rds):=by
   cases l<;>first | exact absurd rfl hnil | exact h
  split at h'
  ·rename_i sl rds' hc;split at h'
   ·rename_i ys hcast;injection h' with h';injection h' with h1 h2;subst h1;subst h2
    have:=B9t hc hnil hr hrd hv hk hb;exact B0n (e':=sl.e) hcast this
   ·cases h'
  ·cases h'
theorem C14{cfg:Cfg}{s:St}{k:K}{l:Lf}{xs:List k.T}{rds:Rds}(h:C13 cfg s k l=some (xs,rds)):Reads s rds:=by
 by_cases hnil:l=.nil
 ·subst hnil;simp only [C13] at h;injection h with h;injection h with _ h;subst h;exact Reads.nil _
 ·have h':(match E9 cfg s 0 l with
   | some (sl,rds)=>match A35 sl.k k sl.xs with
    | some xs=>some (xs,rds)
    | none=>none
   | none=>none)=some (xs,rds):=by
   cases l<;>first | exact absurd rfl hnil | exact h
  split at h'
  ·rename_i sl rds' hc;split at h'
   ·injection h' with h';injection h' with _ h2;subst h2;exact A0k hc
   ·cases h'
  ·cases h'
def gv(cfg:Cfg)(s:St)(kp:Bool):Nat->(k:K)->List Lf->Option (k.T×List Lf×List Hd×List Nat×Rds)
 | _,.int U,.int U' n::ls=>match decide (U=U') with
  | true=>some (n,ls,[],[],[])
  | false=>none
 | _,.bool,.bool b::ls=>some (b,ls,[],[],[])
 | _,.fnc f,.fn f'::ls=>match Nat.beq f f' with
  | true=>some ((),ls,[],[],[])
  | false=>none
 | _,.str,.str b::ls=>some (b,ls,[],[],[])
 | base,.sl e k,.nil::ls=>some ([],ls,[],[],[])
 | base,.sl e k,.own id::ls=>match s.getR id with
  | some row=>match Nat.beq row.e e,A7I row.k k row.xs with
   | true,some xs=>some (xs,ls,[⟨id,base,row,kp⟩],[],[(.r id,.r row)])
   | _,_=>none
  | none=>none
 | _,.rs e k,l::ls=>match C13 cfg s k l with
  | some (xs,rds)=>some (xs,ls,[],C5I l,rds)
  | none=>none
 | _,.pa n k,.rpa n' k' xs::ls=>match Nat.beq n n',A35 k' k xs with
  | true,some ys=>some (ys,ls,[],[],[])
  | _,_=>none
 | _,.pa n k,.apt n' id::ls=>match s.getR id with
  | some row=>match Nat.beq n n'&&Nat.ble 1 n,A35 row.k k row.xs with
   | true,some xs=>some (xs,ls,[],[id],[(.r id,.r row)])
   | _,_=>none
  | none=>none
 | base,.pair a b,ls=>match gv cfg s kp base a ls with
  | some (x,r1,h1,b1,d1)=>match gv cfg s kp (base+a.sz) b r1 with
   | some (y,r2,h2,b2,d2)=>some ((x,y),r2,h1++h2,b1++b2,d1++d2)
   | none=>none
  | none=>none
 | _,_,_=>none
theorem A5L{cfg:Cfg}{s:St}{kp:Bool}:∀ {k:K} {base:Nat} {ls:List Lf} {x:k.T} {rest:List Lf} {hd:List Hd} {bo:List Nat} {rds:Rds},gv cfg s kp base k ls=some (x,rest,hd,bo,rds)->Reads s rds
 | .int U,base,ls,x,rest,hd,bo,rds,h=>by
  cases ls with
  | nil=>simp [gv] at h
  | cons l ls=>
   cases l<;>simp only [gv] at h<;>try (cases h;done)
   split at h
   ·injection h with h;injection h with _ h;injection h with _ h;injection h with _ h;injection h with _ h;subst h;exact Reads.nil _
   ·cases h
 | .fnc f,base,ls,x,rest,hd,bo,rds,h=>by
  cases ls with
  | nil=>simp [gv] at h
  | cons l ls=>
   cases l<;>simp only [gv] at h<;>try (cases h;done)
   split at h
   ·injection h with h;injection h with _ h;injection h with _ h;injection h with _ h;injection h with _ h;subst h;exact Reads.nil _
   ·cases h
 | .bool,base,ls,x,rest,hd,bo,rds,h=>by
  cases ls with
  | nil=>simp [gv] at h
  | cons l ls=>
   cases l<;>simp only [gv] at h<;>try (cases h;done)
   injection h with h;injection h with _ h;injection h with _ h;injection h with _ h;injection h with _ h;subst h;exact Reads.nil _
 | .str,base,ls,x,rest,hd,bo,rds,h=>by
  cases ls with
  | nil=>simp [gv] at h
  | cons l ls=>
   cases l<;>simp only [gv] at h<;>try (cases h;done)
   injection h with h;injection h with _ h;injection h with _ h;injection h with _ h;injection h with _ h;subst h;exact Reads.nil _
 | .sl e k,base,ls,x,rest,hd,bo,rds,h=>by
  cases ls with
  | nil=>simp [gv] at h
  | cons l ls=>
   cases l<;>simp only [gv] at h<;>try (cases h;done)
   ·injection h with h;injection h with _ h;injection h with _ h;injection h with _ h;injection h with _ h;subst h;exact Reads.nil _
   ·split at h
    ·rename_i row hrow;split at h
     ·injection h with h;injection h with _ h;injection h with _ h;injection h with _ h;injection h with _ h;subst h
      intro p hp;rw [A6.1 hp];exact St.getR_some.1 hrow
     ·cases h
    ·cases h
 | .pa n k,base,ls,x,rest,hd,bo,rds,h=>by
  cases ls with
  | nil=>simp [gv] at h
  | cons l ls=>
   cases l<;>simp only [gv] at h<;>try (cases h;done)
   ·split at h
    ·injection h with h;injection h with _ h;injection h with _ h;injection h with _ h;injection h with _ h;subst h;exact Reads.nil _
    ·cases h
   ·split at h
    ·rename_i row hrow;split at h
     ·injection h with h;injection h with _ h;injection h with _ h;injection h with _ h;injection h with _ h;subst h
      intro p hp;rw [A6.1 hp];exact St.getR_some.1 hrow
     ·cases h
    ·cases h
 | .rs e k,base,ls,x,rest,hd,bo,rds,h=>by
  cases ls with
  | nil=>simp [gv] at h
  | cons l ls=>
   simp only [gv] at h;split at h
   ·rename_i xs rds' hc;injection h with h;injection h with _ h;injection h with _ h;injection h with _ h;injection h with _ h;subst h
    exact C14 hc
   ·cases h
 | .pair a b,base,ls,x,rest,hd,bo,rds,h=>by
  simp only [gv] at h;split at h
  ·rename_i x1 r1 h1 b1 d1 e1;split at h
   ·rename_i x2 r2 h2 b2 d2 e2;injection h with h;injection h with _ h;injection h with _ h;injection h with _ h;injection h with _ h;subst h
    exact Reads.app.2 ⟨A5L e1,A5L e2⟩
   ·cases h
  ·cases h
structure CalOk (m:Mem) (Z':Col) (hd:List Hd) (bo:List Nat):Prop where
 hd:∀ h∈hd,∀ p,Moves m.w m.w m.Z Z' (2*h.id::p) (2*h.r::p)
 bo:∀ id∈bo,Frees m.w m.w m.Z Z' [2*id]
theorem CalOk.left{m:Mem}{Z':Col}{h1 h2:List Hd}{b1 b2:List Nat}(h:CalOk m Z' (h1++h2) (b1++b2)):CalOk m Z' h1 b1:=
 ⟨fun x hx=>h.hd x (E2 _ hx),fun x hx=>h.bo x (E2 _ hx)⟩
theorem CalOk.right{m:Mem}{Z':Col}{h1 h2:List Hd}{b1 b2:List Nat}(h:CalOk m Z' (h1++h2) (b1++b2)):CalOk m Z' h2 b2:=
 ⟨fun x hx=>h.hd x (D3 _ hx),fun x hx=>h.bo x (D3 _ hx)⟩
theorem B5M{cfg:Cfg}{s s':St}{kp:Bool}{n:Nat}{w0:World}{Z0:Gh}{a:Act}{m:Mem}(hr:Rel n w0 Z0 s' a m){Z':Col}(hk:Keeps m.w m.w m.Z Z') :
  ∀ {k:K} {base:Nat} {ls:List Lf} {x:k.T} {rest:List Lf} {hd:List Hd} {bo:List Nat} {rds:Rds},gv cfg s kp base k ls=some (x,rest,hd,bo,rds)->Reads s' rds->CalOk m Z' hd bo->∀ {vs:List Value},All2 (LfC s' m) ls vs->
   ∃ v0 v1,vs=v0++v1/\LvC m.w Z' base k x v0/\All2 (LfC s' m) rest v1
 | .int U,base,ls,x,rest,hd,bo,rds,h,hrd,hc,vs,hv=>by
  cases ls with
  | nil=>simp [gv] at h
  | cons l ls=>
   cases vs with
   | nil=>exact hv.elim
   | cons v vs=>
    cases l<;>simp only [gv] at h<;>try (cases h;done)
    split at h
    ·rename_i he;have he:=A8 he;subst he;injection h with h;injection h with h1 h;injection h with h2 h;subst h1;subst h2
     exact ⟨[v],vs,rfl,by have:=hv.1;simp only [LfC] at this;subst this;rfl,hv.2⟩
    ·cases h
 | .fnc f,base,ls,x,rest,hd,bo,rds,h,hrd,hc,vs,hv=>by
  cases ls with
  | nil=>simp [gv] at h
  | cons l ls=>
   cases vs with
   | nil=>exact hv.elim
   | cons v vs=>
    cases l<;>simp only [gv] at h<;>try (cases h;done)
    split at h
    ·rename_i he;have he:=A0 he;subst he;injection h with h;injection h with h1 h;injection h with h2 h;subst h1;subst h2
     exact ⟨[v],vs,rfl,by have:=hv.1;simp only [LfC] at this;subst this;rfl,hv.2⟩
    ·cases h
 | .bool,base,ls,x,rest,hd,bo,rds,h,hrd,hc,vs,hv=>by
  cases ls with
  | nil=>simp [gv] at h
  | cons l ls=>
   cases vs with
   | nil=>exact hv.elim
   | cons v vs=>
    cases l<;>simp only [gv] at h<;>try (cases h;done)
    injection h with h;injection h with h1 h;injection h with h2 h;subst h1;subst h2
    exact ⟨[v],vs,rfl,by have:=hv.1;simp only [LfC] at this;subst this;rfl,hv.2⟩
 | .str,base,ls,x,rest,hd,bo,rds,h,hrd,hc,vs,hv=>by
  cases ls with
  | nil=>simp [gv] at h
  | cons l ls=>
   cases vs with
   | nil=>exact hv.elim
   | cons v vs=>
    cases l<;>simp only [gv] at h<;>try (cases h;done)
    injection h with h;injection h with h1 h;injection h with h2 h;subst h1;subst h2
    exact ⟨[v],vs,rfl,by have:=hv.1;simp only [LfC] at this;subst this;rfl,hv.2⟩
 | .sl e k,base,ls,x,rest,hd,bo,rds,h,hrd,hc,vs,hv=>by
  cases ls with
  | nil=>simp [gv] at h
  | cons l ls=>
   cases vs with
   | nil=>exact hv.elim
   | cons v vs=>
    cases l<;>simp only [gv] at h<;>try (cases h;done)
    ·injection h with h;injection h with h1 h;injection h with h2 h;subst h1;subst h2
     refine ⟨[v],vs,rfl,⟨v,rfl,?_⟩,hv.2⟩;have:=hv.1;simp only [LfC] at this;subst this;exact ⟨[],A3M _ _ _ _,fun g hg=>by simp [Value.ownBlock] at hg,fun i h=>by simp at h⟩
    ·split at h
     ·rename_i id _ row hrow;split at h
      ·rename_i xs hb hcast;injection h with h;injection h with h1 h;injection h with h2 h;injection h with h3 h;injection h with h4 h5;subst h1;subst h2;subst h3;subst h4;subst h5
       refine ⟨[v],vs,rfl,⟨v,rfl,?_⟩,hv.2⟩;have hg:=hrd (.r id,.r row) (by simp);rw [hv.1.2 row hg];have hm:=hc.hd ⟨id,base,row,kp⟩ (by simp) [];have:=(hr.rw id row hg).move hm hk;have hb:=A0 hb;obtain ⟨ek,rfl⟩:=S5 hcast;subst hb;subst ek;exact this
      ·cases h
     ·cases h
 | .pa n k,base,ls,x,rest,hd,bo,rds,h,hrd,hc,vs,hv=>by
  cases ls with
  | nil=>simp [gv] at h
  | cons l ls=>
   cases vs with
   | nil=>exact hv.elim
   | cons v vs=>
    cases l<;>simp only [gv] at h<;>try (cases h;done)
    ·rename_i n' k' xs;split at h
     ·rename_i ys hn hcast;have hn:=A0 hn;subst hn;injection h with h;injection h with h1 h;injection h with h2 h;subst h1;subst h2
      have hro:Ro (.pa n k') m.w m.Z xs [v]:=hv.1;refine ⟨[v],vs,rfl,Ro.keep (k:=.pa n k) (Ro.sim (k:=.pa n k') (k':=.pa n k) ?_ (S6 hcast).2 hro) hk,hv.2⟩;simp only [K.sim,B3];exact ⟨by simp,(S6 hcast).1⟩
     ·cases h
    ·rename_i n' id;split at h
     ·rename_i row hrow;split at h
      ·rename_i xs hn hcast;simp only [B3] at hn;have hn1:=A0 hn.1;have hn2:=D5 hn.2;subst hn1;injection h with h;injection h with h1 h;injection h with h2 h;injection h with h3 h;injection h with h4 h5;subst h1;subst h2;subst h3;subst h4;subst h5
       have hg:=hrd (.r id,.r row) (by simp);obtain ⟨hlen,hvv⟩:=hv.1.2 row hg;have hfree:Ro (.rs row.e row.k) m.w Z' row.xs [m.ρ id]:=(hr.rw id row hg).toFree (hc.bo id (by simp)) hk;have hpa:=Ro.ofSl hfree (by omega);rw [hlen] at hpa;refine ⟨[v],vs,rfl,?_,hv.2⟩;rw [hvv];refine Ro.sim (k:=.pa n row.k) (k':=.pa n k) ?_ (S6 hcast).2 hpa;simp only [K.sim,B3];exact ⟨by simp,(S6 hcast).1⟩
      ·cases h
     ·cases h
 | .rs e k,base,ls,x,rest,hd,bo,rds,h,hrd,hc,vs,hv=>by
  cases ls with
  | nil=>simp [gv] at h
  | cons l ls=>
   cases vs with
   | nil=>exact hv.elim
   | cons v vs=>
    simp only [gv] at h;split at h
    ·rename_i xs rds' hcont;injection h with h;injection h with h1 h;injection h with h2 h;injection h with h3 h;injection h with h4 h5;subst h1;subst h2;subst h3;subst h4;subst h5
     exact ⟨[v],vs,rfl,C77 hcont hr hrd hv.1 hk hc.bo,hv.2⟩
    ·cases h
 | .pair a b,base,ls,x,rest,hd,bo,rds,h,hrd,hc,vs,hv=>by
  simp only [gv] at h;split at h
  ·rename_i x1 r1 h1 b1 d1 e1;split at h
   ·rename_i x2 r2 h2 b2 d2 e2;injection h with h;injection h with h3 h;injection h with h4 h;injection h with h5 h;injection h with h6 h7;subst h3;subst h4;subst h5;subst h6;subst h7
    obtain ⟨hrd1,hrd2⟩:=Reads.app.1 hrd;obtain ⟨v0,v1,rfl,hl,hrest⟩:=B5M hr hk e1 hrd1 hc.left hv;obtain ⟨v2,v3,rfl,hl2,hrest2⟩:=B5M hr hk e2 hrd2 hc.right hrest;exact ⟨v0++v2,v3,by rw [A7],⟨v0,v2,rfl,hl,hl2⟩,hrest2⟩
   ·cases h
  ·cases h
structure Bx where
 b:Nat
 off:Nat
 sz:Nat
 i:Nat
def avG:Bool->K->AV->Option (List Lf)
 | true,_,.agg ls=>some ls
 | false,k,.one l=>match Nat.beq k.sz 1 with
  | true=>some [l]
  | false=>none
 | _,_,_=>none
theorem C2u{g:Bool}{k:K}{v:AV}{ls:List Lf}(h:avG g k v=some ls){s:St}{m:Mem}{x:Value}(hv:AVC s m v x):∃ cs,x=toV g cs/\All2 (LfC s m) ls cs/\(g=true\/k.sz=1):=by
 unfold avG at h;split at h
 ·injection h with h;subst h
  obtain ⟨cs,rfl,hc⟩:=hv;exact ⟨cs,rfl,hc,.inl rfl⟩
 ·split at h
  ·rename_i hb;injection h with h;subst h
   exact ⟨[x],rfl,⟨hv,trivial⟩,.inr (A0 hb)⟩
  ·cases h
 ·cases h
def C78:AV->Option (Nat×Nat)
 | .one (.ptr b off)=>some (b,off)
 | _=>none
theorem C79{v:AV}{b off:Nat}(h:C78 v=some (b,off)):v=.one (.ptr b off):=by
 unfold C78 at h;split at h
 ·injection h with h;injection h with h1 h2;subst h1;subst h2;rfl
 ·cases h
def A15(cfg:Cfg)(s:St):Nat->(ps:List PK)->List AV->Option (Ts (ins ps)×List Hd×List Nat×List Bx×Rds)
 | _,[],[]=>some ((),[],[],[],[])
 | i,.val g k kp::ps,v::vs=>match avG g k v with
  | some ls=>match gv cfg s kp (pR i) k ls with
   | some (x,[],hd,bo,rds)=>match A15 cfg s (i+1) ps vs with
    | some (y,hd',bo',bx,rds')=>some ((x,y),hd++hd',bo++bo',bx,rds++rds')
    | none=>none
   | _=>none
  | none=>none
 | i,.ptr k::ps,v::vs=>match C78 v with
  | some (b,off)=>match s.getB b with
   | some c=>match gv cfg s false (pR i) k ((c.drop off).take k.sz) with
    | some (x,[],hd,bo,rds)=>match A15 cfg s (i+1) ps vs with
     | some (y,hd',bo',bx,rds')=>some ((x,y),hd++hd',bo++bo',⟨b,off,k.sz,i⟩::bx,((.b b,.b c)::rds)++rds')
     | none=>none
    | _=>none
   | none=>none
  | none=>none
 | _,_,_=>none
theorem B0u{cfg:Cfg}{s:St}:∀ {ps:List PK} {i:Nat} {vs:List AV} {x:Ts (ins ps)} {hd:List Hd} {bo:List Nat} {bx:List Bx} {rds:Rds},A15 cfg s i ps vs=some (x,hd,bo,bx,rds)->Reads s rds
 | [],i,vs,x,hd,bo,bx,rds,h=>by
  cases vs with
  | nil=>simp only [A15] at h;injection h with h;injection h with _ h;injection h with _ h;injection h with _ h;injection h with _ h;subst h;exact Reads.nil _
  | cons _ _=>simp [A15] at h
 | .val g k kp::ps,i,vs,x,hd,bo,bx,rds,h=>by
  cases vs with
  | nil=>simp [A15] at h
  | cons v vs=>
   simp only [A15] at h;split at h
   ·split at h
    ·rename_i e1;split at h
     ·rename_i e2;injection h with h;injection h with _ h;injection h with _ h;injection h with _ h;injection h with _ h;subst h
      exact Reads.app.2 ⟨A5L e1,B0u e2⟩
     ·cases h
    ·cases h
   ·cases h
 | .ptr k::ps,i,vs,x,hd,bo,bx,rds,h=>by
  cases vs with
  | nil=>simp [A15] at h
  | cons v vs=>
   simp only [A15] at h;split at h
   ·rename_i b off epv;split at h
    ·rename_i c hc;split at h
     ·rename_i e1;split at h
      ·rename_i e2;injection h with h;injection h with _ h;injection h with _ h;injection h with _ h;injection h with _ h;subst h
       refine Reads.app.2 ⟨fun p hp=>?_,B0u e2⟩;rcases B4.1 hp with rfl | hp
       ·exact St.getB_some.1 hc
       ·exact A5L e1 p hp
      ·cases h
     ·cases h
    ·cases h
   ·cases h
def A1R(w:World)(g:Nat):List Value:=match w.heap[g]? with
 | some (.cells a _ _)=>a.toList
 | _=> []
def C2v(m:Mem)(x:Bx):Plc:=
 ⟨(m.β x.b).g,(m.β x.b).t,(A1R m.w (m.β x.b).g).take ((m.β x.b).pre.length+x.off),(A1R m.w (m.β x.b).g).drop ((m.β x.b).pre.length+x.off+x.sz)⟩
theorem C4J{m:Mem}{x:Bx}{cs:List Value}{ty:TypeId}(hg:m.w.heap[(m.β x.b).g]? = some (.cells ((m.β x.b).pre++cs++(m.β x.b).post).toArray ty (0,0)))(h:x.off+x.sz<=cs.length) :
  C2v m x=⟨(m.β x.b).g,(m.β x.b).t,(m.β x.b).pre++cs.take x.off,cs.drop (x.off+x.sz)++(m.β x.b).post⟩:=by
 have hc:A1R m.w (m.β x.b).g=(m.β x.b).pre++cs++(m.β x.b).post:=by simp only [A1R,hg]
 unfold C2v;rw [hc]
 congr 1
 ·rw [A7,List.take_length_add_append,F2 (by omega)]
 ·rw [A7,L9,List.drop_length_add_append,J3 (by omega)]
theorem B70{cfg:Cfg}{s s':St}{n:Nat}{w0:World}{Z0:Gh}{a:Act}{m:Mem}(hr:Rel n w0 Z0 s' a m){Z':Col}(hk:Keeps m.w m.w m.Z Z'){pls:Nat->Plc} :
  ∀ {ps:List PK} {i:Nat} {vs:List AV} {x:Ts (ins ps)} {hd:List Hd} {bo:List Nat} {bx:List Bx} {rds:Rds},A15 cfg s i ps vs=some (x,hd,bo,bx,rds)->Reads s' rds->CalOk m Z' hd bo->
   (∀ y∈bx,Moves m.w m.w m.Z Z' [2*y.b+1] [2*pB y.i+1])->(∀ y∈bx,pls y.i=C2v m y)->∀ {vals:List Value},All2 (AVC s' m) vs vals->ArgsC m.w Z' pls i ps x vals
 | [],i,vs,x,hd,bo,bx,rds,h,hrd,hc,hbx,hpl,vals,hv=>by
  cases vs with
  | nil=>cases vals with
   | nil=>exact ⟨rfl,hr.gi.keep hk⟩
   | cons _ _=>exact hv.elim
  | cons _ _=>simp [A15] at h
 | .val g k kp::ps,i,vs,x,hd,bo,bx,rds,h,hrd,hc,hbx,hpl,vals,hv=>by
  cases vs with
  | nil=>simp [A15] at h
  | cons v vs=>
   cases vals with
   | nil=>exact hv.elim
   | cons u vals=>
    simp only [A15] at h;split at h
    ·rename_i ls els;split at h
     ·rename_i e1;split at h
      ·rename_i e2;injection h with h;injection h with h1 h;injection h with h2 h;injection h with h3 h;injection h with h4 h5;subst h1;subst h2;subst h3;subst h4;subst h5
       obtain ⟨hrd1,hrd2⟩:=Reads.app.1 hrd;obtain ⟨cs,rfl,hcs,hg⟩:=C2u els hv.1;obtain ⟨v0,v1,rfl,hl,hrest⟩:=B5M hr hk e1 hrd1 hc.left hcs;have:v1 = []:=by cases v1 with
        | nil=>rfl
        | cons _ _=>exact hrest.elim
       subst this;rw [F4];exact ⟨v0,vals,rfl,hl,hg,B70 hr hk e2 hrd2 hc.right hbx hpl hv.2⟩
      ·cases h
     ·cases h
    ·cases h
 | .ptr k::ps,i,vs,x,hd,bo,bx,rds,h,hrd,hc,hbx,hpl,vals,hv=>by
  cases vs with
  | nil=>simp [A15] at h
  | cons v vs=>
   cases vals with
   | nil=>exact hv.elim
   | cons u vals=>
    simp only [A15] at h;split at h
    ·rename_i b off epv;split at h
     ·rename_i c hcb;split at h
      ·rename_i e1;split at h
       ·rename_i e2;injection h with h;injection h with h1 h;injection h with h2 h;injection h with h3 h;injection h with h4 h5;subst h1;subst h2;subst h3;subst h4;subst h5
        obtain ⟨hrd1,hrd2⟩:=Reads.app.1 hrd;have hgb:=hrd1 (.b b,.b c) A5;obtain ⟨cs,hcs,hone,hcol,hg⟩:=hr.bx b c hgb;have hp:=(C79 epv▸hv.1:AVC s' m (.one (.ptr b off)) u).2 c hgb;obtain ⟨v0,v1,ev,hl,hrest⟩:=B5M hr hk e1 (fun p hp=>hrd1 p (B5 _ hp)) hc.left (All2.take k.sz (All2.drop off hcs));have:v1 = []:=by cases v1 with
         | nil=>rfl
         | cons _ _=>exact hrest.elim
        subst this;rw [F4] at ev;have hlen:=hl.len;rw [<- ev,B2,C5] at hlen;have hpos:=k.sz_pos;have hfit:off+k.sz<=cs.length:=by omega
        have hpi:=hpl ⟨b,off,k.sz,i⟩ A5;have hpe:=C4J (m:=m) (x:=⟨b,off,k.sz,i⟩) (cs:=cs) hg hfit;simp only at hpi;rw [hpe] at hpi;refine ⟨v0,vals,?_,⟨?_,?_⟩,hl,B70 hr hk e2 hrd2 hc.right (fun y hy=>hbx y (B5 _ hy)) (fun y hy=>hpl y (B5 _ hy)) hv.2⟩
        ·rw [hp,hpi];simp only [A3,B2];rw [show min off cs.length=off by omega]
        ·rw [hpi];simp only;rw [hg,<- ev]
         congr 2
         simp only [A7]
         congr 2
         rw [<- A7 (List.take k.sz _),<- L6,M2,<- A7,M2]
        ·rw [hpi];have hlt:(m.β b).g<m.w.heap.size:=(A9.1 hg).1;exact (hbx ⟨b,off,k.sz,i⟩ A5 (m.β b).g [] hcol hlt).2
       ·cases h
      ·cases h
     ·cases h
    ·cases h
def K.noRs:K->Bool
 | .rs _ _=>false
 | .pa _ _=>false
 | .sl _ k=>k.noRs
 | .pair a b=>a.noRs&&b.noRs
 | _=>true
theorem Ow.moveN:∀ {k:K} {w w':World} {Z Z':Col} {p p':H9} {x:k.T} {cs:List Value},k.noRs=true->Ow k w Z p x cs->Moves w w' Z Z' p p'->Ow k w' Z' p' x cs
 | .int _,_,_,_,_,_,_,_,_,_,h,_=>h
 | .bool,_,_,_,_,_,_,_,_,_,h,_=>h
 | .fnc _,_,_,_,_,_,_,_,_,_,h,_=>h
 | .str,_,_,_,_,_,_,_,_,_,h,_=>h
 | .rs _ k,_,_,_,_,_,_,_,_,hn,_,_=>by simp [K.noRs] at hn
 | .pa _ k,_,_,_,_,_,_,_,_,hn,_,_=>by simp [K.noRs] at hn
 | .sl e k,w,w',Z,Z',p,p',xs,cs,hn,h,hm=>by
  obtain ⟨v,rfl,inner,ho,hc,hi⟩:=h;refine ⟨v,rfl,inner,A8k ho fun g hg=>?_,fun g hg=>?_,fun i h=>Ow.moveN (by simpa [K.noRs] using hn) (hi i h) (hm.sub [i])⟩
  ·exact (hm g [] (by rw [F4];exact hc g hg) (A1P ho hg)).1
  ·have:=(hm g [] (by rw [F4];exact hc g hg) (A1P ho hg)).2
   rwa [F4] at this
 | .pair _ _,_,_,_,_,_,_,_,_,hn,h,hm=>by
  simp only [K.noRs,B3] at hn;obtain ⟨c0,c1,rfl,h0,h1⟩:=h;exact ⟨c0,c1,rfl,Ow.moveN hn.1 h0 (hm.sub [0]),Ow.moveN hn.2 h1 (hm.sub [1])⟩
def Back(k:K)(w:World)(Z Z':Col):Prop:=k.noRs=true\/Keeps w w Z Z'
theorem Back.left{a b:K}{w:World}{Z Z':Col}(h:Back (.pair a b) w Z Z'):Back a w Z Z':=h.imp (fun h=>by simp only [K.noRs,B3] at h;exact h.1) id
theorem Back.right{a b:K}{w:World}{Z Z':Col}(h:Back (.pair a b) w Z Z'):Back b w Z Z':=h.imp (fun h=>by simp only [K.noRs,B3] at h;exact h.2) id
theorem OwL.back{k:K}{e:Nat}{w:World}{Z Z':Col}{p p':H9}{xs:List k.T}{v:Value}(h:OwL (Ow k w Z) e k.sz w Z p xs v)(hb:Back (.sl e k) w Z Z')(hm:Moves w w Z Z' p p') :
  OwL (Ow k w Z') e k.sz w Z' p' xs v:=by
 have h':Ow (.sl e k) w Z p xs [v]:=⟨v,rfl,h⟩;have:Ow (.sl e k) w Z' p' xs [v]:=hb.elim (fun hn=>Ow.moveN hn h' hm) (fun hk=>Ow.move h' hm hk);obtain ⟨v',e',h''⟩:=this;injection e' with e' _
 rw [e'];exact h''
def N2:K->Nat->Option (Nat×K)
 | .sl e k,0=>some (e,k)
 | .pair a b,j=>match Nat.blt j a.sz with
  | true=>N2 a j
  | false=>N2 b (j-a.sz)
 | _,_=>none
theorem A6f{a b:K}{j:Nat}(h:j<a.sz):N2 (.pair a b) j=N2 a j:=by simp only [N2,A0S.2 h]
theorem A5M{a b:K}{j:Nat}:N2 (.pair a b) (a.sz+j)=N2 b j:=by
 have:Nat.blt (a.sz+j) a.sz=false:=B1w.2 (by omega);simp only [N2,this,M7]
def U9:Nat->(k:K)->k.T->List (Nat×Row)
 | nb,.sl e k,xs=> [(nb,⟨e,k,xs,0⟩)]
 | nb,.pair a b,x=>U9 nb a x.1++U9 (nb+a.sz) b x.2
 | _,_,_=> []
theorem B28{w:World}{Z:Col}:∀ {k:K} {base nb:Nat} {x:k.T} {cs:List Value},LvC w Z base k x cs->∀ c row,(c,row)∈U9 nb k x->
  ∃ j v,c=nb+j/\j<k.sz/\cs[j]? = some v/\N2 k j=some (row.e,row.k)/\OwL (Ow row.k w Z) row.e row.k.sz w Z [2*(base+j)] row.xs v
 | .int _,_,_,_,_,_,_,_,hm=>by simp [U9] at hm
 | .bool,_,_,_,_,_,_,_,hm=>by simp [U9] at hm
 | .fnc _,_,_,_,_,_,_,_,hm=>by simp [U9] at hm
 | .str,_,_,_,_,_,_,_,hm=>by simp [U9] at hm
 | .rs _ _,_,_,_,_,_,_,_,hm=>by simp [U9] at hm
 | .pa _ _,_,_,_,_,_,_,_,hm=>by simp [U9] at hm
 | .sl e k,base,nb,xs,cs,h,c,row,hm=>by
  obtain ⟨v,rfl,h⟩:=h;simp only [U9,A6] at hm;injection hm with h1 h2;subst h1;subst h2
  exact ⟨0,v,rfl,T7,rfl,rfl,h⟩
 | .pair a b,base,nb,x,cs,h,c,row,hm=>by
  obtain ⟨c0,c1,rfl,h0,h1⟩:=h;simp only [U9] at hm;rcases C9.1 hm with hm | hm
  ·obtain ⟨j,v,e1,e2,e3,e4,e5⟩:=B28 h0 c row hm;refine ⟨j,v,e1,by simp only [K.sz];omega,?_,by rw [A6f e2];exact e4,e5⟩;rw [E3 (by rw [h0.len];exact e2)];exact e3
  ·obtain ⟨j,v,e1,e2,e3,e4,e5⟩:=B28 h1 c row hm;refine ⟨a.sz+j,v,by omega,by simp only [K.sz];omega,?_,by rw [A5M];exact e4,by rw [<- L9];exact e5⟩;rw [E5 (by rw [h0.len];omega),h0.len,M7];exact e3
theorem B0v{w:World}{Z:Col}{s1:St}{m1:Mem}(hw:m1.w=w):∀ {k:K} {base nb:Nat} {x:k.T} {cs:List Value},LvC w Z base k x cs->Back k w Z m1.Z->
  (∀ j v,cs[j]? = some v->(N2 k j).isSome=true->LfC s1 m1 (.own (nb+j)) v)->All2 (LfC s1 m1) (leaves k x Lf.own nb) cs
 | .int _,_,_,_,_,h,_,_=>by simp only [LvC] at h;subst h;exact ⟨rfl,trivial⟩
 | .bool,_,_,_,_,h,_,_=>by simp only [LvC] at h;subst h;exact ⟨rfl,trivial⟩
 | .fnc _,_,_,_,_,h,_,_=>by simp only [LvC] at h;subst h;exact ⟨rfl,trivial⟩
 | .str,_,_,_,_,h,_,_=>by simp only [LvC] at h;subst h;exact ⟨rfl,trivial⟩
 | .pa n k,base,nb,xs,cs,h,hb,_=>by
  have hk:Keeps w w Z m1.Z:=hb.resolve_left (by simp [K.noRs]);have h':Ro (.pa n k) w Z xs cs:=h;have h2:=h'.keep hk;rcases h with ⟨rfl,rfl⟩ | ⟨A,rfl,_⟩
  ·exact ⟨.inl ⟨rfl,rfl⟩,trivial⟩
  ·refine ⟨?_,trivial⟩;show Ro (.pa n k) m1.w m1.Z xs _;rw [hw];exact h2
 | .rs e k,base,nb,xs,cs,h,hb,_=>by
  have hk:Keeps w w Z m1.Z:=hb.resolve_left (by simp [K.noRs]);have h':Ro (.rs e k) w Z xs cs:=h;have h2:=h'.keep hk;obtain ⟨A,c,rfl,_⟩:=h;refine ⟨?_,trivial⟩;show Ro (.rs e k) m1.w m1.Z xs _;rw [hw];exact h2
 | .sl e k,base,nb,xs,cs,h,_,hm=>by
  obtain ⟨v,rfl,h⟩:=h;exact ⟨hm 0 v rfl rfl,trivial⟩
 | .pair a b,base,nb,x,cs,h,hb,hm=>by
  obtain ⟨c0,c1,rfl,h0,h1⟩:=h;refine All2.app (B0v hw h0 hb.left fun j v hv hl=>?_) (B0v hw h1 hb.right fun j v hv hl=>?_)
  ·have hj:j<a.sz:=by rw [<- h0.len];exact (C3.1 hv).1
   refine hm j v ?_ (by rw [A6f hj];exact hl);rw [E3 (by rw [h0.len];exact hj)];exact hv
  ·rw [L9];refine hm (a.sz+j) v ?_ (by rw [A5M];exact hl);rw [E5 (by rw [h0.len];omega),h0.len,M7];exact hv
theorem B3e{cfg:Cfg}{s s':St}{kp:Bool}{n:Nat}{w0:World}{Z0:Gh}{a:Act}{m:Mem}(hr:Rel n w0 Z0 s' a m) :
  ∀ {k:K} {base:Nat} {ls:List Lf} {x:k.T} {rest:List Lf} {hd:List Hd} {bo:List Nat} {rds:Rds},gv cfg s kp base k ls=some (x,rest,hd,bo,rds)->Reads s' rds->∀ {vs:List Value},All2 (LfC s' m) ls vs->
   ls.length=k.sz+rest.length/\(∃ v0 v1,vs=v0++v1/\v0.length=k.sz/\All2 (LfC s' m) rest v1)/\
   ∀ h∈hd,∃ j,h.r=base+j/\j<k.sz/\vs[j]? = some (m.ρ h.id)/\N2 k j=some (h.row.e,h.row.k)/\s'.get (.r h.id)=some (.r h.row)/\h.kp=kp
 | .int U,base,ls,x,rest,hd,bo,rds,h,hrd,vs,hv=>by
  cases ls with
  | nil=>simp [gv] at h
  | cons l ls=>
   cases vs with
   | nil=>exact hv.elim
   | cons v vs=>
    cases l<;>simp only [gv] at h<;>try (cases h;done)
    split at h
    ·injection h with h;injection h with h1 h;injection h with h2 h;injection h with h3 h;subst h2;subst h3
     exact ⟨by simp [K.sz];omega,⟨[v],vs,rfl,rfl,hv.2⟩,fun h hh=>nomatch hh⟩
    ·cases h
 | .fnc f,base,ls,x,rest,hd,bo,rds,h,hrd,vs,hv=>by
  cases ls with
  | nil=>simp [gv] at h
  | cons l ls=>
   cases vs with
   | nil=>exact hv.elim
   | cons v vs=>
    cases l<;>simp only [gv] at h<;>try (cases h;done)
    split at h
    ·injection h with h;injection h with h1 h;injection h with h2 h;injection h with h3 h;subst h2;subst h3
     exact ⟨by simp [K.sz];omega,⟨[v],vs,rfl,rfl,hv.2⟩,fun h hh=>nomatch hh⟩
    ·cases h
 | .bool,base,ls,x,rest,hd,bo,rds,h,hrd,vs,hv=>by
  cases ls with
  | nil=>simp [gv] at h
  | cons l ls=>
   cases vs with
   | nil=>exact hv.elim
   | cons v vs=>
    cases l<;>simp only [gv] at h<;>try (cases h;done)
    injection h with h;injection h with h1 h;injection h with h2 h;injection h with h3 h;subst h2;subst h3
    exact ⟨by simp [K.sz];omega,⟨[v],vs,rfl,rfl,hv.2⟩,fun h hh=>nomatch hh⟩
 | .str,base,ls,x,rest,hd,bo,rds,h,hrd,vs,hv=>by
  cases ls with
  | nil=>simp [gv] at h
  | cons l ls=>
   cases vs with
   | nil=>exact hv.elim
   | cons v vs=>
    cases l<;>simp only [gv] at h<;>try (cases h;done)
    injection h with h;injection h with h1 h;injection h with h2 h;injection h with h3 h;subst h2;subst h3
    exact ⟨by simp [K.sz];omega,⟨[v],vs,rfl,rfl,hv.2⟩,fun h hh=>nomatch hh⟩
 | .sl e k,base,ls,x,rest,hd,bo,rds,h,hrd,vs,hv=>by
  cases ls with
  | nil=>simp [gv] at h
  | cons l ls=>
   cases vs with
   | nil=>exact hv.elim
   | cons v vs=>
    cases l<;>simp only [gv] at h<;>try (cases h;done)
    ·injection h with h;injection h with h1 h;injection h with h2 h;injection h with h3 h;subst h2;subst h3
     exact ⟨by simp [K.sz];omega,⟨[v],vs,rfl,rfl,hv.2⟩,fun h hh=>nomatch hh⟩
    ·split at h
     ·rename_i id _ row hrow;split at h
      ·rename_i xs hb hcast;injection h with h;injection h with h1 h;injection h with h2 h;injection h with h3 h;injection h with h4 h5;subst h1;subst h2;subst h3;subst h4;subst h5
       refine ⟨by simp [K.sz];omega,⟨[v],vs,rfl,rfl,hv.2⟩,fun h hh=>?_⟩;rw [A6.1 hh];have hg:=hrd (.r id,.r row) (by simp);refine ⟨0,rfl,T7,by simp [hv.1.2 row hg],?_,hg,rfl⟩;have hb:=A0 hb;obtain ⟨ek,_⟩:=S5 hcast;simp only [N2,hb,ek]
      ·cases h
     ·cases h
 | .pa n k,base,ls,x,rest,hd,bo,rds,h,hrd,vs,hv=>by
  cases ls with
  | nil=>simp [gv] at h
  | cons l ls=>
   cases vs with
   | nil=>exact hv.elim
   | cons v vs=>
    cases l<;>simp only [gv] at h<;>try (cases h;done)
    ·split at h
     ·injection h with h;injection h with h1 h;injection h with h2 h;injection h with h3 h;subst h2;subst h3
      exact ⟨by simp [K.sz];omega,⟨[v],vs,rfl,rfl,hv.2⟩,fun h hh=>nomatch hh⟩
     ·cases h
    ·split at h
     ·split at h
      ·injection h with h;injection h with h1 h;injection h with h2 h;injection h with h3 h;subst h2;subst h3
       exact ⟨by simp [K.sz];omega,⟨[v],vs,rfl,rfl,hv.2⟩,fun h hh=>nomatch hh⟩
      ·cases h
     ·cases h
 | .rs e k,base,ls,x,rest,hd,bo,rds,h,hrd,vs,hv=>by
  cases ls with
  | nil=>simp [gv] at h
  | cons l ls=>
   cases vs with
   | nil=>exact hv.elim
   | cons v vs=>
    simp only [gv] at h;split at h
    ·injection h with h;injection h with h1 h;injection h with h2 h;injection h with h3 h;subst h2;subst h3
     exact ⟨by simp [K.sz];omega,⟨[v],vs,rfl,rfl,hv.2⟩,fun h hh=>nomatch hh⟩
    ·cases h
 | .pair a b,base,ls,x,rest,hd,bo,rds,h,hrd,vs,hv=>by
  simp only [gv] at h;split at h
  ·rename_i x1 r1 h1 b1 d1 e1;split at h
   ·rename_i x2 r2 h2 b2 d2 e2;injection h with h;injection h with h3 h;injection h with h4 h;injection h with h5 h;injection h with h6 h7;subst h3;subst h4;subst h5;subst h6;subst h7
    obtain ⟨hrd1,hrd2⟩:=Reads.app.1 hrd;obtain ⟨l1,⟨v0,v1,ev,hl0,hrest⟩,g1⟩:=B3e hr e1 hrd1 hv;obtain ⟨l2,⟨v2,v3,ev2,hl2,hrest2⟩,g2⟩:=B3e hr e2 hrd2 hrest;subst ev2;subst ev;refine ⟨by simp only [K.sz];omega,⟨v0++v2,v3,by rw [A7],by simp [K.sz];omega,hrest2⟩,fun h hh=>?_⟩;rcases C9.1 hh with hh | hh
    ·obtain ⟨j,f1,f2,f3,f4,f5⟩:=g1 h hh;exact ⟨j,f1,by simp only [K.sz];omega,f3,by rw [A6f f2];exact f4,f5⟩
    ·obtain ⟨j,f1,f2,f3,f4,f5⟩:=g2 h hh;refine ⟨a.sz+j,by omega,by simp only [K.sz];omega,?_,by rw [A5M];exact f4,f5⟩;rw [E5 (by omega),hl0,M7];exact f3
   ·cases h
  ·cases h
end Go.Proofs.YthnfghmjipikhaaGreatDoor.Ev
