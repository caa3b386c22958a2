/- Kinds of data, what a state of the evaluator says of a machine, and the operations on numbers, rows and variables. -/
import Derived.Test.YthnfghmjipikhaaGreatDoorEvO
import Derived.Laws.AppendOwn
import Derived.Laws.AppendOwnNone
import Derived.Laws.OwnMore
import Derived.Laws.MakeOwn
import Derived.Laws.BytesArg
import Derived.Laws.Rows
import Derived.KernelRfl
import Derived.Lib.LaidTab
import Derived.Lib.ItoaNum
import Derived.Lib.Split
import Derived.Lib.Atoi
import Derived.Lib.Strings
import Derived.Test.YthnfghmjipikhaaGreatDoorProg
import Derived.WalkKit
import Derived.Laws.StructEq
import Derived.RangeFuncSeq
import Derived.RangeFuncCalls
import Derived.Great.BuildSlice
set_option linter.unusedVariables false
set_option linter.unusedSimpArgs false
set_option linter.defProp false
namespace Go.Proofs.YthnfghmjipikhaaGreatDoor.Ev
open IntKind (i64 u8 u64 u32)
def B3Q:=@run_eqGuard_agg
def B4k:=@run_eql_struct
def B4l:=@run_neq_struct
def B5V:=@ByteArray.toList_eq
def B4m:=@run_sliceBound
def B6v:=@wpOps_cons
def J4:=@World.putObj_heap_other
def B3I:=@callsIn_wide
def A5i:=@wpIn_mono
def A1q:=@World.alloc_heap_new
def B5W:=@callsIn_of_wp_marks
def B4p:=@run_storeCells_cells
def B1F:=@World.cell?_setCells_in
def A0U:=@World.cell?_setCells_out
def A4w:=@World.frozen?_setCells
def B3J:=@World.cell?_alloc_past
inductive K where
 | int (k:IntKind)
 | bool
 | fnc (f:Nat)
 | str
 | sl (e:Nat) (k:K)
 | rs (e:Nat) (k:K)
 | pa (n:Nat) (k:K)
 | pair (a b:K)
 deriving DecidableEq
@[reducible] def K.T:K->Type
 | .int _=>Int
 | .bool=>Bool
 | .fnc _=>Unit
 | .str=>ByteArray
 | .sl _ k=>List k.T
 | .rs _ k=>List k.T
 | .pa _ k=>List k.T
 | .pair a b=>a.T×b.T
def K.sz:K->Nat
 | .pair a b=>a.sz+b.sz
 | _=>1
theorem K.sz_pos:∀ k:K,0<k.sz
 | .int _=>A03
 | .bool=>A03
 | .fnc _=>A03
 | .str=>A03
 | .sl _ _=>A03
 | .rs _ _=>A03
 | .pa _ _=>A03
 | .pair a b=>by have:=K.sz_pos a;simp only [K.sz];omega
def fV(f:Nat):Value:=match Nat.beq f 999999999 with
 | true=>.nilIface
 | false=>.func (.func f) #[] #[]
theorem D50{f:Nat}(h:Nat.beq f 999999999=false):fV f=.func (.func f) #[] #[]:=by unfold fV;rw [h]
theorem C3U(f:Nat):(fV f).oneCell' = true:=by unfold fV;split<;>rfl
abbrev J0:=List Nat
abbrev Col:=Nat->Option J0
def RoL{α:Type}(R:α->List Value->Prop)(sz:Nat)(w:World)(Z:Col)(xs:List α)(cs:List Value):Prop:=
 ∃ A c,cs = [.slice A xs.length c]/\xs.length<=c/\c<=maxLen/\
  (0<xs.length->∃ ad:Addr,A=some ad/\Z ad.block=none/\
   ∀ i (h:i<xs.length),∃ ds,ds.length=sz/\R xs[i] ds/\∀ j u,ds[j]? = some u->w.cell? (ad.add (i*sz+j))=some u)
def RoP{α:Type}(R:α->List Value->Prop)(n sz:Nat)(w:World)(Z:Col)(xs:List α)(cs:List Value):Prop:=
 (cs = [.pointer none]/\xs = [])\/∃ ad:Addr,cs = [.pointer (some ad)]/\xs.length=n/\Z ad.block=none/\ad.block<w.heap.size/\
   ∀ i (h:i<xs.length),∃ ds,ds.length=sz/\R xs[i] ds/\∀ j u,ds[j]? = some u->w.cell? (ad.add (i*sz+j))=some u
def Ro:(k:K)->World->Col->k.T->List Value->Prop
 | .int U,_,_,n,cs=>cs = [.int U n]
 | .bool,_,_,b,cs=>cs = [.bool b]
 | .fnc f,_,_,_,cs=>cs = [fV f]
 | .str,_,_,s,cs=>cs = [.string s]
 | .sl _ k,w,Z,xs,cs=>RoL (Ro k w Z) k.sz w Z xs cs
 | .rs _ k,w,Z,xs,cs=>RoL (Ro k w Z) k.sz w Z xs cs
 | .pa n k,w,Z,xs,cs=>RoP (Ro k w Z) n k.sz w Z xs cs
 | .pair a b,w,Z,x,cs=>∃ c0 c1,cs=c0++c1/\Ro a w Z x.1 c0/\Ro b w Z x.2 c1
def OwL{α:Type}(R:J0->α->List Value->Prop)(e sz:Nat)(w:World)(Z:Col)(p:J0)(xs:List α)(v:Value):Prop:=
 ∃ inner,owns w 0 e sz v xs.length inner/\(∀ g,v.ownBlock=some g->Z g=some p)/\
  ∀ i (h:i<xs.length),R (p ++ [i]) xs[i] ((inner.drop (i*sz)).take sz)
def Ow:(k:K)->World->Col->J0->k.T->List Value->Prop
 | .int U,_,_,_,n,cs=>cs = [.int U n]
 | .bool,_,_,_,b,cs=>cs = [.bool b]
 | .fnc f,_,_,_,_,cs=>cs = [fV f]
 | .str,_,_,_,s,cs=>cs = [.string s]
 | .sl e k,w,Z,p,xs,cs=>∃ v,cs = [v]/\OwL (Ow k w Z) e k.sz w Z p xs v
 | .rs _ k,w,Z,_,xs,cs=>RoL (Ro k w Z) k.sz w Z xs cs
 | .pa n k,w,Z,_,xs,cs=>RoP (Ro k w Z) n k.sz w Z xs cs
 | .pair a b,w,Z,p,x,cs=>∃ c0 c1,cs=c0++c1/\Ow a w Z (p ++ [0]) x.1 c0/\Ow b w Z (p ++ [1]) x.2 c1
theorem Ro.len:∀ {k:K} {w Z x cs},Ro k w Z x cs->cs.length=k.sz
 | .int _,_,_,_,_,h=>by simp only [Ro] at h;subst h;rfl
 | .bool,_,_,_,_,h=>by simp only [Ro] at h;subst h;rfl
 | .fnc _,_,_,_,_,h=>by simp only [Ro] at h;subst h;rfl
 | .str,_,_,_,_,h=>by simp only [Ro] at h;subst h;rfl
 | .sl _ _,_,_,_,_,h=>by obtain ⟨A,c,rfl,_⟩:=h;rfl
 | .rs _ _,_,_,_,_,h=>by obtain ⟨A,c,rfl,_⟩:=h;rfl
 | .pa _ _,_,_,_,_,h=>by rcases h with ⟨rfl,_⟩ | ⟨A,rfl,_⟩<;>rfl
 | .pair a b,_,_,_,_,h=>by
  obtain ⟨c0,c1,rfl,h0,h1⟩:=h;rw [A4,Ro.len h0,Ro.len h1];rfl
theorem Ow.len:∀ {k:K} {w Z p x cs},Ow k w Z p x cs->cs.length=k.sz
 | .int _,_,_,_,_,_,h=>by simp only [Ow] at h;subst h;rfl
 | .bool,_,_,_,_,_,h=>by simp only [Ow] at h;subst h;rfl
 | .fnc _,_,_,_,_,_,h=>by simp only [Ow] at h;subst h;rfl
 | .str,_,_,_,_,_,h=>by simp only [Ow] at h;subst h;rfl
 | .sl _ _,_,_,_,_,_,h=>by obtain ⟨v,rfl,_⟩:=h;rfl
 | .rs _ _,_,_,_,_,_,h=>by obtain ⟨A,c,rfl,_⟩:=h;rfl
 | .pa _ _,_,_,_,_,_,h=>by rcases h with ⟨rfl,_⟩ | ⟨A,rfl,_⟩<;>rfl
 | .pair a b,_,_,_,_,_,h=>by
  obtain ⟨c0,c1,rfl,h0,h1⟩:=h;rw [A4,Ow.len h0,Ow.len h1];rfl
theorem A6N{w:World}{b e s n:Nat}{v:Value}{xs:List Value}(h:owns w b e s v n xs):v.oneCell' = true:=by
 rcases h.2 with ⟨rfl,_⟩ | ⟨g,cap,cur,fz,rfl,_⟩<;>rfl
theorem Ro.one:∀ {k:K} {w Z x cs},Ro k w Z x cs->∀ u∈cs,u.oneCell' = true
 | .int _,_,_,_,_,h=>by simp only [Ro] at h;subst h;intro u hu;rw [A6.1 hu];rfl
 | .bool,_,_,_,_,h=>by simp only [Ro] at h;subst h;intro u hu;rw [A6.1 hu];rfl
 | .fnc f,_,_,_,_,h=>by simp only [Ro] at h;subst h;intro u hu;rw [A6.1 hu];exact C3U f
 | .str,_,_,_,_,h=>by simp only [Ro] at h;subst h;intro u hu;rw [A6.1 hu];rfl
 | .sl _ _,_,_,_,_,h=>by obtain ⟨A,c,rfl,_⟩:=h;intro u hu;rw [A6.1 hu];rfl
 | .rs _ _,_,_,_,_,h=>by obtain ⟨A,c,rfl,_⟩:=h;intro u hu;rw [A6.1 hu];rfl
 | .pa _ _,_,_,_,_,h=>by rcases h with ⟨rfl,_⟩ | ⟨A,rfl,_⟩<;>(intro u hu;rw [A6.1 hu];rfl)
 | .pair a b,_,_,_,_,h=>by
  obtain ⟨c0,c1,rfl,h0,h1⟩:=h;intro u hu;rcases C9.1 hu with hu | hu
  ·exact Ro.one h0 u hu
  ·exact Ro.one h1 u hu
theorem Ow.one:∀ {k:K} {w Z p x cs},Ow k w Z p x cs->∀ u∈cs,u.oneCell' = true
 | .int _,_,_,_,_,_,h=>by simp only [Ow] at h;subst h;intro u hu;rw [A6.1 hu];rfl
 | .bool,_,_,_,_,_,h=>by simp only [Ow] at h;subst h;intro u hu;rw [A6.1 hu];rfl
 | .fnc f,_,_,_,_,_,h=>by simp only [Ow] at h;subst h;intro u hu;rw [A6.1 hu];exact C3U f
 | .str,_,_,_,_,_,h=>by simp only [Ow] at h;subst h;intro u hu;rw [A6.1 hu];rfl
 | .sl _ _,_,_,_,_,_,h=>by
  obtain ⟨v,rfl,inner,ho,_⟩:=h;intro u hu;rw [A6.1 hu];exact A6N ho
 | .rs _ _,_,_,_,_,_,h=>by obtain ⟨A,c,rfl,_⟩:=h;intro u hu;rw [A6.1 hu];rfl
 | .pa _ _,_,_,_,_,_,h=>by rcases h with ⟨rfl,_⟩ | ⟨A,rfl,_⟩<;>(intro u hu;rw [A6.1 hu];rfl)
 | .pair a b,_,_,_,_,_,h=>by
  obtain ⟨c0,c1,rfl,h0,h1⟩:=h;intro u hu;rcases C9.1 hu with hu | hu
  ·exact Ow.one h0 u hu
  ·exact Ow.one h1 u hu
def Keeps(w w':World)(Z Z':Col):Prop:=∀ b,Z b=none->b<w.heap.size->w'.heap[b]? = w.heap[b]?/\Z' b=none
def Fore(w w':World)(Z Z':Col):Prop:=∀ b,Z b=some []->b<w.heap.size->w'.heap[b]? = w.heap[b]?/\Z' b=some []
theorem Fore.refl(w:World)(Z:Col):Fore w w Z Z:=fun _ h _=>⟨rfl,h⟩
theorem Fore.trans{w w1 w2:World}{Z Z1 Z2:Col}(h:Fore w w1 Z Z1)(h1:Fore w1 w2 Z1 Z2)(hs:w.heap.size<=w1.heap.size):Fore w w2 Z Z2:=
 fun b hb hlt=>let ⟨e,c⟩:=h b hb hlt;let ⟨e1,c1⟩:=h1 b c (A8w hlt hs);⟨e1.trans e,c1⟩
theorem Keeps.refl(w:World)(Z:Col):Keeps w w Z Z:=fun _ h _=>⟨rfl,h⟩
theorem Keeps.trans{w w1 w2:World}{Z Z1 Z2:Col}(h:Keeps w w1 Z Z1)(h1:Keeps w1 w2 Z1 Z2)(hs:w.heap.size<=w1.heap.size):Keeps w w2 Z Z2:=
 fun b hb hlt=>let ⟨e,c⟩:=h b hb hlt;let ⟨e1,c1⟩:=h1 b c (A8w hlt hs);⟨e1.trans e,c1⟩
theorem A3K{w w':World}{Z Z':Col}(hk:Keeps w w' Z Z'){a:Addr}{v:Value}(h:w.cell? a=some v)(hZ:Z a.block=none):w'.cell? a=some v:=
 (J8 (hk a.block hZ (K5 w a h)).1).trans h
theorem add_block(a:Addr)(n:Nat):(a.add n).block=a.block:=by unfold Addr.add;split<;>rfl
theorem RoL.keep{α:Type}{R R':α->List Value->Prop}{sz:Nat}{w w':World}{Z Z':Col}{xs:List α}{cs:List Value}
  (h:RoL R sz w Z xs cs) (hsz:0<sz) (hk:Keeps w w' Z Z') (hR:∀ x ds,R x ds->R' x ds):RoL R' sz w' Z' xs cs:=by
 obtain ⟨A,c,rfl,hl,hm,hc⟩:=h;refine ⟨A,c,rfl,hl,hm,fun hn=>?_⟩;obtain ⟨ad,rfl,hZ,hi⟩:=hc hn;refine ⟨ad,rfl,?_,fun i h=>?_⟩
 ·obtain ⟨ds,hd,_,hcell⟩:=hi 0 hn;have h0:0<ds.length:=by omega
  have:=hcell 0 ds[0] (by simp [h0]);have hlt:=K5 w _ this;rw [add_block] at hlt;exact (hk _ hZ hlt).2
 ·obtain ⟨ds,hd,hr,hcell⟩:=hi i h;exact ⟨ds,hd,hR _ _ hr,fun j u hu=>A3K hk (hcell j u hu) (by rw [add_block];exact hZ)⟩
theorem RoP.keep{α:Type}{R R':α->List Value->Prop}{n sz:Nat}{w w':World}{Z Z':Col}{xs:List α}{cs:List Value}
  (h:RoP R n sz w Z xs cs) (hk:Keeps w w' Z Z') (hR:∀ x ds,R x ds->R' x ds):RoP R' n sz w' Z' xs cs:=by
 rcases h with ⟨rfl,rfl⟩ | ⟨ad,rfl,hn,hZ,hlt,hi⟩
 ·exact .inl ⟨rfl,rfl⟩
 have hb:=hk _ hZ hlt;refine .inr ⟨ad,rfl,hn,hb.2,?_,fun i h=>?_⟩
 ·have h1:w'.heap[ad.block]? = some w.heap[ad.block]:=hb.1.trans (I2 hlt);exact (B2.1 h1).1
 ·obtain ⟨ds,hd,hr,hcell⟩:=hi i h;exact ⟨ds,hd,hR _ _ hr,fun j u hu=>A3K hk (hcell j u hu) (by rw [add_block];exact hZ)⟩
theorem Ro.keep:∀ {k:K} {w w':World} {Z Z':Col} {x cs},Ro k w Z x cs->Keeps w w' Z Z'->Ro k w' Z' x cs
 | .int _,_,_,_,_,_,_,h,_=>h
 | .bool,_,_,_,_,_,_,h,_=>h
 | .fnc _,_,_,_,_,_,_,h,_=>h
 | .str,_,_,_,_,_,_,h,_=>h
 | .sl _ k,_,_,_,_,_,_,h,hk=>RoL.keep h k.sz_pos hk fun _ _ hr=>Ro.keep hr hk
 | .rs _ k,_,_,_,_,_,_,h,hk=>RoL.keep h k.sz_pos hk fun _ _ hr=>Ro.keep hr hk
 | .pa _ k,_,_,_,_,_,_,h,hk=>RoP.keep h hk fun _ _ hr=>Ro.keep hr hk
 | .pair _ _,_,_,_,_,_,_,h,hk=>by
  obtain ⟨c0,c1,rfl,h0,h1⟩:=h;exact ⟨c0,c1,rfl,Ro.keep h0 hk,Ro.keep h1 hk⟩
def Moves(w w':World)(Z Z':Col)(p p':J0):Prop:=∀ b q,Z b=some (p++q)->b<w.heap.size->w'.heap[b]? = w.heap[b]?/\Z' b=some (p'++q)
theorem Moves.sub{w w':World}{Z Z':Col}{p p':J0}(h:Moves w w' Z Z' p p')(q:J0):Moves w w' Z Z' (p++q) (p'++q):=by
 intro b r hb hlt;have:=h b (q++r) (by rw [<- A8];exact hb) hlt;rw [<- A8] at this;exact this
theorem A1t{w:World}{b e s n:Nat}{v:Value}{xs:List Value}(h:owns w b e s v n xs){g:Nat}(hg:v.ownBlock=some g):g<w.heap.size:=(D3g h g hg).2
theorem B0b{w w':World}{b e s n:Nat}{v:Value}{xs:List Value}(h:owns w b e s v n xs)(hm:∀ g,v.ownBlock=some g->w'.heap[g]? = w.heap[g]?):owns w' b e s v n xs:=by
 obtain ⟨h1,h2⟩:=h;refine ⟨h1,?_⟩;rcases h2 with h2 | ⟨g,cap,cur,fz,rfl,hg,hh,r⟩
 ·exact .inl h2
 ·exact .inr ⟨g,cap,cur,fz,rfl,hg,(hm g (by simp [Value.ownBlock])).trans hh,r⟩
theorem Ow.move:∀ {k:K} {w w':World} {Z Z':Col} {p p':J0} {x cs},Ow k w Z p x cs->Moves w w' Z Z' p p'->Keeps w w' Z Z'->Ow k w' Z' p' x cs
 | .int _,_,_,_,_,_,_,_,_,h,_,_=>h
 | .bool,_,_,_,_,_,_,_,_,h,_,_=>h
 | .fnc _,_,_,_,_,_,_,_,_,h,_,_=>h
 | .str,_,_,_,_,_,_,_,_,h,_,_=>h
 | .rs _ k,_,_,_,_,_,_,_,_,h,_,hk=>RoL.keep h k.sz_pos hk fun _ _ hr=>Ro.keep hr hk
 | .pa _ k,_,_,_,_,_,_,_,_,h,_,hk=>RoP.keep h hk fun _ _ hr=>Ro.keep hr hk
 | .sl e k,w,w',Z,Z',p,p',xs,cs,h,hm,hk=>by
  obtain ⟨v,rfl,inner,ho,hc,hi⟩:=h;refine ⟨v,rfl,inner,B0b ho fun g hg=>?_,fun g hg=>?_,fun i h=>Ow.move (hi i h) (hm.sub [i]) hk⟩
  ·exact (hm g [] (by rw [F8];exact hc g hg) (A1t ho hg)).1
  ·have:=(hm g [] (by rw [F8];exact hc g hg) (A1t ho hg)).2
   rwa [F8] at this
 | .pair _ _,_,_,_,_,_,_,_,_,h,hm,hk=>by
  obtain ⟨c0,c1,rfl,h0,h1⟩:=h;exact ⟨c0,c1,rfl,Ow.move h0 (hm.sub [0]) hk,Ow.move h1 (hm.sub [1]) hk⟩
def Frees(w w':World)(Z Z':Col)(p:J0):Prop:=∀ b q,Z b=some (p++q)->b<w.heap.size->w'.heap[b]? = w.heap[b]?/\Z' b=none
theorem Frees.sub{w w':World}{Z Z':Col}{p:J0}(h:Frees w w' Z Z' p)(q:J0):Frees w w' Z Z' (p++q):=
 fun b r hb hlt=>h b (q++r) (by rw [<- A8];exact hb) hlt
theorem Ow.free:∀ {k:K} {w w':World} {Z Z':Col} {p:J0} {x cs},Ow k w Z p x cs->Frees w w' Z Z' p->Keeps w w' Z Z'->Ro k w' Z' x cs
 | .int _,_,_,_,_,_,_,_,h,_,_=>h
 | .bool,_,_,_,_,_,_,_,h,_,_=>h
 | .fnc _,_,_,_,_,_,_,_,h,_,_=>h
 | .str,_,_,_,_,_,_,_,h,_,_=>h
 | .rs _ k,_,_,_,_,_,_,_,h,_,hk=>RoL.keep h k.sz_pos hk fun _ _ hr=>Ro.keep hr hk
 | .pa _ k,_,_,_,_,_,_,_,h,_,hk=>RoP.keep h hk fun _ _ hr=>Ro.keep hr hk
 | .sl e k,w,w',Z,Z',p,xs,cs,h,hm,hk=>by
  obtain ⟨v,rfl,inner,ho,hc,hi⟩:=h;have hl:=ho.1;rcases ho.2 with ⟨rfl,hn⟩ | ⟨g,cap,cur,fz,rfl,_,hg,hfz,hn,hcap,hs,ht⟩
  ·exact ⟨none,0,by rw [hn],by rw [hn];exact C5 _,H3 _,fun h=>by omega⟩
  ·have hlt:g<w.heap.size:=A1t ho rfl;have hgb:=hm g [] (by rw [F8];exact hc g rfl) hlt;refine ⟨some ⟨g,0,none⟩,cap,rfl,hn,hcap,fun _=>⟨⟨g,0,none⟩,rfl,hgb.2,fun i h=>?_⟩⟩;have hik:=hi i h;refine ⟨_,Ow.len hik,Ow.free hik (hm.sub [i]) hk,fun j u hu=>?_⟩;have hsz:=k.sz_pos;have hj:j<k.sz:=by
    have:=(C2.1 hu).1;rw [Ow.len hik] at this;exact this
   have e1:inner[i*k.sz+j]? = some u:=by
    rw [G3 hj,F7] at hu;exact hu
   have e2:w.cell? ((⟨g,0,none⟩:Addr).add (i*k.sz+j))=some u:=V4 ho rfl _ _ e1;refine (J8 (a:=(⟨g,0,none⟩:Addr).add (i*k.sz+j)) ?_).trans e2;rw [add_block];exact hgb.1
 | .pair _ _,_,_,_,_,_,_,_,h,hm,hk=>by
  obtain ⟨c0,c1,rfl,h0,h1⟩:=h;exact ⟨c0,c1,rfl,Ow.free h0 (hm.sub [0]) hk,Ow.free h1 (hm.sub [1]) hk⟩
noncomputable def D5H:String:=(Tryz.prog.globals[0]?).elim "x" (fun g=>g.name)
def GI(w:World)(Z:Col):Prop:=(∃ m:Int,w.cell? ⟨1,0,none⟩=some (.int .i64 m))/\Z 1=none/\Lib.TabIs Tryz.prog w D5H .u64 Lib.pow10Tab/\Z 0=none
theorem tabN_at:Tryz.prog.globalNamed D5H=some 0:=by kernel_rfl
theorem GI.keep{w w':World}{Z Z':Col}(h:GI w Z)(hk:Keeps w w' Z Z'):GI w' Z':=by
 obtain ⟨⟨m,hm⟩,h1,ht,h0⟩:=h;have l1:1<w.heap.size:=K5 w _ hm;have k1:=hk 1 h1 l1;have k0:=hk 0 h0 (by omega);refine ⟨⟨m,A3K hk hm h1⟩,k1.2,?_,k0.2⟩;unfold Lib.TabIs World.var? at ht ⊢;rw [tabN_at] at ht ⊢;simp only [B1B] at ht ⊢;rw [k0.1];exact ht
def A5l(s sep:ByteArray):Option (List ByteArray×Unit):=bif decide (s.size<4294967281)&&decide (1<=sep.size) then some (Lib.splitB sep 0 (Lib.countB s sep) s,()) else none
def B9v(s sep:ByteArray):Option (ByteArray×ByteArray×Bool×Unit):=bif decide (s.size<4294967281) then some (⟨(Lib.cut s.data.toList sep.data.toList).1.toArray⟩,⟨(Lib.cut s.data.toList sep.data.toList).2.1.toArray⟩,(Lib.cut s.data.toList sep.data.toList).2.2,()) else none
def B9w(n:Int):Option (ByteArray×Unit):=bif decide (-9223372036854775808<=n)&&decide (n<=9223372036854775807) then some (⟨(Lib.itoa n).toArray⟩,()) else none
def B1H(s:ByteArray):Option (Int×Unit×Unit):=bif decide (s.size<=18) then (match Lib.atoi s.data.toList with | some n=>some (n,(),()) | none=>none) else none
def B7r{α:Type}(xs:List α)(n:Int):Option (List α×Unit):=bif xs.isEmpty&&decide (0<=n)&&decide (n<=1000000000000) then some ([],()) else none
inductive Lf where
 | int (k:IntKind) (n:Int)
 | bool (b:Bool)
 | str (s:ByteArray)
 | nil
 | ro (e:Nat) (k:K) (xs:List k.T)
 | own (id:Nat)
 | vw (id:Nat) (lo hi:Nat)
 | sub (id q off ver:Nat)
 | ptr (b off:Nat)
 | ept (id q off:Nat)
 | rpt (k:K) (x:k.T) (off:Nat)
 | rpa (n:Nat) (k:K) (xs:List k.T)
 | apt (n id:Nat)
 | fn (f:Nat)
 | anyb
 | any
 | nilp
 | clo (f b off:Nat)
 | chk (f e:Nat) (k:K) (xs:List k.T) (n:Int)
 | ext (id q off ver:Nat) (p:List Nat) (e:Nat) (k:K) (zs:List k.T)
 | mp (es:List ((Int×Int)×Int))
 | mpb (b:Nat)
inductive AV where
 | one (v:Lf)
 | agg (vs:List Lf)
 | tup (vs:List (Bool×List Lf))
 | und
structure Row where
 e:Nat
 k:K
 xs:List k.T
 ver:Nat
inductive LV where
 | t (v:AV)
 | r (row:Row)
 | b (cells:List Lf)
 | x (i:Int)
inductive Loc where
 | t (n:Nat)
 | r (n:Nat)
 | b (n:Nat)
 | x (n:Nat)
 deriving DecidableEq
def Loc.eqb:Loc->Loc->Bool
 | .t i,.t j=>Nat.beq i j
 | .r i,.r j=>Nat.beq i j
 | .b i,.b j=>Nat.beq i j
 | .x i,.x j=>Nat.beq i j
 | _,_=>false
theorem Loc.eqb_iff{a b:Loc}:a.eqb b=true↔a=b:=by
 cases a<;>cases b<;>simp [Loc.eqb,Nat.beq_eq]
theorem Loc.eqb_false{a b:Loc}:a.eqb b=false↔a≠b:=by
 rw [Ne,<- Loc.eqb_iff];simp
abbrev St:=List (Loc×Option LV)
def St.get:St->Loc->Option LV
 | [],_=>none
 | (l,v)::s,m=>match l.eqb m with
  | true=>v
  | false=>St.get s m
theorem St.get_cons_same(l:Loc)(v:Option LV)(s:St):St.get ((l,v)::s) l=v:=by
 simp only [St.get,Loc.eqb_iff.2 rfl]
theorem St.get_cons_ne{l m:Loc}(h:l≠m)(v:Option LV)(s:St):St.get ((l,v)::s) m=St.get s m:=by
 simp only [St.get,Loc.eqb_false.2 h]
def St.getT(s:St)(d:Nat):Option AV:=match s.get (.t d) with | some (.t v)=>some v | _=>none
def St.getR(s:St)(d:Nat):Option Row:=match s.get (.r d) with | some (.r v)=>some v | _=>none
def St.getB(s:St)(d:Nat):Option (List Lf):=match s.get (.b d) with | some (.b v)=>some v | _=>none
def St.getX(s:St)(d:Nat):Option Int:=match s.get (.x d) with | some (.x v)=>some v | _=>none
theorem St.getT_some{s:St}{d:Nat}{v:AV}:s.getT d=some v↔s.get (.t d)=some (.t v):=by
 unfold St.getT;split
 ·rename_i h;rw [h];simp
 ·rename_i h;simp;intro hh;exact h _ hh
theorem St.getR_some{s:St}{d:Nat}{v:Row}:s.getR d=some v↔s.get (.r d)=some (.r v):=by
 unfold St.getR;split
 ·rename_i h;rw [h];simp
 ·rename_i h;simp;intro hh;exact h _ hh
theorem St.getB_some{s:St}{d:Nat}{v:List Lf}:s.getB d=some v↔s.get (.b d)=some (.b v):=by
 unfold St.getB;split
 ·rename_i h;rw [h];simp
 ·rename_i h;simp;intro hh;exact h _ hh
theorem St.getX_some{s:St}{d:Nat}{v:Int}:s.getX d=some v↔s.get (.x d)=some (.x v):=by
 unfold St.getX;split
 ·rename_i h;rw [h];simp
 ·rename_i h;simp;intro hh;exact h _ hh
structure Plc where
 g:Nat
 t:TypeId
 pre:List Value
 post:List Value
def A0t:Value->Addr
 | .slice (some a) _ _=>a
 | _=>⟨0,0,none⟩
def cutV(size lo hi:Nat):Value->Value
 | .slice a _ cap=>.slice (if cap=lo then a else a.map (·.add (lo*size))) (hi-lo) (cap-lo)
 | v=>v
structure Mem where
 w:World
 Z:Col
 ρ:Nat->Value
 β:Nat->Plc
def C9s(x:(Int×Int)×Int):Value×Value:=(.agg #[.int .i64 x.1.1,.int .i64 x.1.2],.int .i64 x.2)
def MpC(es:List ((Int×Int)×Int))(ents:Array MapEntry):Prop:=ents.toList.map (fun e=>(e.key,e.val))=es.map C9s
def LfC(s:St)(m:Mem):Lf->Value->Prop
 | .mp es,v=>∃ (b:Nat) (ents:Array MapEntry) (cl:Nat),v=.map (some b)/\m.Z b=none/\m.w.heap[b]? = some (.map ents cl)/\MpC es ents
 | .mpb b,v=>v=.map (some b)
 | .int k n,v=>v=.int k n
 | .bool b,v=>v=.bool b
 | .str x,v=>v=.string x
 | .nil,v=>v=.slice none 0 0
 | .ro e k xs,v=>Ro (.rs e k) m.w m.Z xs [v]
 | .own id,v=>v.oneCell' = true/\∀ r,s.get (.r id)=some (.r r)->v=m.ρ id
 | .vw id lo hi,v=>v.oneCell' = true/\∀ r,s.get (.r id)=some (.r r)->lo<=hi/\hi<=r.xs.length/\v=cutV r.k.sz lo hi (m.ρ id)
 | .sub id q off ver,v=>v.oneCell' = true/\∀ r i,s.get (.r id)=some (.r r)->s.get (.x q)=some (.x i)->ver<=r.ver/\(r.ver=ver->
   0<=i/\i.toNat<r.xs.length/\off<r.k.sz/\m.w.cell? ((A0t (m.ρ id)).add (i.toNat*r.k.sz+off))=some v)
 | .ptr b off,v=>v.oneCell' = true/\∀ c,s.get (.b b)=some (.b c)->v=.pointer (some ⟨(m.β b).g,(m.β b).pre.length+off,none⟩)
 | .ept id q off,v=>v.oneCell' = true/\∀ r i,s.get (.r id)=some (.r r)->s.get (.x q)=some (.x i)->
   0<=i/\i.toNat<r.xs.length/\v=.pointer (some ((A0t (m.ρ id)).add (i.toNat*r.k.sz+off)))
 | .rpt k x off,v=>∃ (ad:Addr) (ds:List Value),Ro k m.w m.Z x ds/\m.Z ad.block=none/\(∀ j u,ds[j]? = some u->m.w.cell? (ad.add j)=some u)/\v=.pointer (some (ad.add off))
 | .rpa n k xs,v=>Ro (.pa n k) m.w m.Z xs [v]
 | .apt n id,v=>v.oneCell' = true/\∀ r,s.get (.r id)=some (.r r)->r.xs.length=n/\v=.pointer (some (A0t (m.ρ id)))
 | .fn f,v=>v=fV f
 | .anyb,v=>∃ b,v=.bool b
 | .any,v=>v.oneCell' = true
 | .nilp,v=>v=.pointer none
 | .clo f b off,v=>∃ p,v=.func (.func f) #[] #[p]/\p.oneCell' = true/\∀ c,s.get (.b b)=some (.b c)->p=.pointer (some ⟨(m.β b).g,(m.β b).pre.length+off,none⟩)
 | .chk f e k xs n,v=>∃ (b1 b2:Nat) (v1:Value),v=.func (.func f) #[] #[.pointer (some ⟨b1,0,none⟩),.pointer (some ⟨b2,0,none⟩)]/\m.Z b1=none/\m.Z b2=none/\
   m.w.cell? ⟨b1,0,none⟩=some v1/\m.w.cell? ⟨b2,0,none⟩=some (.int .i64 n)/\Ro (.rs e k) m.w m.Z xs [v1]
 | .ext id q _ ver p e k zs,v=>v.oneCell' = true/\∀ r i,s.get (.r id)=some (.r r)->s.get (.x q)=some (.x i)->ver<=r.ver/\(r.ver=ver->
   0<=i/\i.toNat<r.xs.length/\OwL (Ow k m.w m.Z) e k.sz m.w m.Z ([2*id]++(i.toNat::p)) zs v)
def All2{α β:Type}(R:α->β->Prop):List α->List β->Prop
 | [],[]=>True
 | a::aas,b::bs=>R a b/\All2 R aas bs
 | _,_=>False
theorem All2.len{α β:Type}{R:α->β->Prop}:∀ {aas:List α} {bs:List β},All2 R aas bs->aas.length=bs.length
 | [],[],_=>rfl
 | _::_,_::_,h=>by simp only [H0,All2.len h.2]
theorem All2.imp{α β:Type}{R R':α->β->Prop}:∀ {aas:List α} {bs:List β},(∀ a∈aas,∀ b,R a b->R' a b)->All2 R aas bs->All2 R' aas bs
 | [],[],_,_=>trivial
 | a::aas,b::bs,hi,h=>⟨hi a A5 b h.1,All2.imp (fun a ha b=>hi a (B5 _ ha) b) h.2⟩
theorem All2.get{α β:Type}{R:α->β->Prop}:∀ {aas:List α} {bs:List β} {i:Nat} {a:α},All2 R aas bs->aas[i]? = some a->∃ b,bs[i]? = some b/\R a b
 | a::aas,b::bs,0,x,h,hi=>by simp at hi;subst hi;exact ⟨b,rfl,h.1⟩
 | a::aas,b::bs,i+1,x,h,hi=>by simp at hi;simpa using All2.get h.2 hi
theorem All2.app{α β:Type}{R:α->β->Prop}:∀ {aas:List α} {bs:List β} {cs:List α} {ds:List β},All2 R aas bs->All2 R cs ds->All2 R (aas++cs) (bs++ds)
 | [],[],_,_,_,h=>h
 | _::_,_::_,_,_,h,h'=>⟨h.1,All2.app h.2 h'⟩
theorem All2.take{α β:Type}{R:α->β->Prop}:∀ {aas:List α} {bs:List β} (n:Nat),All2 R aas bs->All2 R (aas.take n) (bs.take n)
 | _,_,0,_=>by simp [All2]
 | [],[],_+1,_=>by simp [All2]
 | _::_,_::_,n+1,h=>⟨h.1,All2.take n h.2⟩
theorem All2.drop{α β:Type}{R:α->β->Prop}:∀ {aas:List α} {bs:List β} (n:Nat),All2 R aas bs->All2 R (aas.drop n) (bs.drop n)
 | _,_,0,h=>h
 | [],[],_+1,_=>by simp [All2]
 | _::_,_::_,n+1,h=>All2.drop n h.2
def D1L(s:St)(m:Mem)(p:Bool×List Lf)(v:Value):Prop:=
 match p.1 with
 | true=>∃ cs:List Value,v=.agg cs.toArray/\All2 (LfC s m) p.2 cs
 | false=>∃ l,p.2 = [l]/\LfC s m l v
def AVC(s:St)(m:Mem):AV->Value->Prop
 | .one l,v=>LfC s m l v
 | .agg ls,v=>∃ cs:List Value,v=.agg cs.toArray/\All2 (LfC s m) ls cs
 | .tup ps,v=>∃ vs:List Value,v=.tuple vs.toArray/\All2 (D1L s m) ps vs
 | .und,v=>v=undef
def Lf.men:Lf->List Loc
 | .own id=> [.r id]
 | .apt _ id=> [.r id]
 | .vw id _ _=> [.r id]
 | .sub id q _ _=> [.r id,.x q]
 | .ptr b _=> [.b b]
 | .clo _ b _=> [.b b]
 | .ept id q _=> [.r id,.x q]
 | .ext id q _ _ _ _ _ _=> [.r id,.x q]
 | _=> []
def AV.men:AV->List Loc
 | .one l=>l.men
 | .agg ls=>ls.flatMap Lf.men
 | .tup ps=>ps.flatMap fun p=>p.2.flatMap Lf.men
 | .und=> []
def LV.men:LV->List Loc
 | .t v=>v.men
 | .b c=>c.flatMap Lf.men
 | _=> []
theorem Moves.refl(w:World)(Z:Col)(p:J0):Moves w w Z Z p p:=fun b q hb _=>⟨rfl,hb⟩
structure Ext (s:St) (m:Mem) (s':St) (m':Mem) (L:Loc->Prop):Prop where
 keep:Keeps m.w m'.w m.Z m'.Z
 row:∀ id r',L (.r id)->s'.get (.r id)=some (.r r')->∃ r,s.get (.r id)=some (.r r)/\m'.ρ id=m.ρ id/\r'.k.sz=r.k.sz/\r'.xs.length=r.xs.length/\r.ver<=r'.ver/\
  (r'.ver=r.ver->0<r.xs.length->∀ j v,m.w.cell? ((A0t (m.ρ id)).add j)=some v->m'.w.cell? ((A0t (m.ρ id)).add j)=some v)/\
  (r'.ver=r.ver->Moves m.w m'.w m.Z m'.Z [2*id] [2*id])
 box:∀ b c',L (.b b)->s'.get (.b b)=some (.b c')->∃ c,s.get (.b b)=some (.b c)/\m'.β b=m.β b
 ix:∀ q i,L (.x q)->s'.get (.x q)=some (.x i)->s.get (.x q)=some (.x i)
theorem Ext.sub{s:St}{m:Mem}{s':St}{m':Mem}{L L':Loc->Prop}(h:Ext s m s' m' L)(hl:∀ l,L' l->L l):Ext s m s' m' L':=
 ⟨h.keep,fun id r' hL=>h.row id r' (hl _ hL),fun b c' hL=>h.box b c' (hl _ hL),fun q i hL=>h.ix q i (hl _ hL)⟩
theorem LfC.ext{s:St}{m:Mem}{s':St}{m':Mem}{l:Lf}{v:Value}(h:LfC s m l v)(hx:Ext s m s' m' (·∈l.men)):LfC s' m' l v:=by
 cases l with
 | int k n=>exact h
 | bool b=>exact h
 | str x=>exact h
 | nil=>exact h
 | fn f=>exact h
 | anyb=>exact h
 | any=>exact h
 | nilp=>exact h
 | mpb b=>exact h
 | mp es=>
  obtain ⟨b,ents,cl,e,h1,h2,h3⟩:=h;have h4:=hx.keep b h1 (B2.1 h2).1;exact ⟨b,ents,cl,e,h4.2,h4.1.trans h2,h3⟩
 | chk f e k xs n=>
  obtain ⟨b1,b2,v1,e1,g1,g2,c1,c2,hr⟩:=h;have l1:=K5 m.w _ c1;have l2:=K5 m.w _ c2;exact ⟨b1,b2,v1,e1,(hx.keep _ g1 l1).2,(hx.keep _ g2 l2).2,A3K hx.keep c1 g1,A3K hx.keep c2 g2,Ro.keep (k:=.rs e k) hr hx.keep⟩
 | ext id q off ver p e k zs=>
  refine ⟨h.1,fun r' i hr' hi'=>?_⟩;obtain ⟨r,hr,hρ,hk,hl,hle,hc,hm⟩:=hx.row id r' (by simp [Lf.men]) hr';have hi:=hx.ix q i (by simp [Lf.men]) hi';obtain ⟨h0,h5⟩:=h.2 r i hr hi;refine ⟨S9 h0 hle,fun hv=>?_⟩;have hvv:r.ver=ver:=by omega
  obtain ⟨h1,h2,h3⟩:=h5 hvv;refine ⟨h1,hl▸h2,?_⟩;obtain ⟨v0,e0,h4⟩:=Ow.move (k:=.sl e k) (cs:= [v]) ⟨v,rfl,h3⟩ ((hm (hv.trans hvv.symm)).sub (i.toNat::p)) hx.keep;injection e0 with e0;subst e0
  exact h4
 | ro e k xs=>exact Ro.keep (k:=.rs e k) h hx.keep
 | rpa n k xs=>exact Ro.keep (k:=.pa n k) h hx.keep
 | own id=>
  refine ⟨h.1,fun r' hr'=>?_⟩;obtain ⟨r,hr,hρ,_⟩:=hx.row id r' (by simp [Lf.men]) hr';rw [hρ];exact h.2 r hr
 | apt n id=>
  refine ⟨h.1,fun r' hr'=>?_⟩;obtain ⟨r,hr,hρ,hk,hl,_⟩:=hx.row id r' (by simp [Lf.men]) hr';obtain ⟨h1,h3⟩:=h.2 r hr;exact ⟨hl.trans h1,by rw [hρ];exact h3⟩
 | vw id lo hi=>
  refine ⟨h.1,fun r' hr'=>?_⟩;obtain ⟨r,hr,hρ,hk,hl,_⟩:=hx.row id r' (by simp [Lf.men]) hr';obtain ⟨h1,h2,h3⟩:=h.2 r hr;exact ⟨h1,hl▸h2,by rw [hρ,hk];exact h3⟩
 | sub id q off ver=>
  refine ⟨h.1,fun r' i hr' hi'=>?_⟩;obtain ⟨r,hr,hρ,hk,hl,hle,hc,_⟩:=hx.row id r' (by simp [Lf.men]) hr';have hi:=hx.ix q i (by simp [Lf.men]) hi';obtain ⟨h0,h5⟩:=h.2 r i hr hi;refine ⟨S9 h0 hle,fun hv=>?_⟩;have hvv:r.ver=ver:=by omega
  obtain ⟨h1,h2,h3,h4⟩:=h5 hvv;exact ⟨h1,hl▸h2,hk▸h3,by rw [hρ,hk];exact hc (hv.trans hvv.symm) (by omega) _ _ h4⟩
 | ptr b off=>
  refine ⟨h.1,fun c' hc'=>?_⟩;obtain ⟨c,hc,hβ⟩:=hx.box b c' (by simp [Lf.men]) hc';rw [hβ];exact h.2 c hc
 | clo f b off=>
  obtain ⟨p,e,h1,h2⟩:=h;refine ⟨p,e,h1,fun c' hc'=>?_⟩;obtain ⟨c,hc,hβ⟩:=hx.box b c' (by simp [Lf.men]) hc';rw [hβ];exact h2 c hc
 | ept id q off=>
  refine ⟨h.1,fun r' i hr' hi'=>?_⟩;obtain ⟨r,hr,hρ,hk,hl,_⟩:=hx.row id r' (by simp [Lf.men]) hr';have hi:=hx.ix q i (by simp [Lf.men]) hi';obtain ⟨h1,h2,h3⟩:=h.2 r i hr hi;exact ⟨h1,hl▸h2,by rw [hρ,hk];exact h3⟩
 | rpt k x off=>
  obtain ⟨ad,ds,hr,hZ,hc,hv⟩:=h;have hlen:=hr.len;have hpos:=k.sz_pos;have hlt:ad.block<m.w.heap.size:=by
   have:=K5 m.w _ (hc 0 ds[0] (by simp [show 0<ds.length by omega]))
   rwa [add_block] at this
  exact ⟨ad,ds,hr.keep hx.keep,(hx.keep _ hZ hlt).2,fun j u hu=>A3K hx.keep (hc j u hu) (by rw [add_block];exact hZ),hv⟩
def BxC(s:St)(m:Mem)(pl:Plc)(b:Nat)(c:List Lf):Prop:=
 ∃ cs:List Value,All2 (LfC s m) c cs/\(∀ u∈cs,u.oneCell' = true)/\m.Z pl.g=some [2*b+1]/\m.w.heap[pl.g]? = some (.cells (pl.pre++cs++pl.post).toArray pl.t (0,0))
structure Gh where
 Z:Col
 ρ:Nat->Value
 β:Nat->Plc
 al:List (Nat×Obj):= []
def D6i(Z0:Gh)(b:Nat)(pl:Plc):Prop:=(1000<=b->b<4096->pl=Z0.β b)/\(¬ (1000<=b/\b<4096)->pl.pre = []/\pl.post = [])
def C00(D:Nat):Deferred:={target:=.collected D,args:=#[]}
def DfOk(w0:World)(al:List (Nat×Obj))(ds:List Deferred)(w:World)(Z:Col):Prop:=
 (ds.Nodup/\∀ d∈ds,∃ D,d=C00 D/\w0.heap.size<=D/\Z D=some []/\w.heap[D]? = some (.deferred (some [])))/\
 ∀ p∈al,w0.heap.size<=p.1/\Z p.1=some []/\w.heap[p.1]? = some p.2
theorem DfOk.nil(w0 w:World)(Z:Col):DfOk w0 [] [] w Z:=⟨⟨A4q,fun d hd=>by cases hd⟩,fun p hp=>by cases hp⟩
theorem DfOk.fore{w0:World}{al:List (Nat×Obj)}{ds:List Deferred}{w w':World}{Z Z':Col}(h:DfOk w0 al ds w Z)(hf:Fore w w' Z Z'):DfOk w0 al ds w' Z':=by
 refine ⟨⟨h.1.1,fun d hd=>?_⟩,fun p hp=>?_⟩
 ·obtain ⟨D,e,h1,h2,h3⟩:=h.1.2 d hd;obtain ⟨g1,g2⟩:=hf D h2 (B2.1 h3).1;exact ⟨D,e,h1,g2,g1.trans h3⟩
 ·obtain ⟨h1,h2,h3⟩:=h.2 p hp;obtain ⟨g1,g2⟩:=hf p.1 h2 (B2.1 h3).1;exact ⟨h1,g2,g1.trans h3⟩
structure Rel (n:Nat) (w0:World) (Z0:Gh) (s:St) (a:Act) (m:Mem):Prop where
 sz:a.tmps.size=n
 df:DfOk w0 Z0.al a.defers m.w m.Z
 tm:∀ d v,s.get (.t d)=some (.t v)->AVC s m v (a.tmps.getD d undef)
 rw:∀ id r,s.get (.r id)=some (.r r)->OwL (Ow r.k m.w m.Z) r.e r.k.sz m.w m.Z [2*id] r.xs (m.ρ id)
 bx:∀ b c,s.get (.b b)=some (.b c)->BxC s m (m.β b) b c
 kp:Keeps w0 m.w Z0.Z m.Z
 fo:Fore w0 m.w Z0.Z m.Z
 nn:n<=1000/\GI w0 Z0.Z
 gr:∀ id r,1000<=id->id<4096->s.get (.r id)=some (.r r)->m.ρ id=Z0.ρ id
 gb:∀ b c,s.get (.b b)=some (.b c)->D6i Z0 b (m.β b)
 hs:w0.heap.size<=m.w.heap.size
 os:m.w.os=w0.os
 tp:m.w.tape=w0.tape
 ou:m.w.output=w0.output
theorem Rel.gi{n:Nat}{w0:World}{Z0:Gh}{s:St}{a:Act}{m:Mem}(h:Rel n w0 Z0 s a m):GI m.w m.Z:=h.nn.2.keep h.kp
def Live(s:St)(l:Loc):Prop:=∃ l' lv,s.get l' = some lv/\l∈lv.men
def fresh(s:St)(l:Loc):Bool:=s.all fun p=>match p.2 with | some lv=>!(lv.men.any (Loc.eqb l)) | none=>true
theorem get_mem:∀ {s:St} {l:Loc} {lv:LV},s.get l=some lv->(l,some lv)∈s
 | [],_,_,h=>by simp [St.get] at h
 | (l',v)::s,l,lv,h=>by
  by_cases hl:l' = l
  ·subst hl;rw [St.get_cons_same] at h;subst h;exact A5
  ·rw [St.get_cons_ne hl] at h;exact B5 _ (get_mem h)
theorem A85{s:St}{l:Loc}(h:fresh s l=true):¬ Live s l:=by
 rintro ⟨l',lv,hg,hm⟩;have h1:=(D0.1 h) _ (get_mem hg);simp only [Q4,T0] at h1;exact h1 l hm (Loc.eqb_iff.2 rfl)
theorem AVC.ext{s:St}{m:Mem}{s':St}{m':Mem}{v:AV}{x:Value}(h:AVC s m v x)(hx:Ext s m s' m' (·∈v.men)):AVC s' m' v x:=by
 cases v with
 | one l=>exact LfC.ext h hx
 | agg ls=>
  obtain ⟨cs,rfl,h⟩:=h;exact ⟨cs,rfl,All2.imp (fun l hl b hb=>LfC.ext hb (hx.sub fun q hq=>E8.2 ⟨l,hl,hq⟩)) h⟩
 | tup ps=>
  obtain ⟨vs,rfl,h⟩:=h;refine ⟨vs,rfl,All2.imp (fun p hp b hb=>?_) h⟩;have hsub:∀ l∈p.2,Ext s m s' m' (·∈l.men):=fun l hl=>hx.sub fun q hq=>E8.2 ⟨p,hp,E8.2 ⟨l,hl,hq⟩⟩
  obtain ⟨f,ls⟩:=p;cases f with
  | true=>obtain ⟨cs,rfl,h⟩:=hb;exact ⟨cs,rfl,All2.imp (fun l hl b hb=>LfC.ext hb (hsub l hl)) h⟩
  | false=>obtain ⟨l,rfl,h⟩:=hb;exact ⟨l,rfl,LfC.ext h (hsub l (by simp))⟩
 | und=>exact h
theorem Rel.change{n:Nat}{w0:World}{Z0:Gh}{s s1:St}{a:Act}{m m1:Mem}(h:Rel n w0 Z0 s a m)
  (hT:∀ d,s1.get (.t d)=s.get (.t d)) (hX:Ext s m s1 m1 (Live s))
  (hR:∀ id r,s1.get (.r id)=some (.r r)->OwL (Ow r.k m1.w m1.Z) r.e r.k.sz m1.w m1.Z [2*id] r.xs (m1.ρ id))
  (hB:∀ b c,s1.get (.b b)=some (.b c)->BxC s1 m1 (m1.β b) b c)
  (hF:Fore m.w m1.w m.Z m1.Z) (hs:m.w.heap.size<=m1.w.heap.size) (os:m1.w.os=m.w.os) (tp:m1.w.tape=m.w.tape) (ou:m1.w.output=m.w.output)
  (hG:∀ id r,1000<=id->id<4096->s1.get (.r id)=some (.r r)->(∃ r',s.get (.r id)=some (.r r'))/\m1.ρ id=m.ρ id)
  (hGb:∀ b c,s1.get (.b b)=some (.b c)->((∃ c',s.get (.b b)=some (.b c'))/\m1.β b=m.β b)\/(¬ (1000<=b/\b<4096)/\(m1.β b).pre = []/\(m1.β b).post = [])):Rel n w0 Z0 s1 a m1 where
 sz:=h.sz
 df:=h.df.fore hF
 tm:=fun d v hd=>(h.tm d v (by rw [<- hT];exact hd)).ext (hX.sub fun l hl=>⟨.t d,.t v,by rw [<- hT];exact hd,hl⟩)
 rw:=hR
 bx:=hB
 kp:=h.kp.trans hX.keep h.hs
 fo:=h.fo.trans hF h.hs
 nn:=h.nn
 gr:=fun id r h1 h2 h3=>let ⟨⟨r',h4⟩,h5⟩:=hG id r h1 h2 h3;h5.trans (h.gr id r' h1 h2 h4)
 gb:=fun b c h3=>by
  rcases hGb b c h3 with ⟨⟨c',h4⟩,h5⟩ | ⟨h1,h2⟩
  ·rw [h5];exact h.gb b c' h4
  ·exact ⟨fun g1 g2=>absurd ⟨g1,g2⟩ h1,fun _=>h2⟩
 hs:=S9 h.hs hs
 os:=os.trans h.os
 tp:=tp.trans h.tp
 ou:=ou.trans h.ou
theorem Ext.same{s s1:St}{m:Mem}(h:∀ l,(∀ d,l≠.t d)->s1.get l=s.get l)(L:Loc->Prop):Ext s m s1 m L where
 keep:=Keeps.refl _ _
 row:=fun id r' _ hr=>⟨r',by rw [<- h _ (by simp)];exact hr,rfl,rfl,rfl,C5 _,fun _ _ _ _ hc=>hc,fun _=>Moves.refl _ _ _⟩
 box:=fun b c' _ hc=>⟨c',by rw [<- h _ (by simp)];exact hc,rfl⟩
 ix:=fun q i _ hi=>by rw [<- h _ (by simp)];exact hi
theorem C01{a:Act}{d:Nat}{v:Value}(h:d<a.tmps.size)(i:Nat):(a.put (some d) v).tmps.getD i undef=if i=d then v else a.tmps.getD i undef:=by
 simp only [Act.put,J6,A73];by_cases e:i=d
 ·subst e;simp [h]
 ·have e':d≠i:=fun hh=>e hh.symm
  simp [e,e']
theorem Rel.put{n:Nat}{w0:World}{Z0:Gh}{s:St}{a:Act}{m:Mem}(h:Rel n w0 Z0 s a m){d:Nat}{v:AV}{x:Value}(hd:d<n)(hv:AVC s m v x) :
  Rel n w0 Z0 ((.t d,some (.t v))::s) (a.put (some d) x) m:=by
 have hsame:∀ l,(∀ d,l≠.t d)->St.get ((.t d,some (.t v))::s) l=s.get l:=fun l hl=>St.get_cons_ne (hl d).symm _ _
 have hE:∀ L,Ext s m ((.t d,some (.t v))::s) m L:=Ext.same hsame;refine ⟨?_,h.df,fun i u hi=>?_,fun id r hr=>h.rw id r (by rw [<- hsame _ (by simp)];exact hr),fun b c hc=>?_,h.kp,h.fo,h.nn,fun id r h1 h2 hr=>h.gr id r h1 h2 (by rw [<- hsame _ (by simp)];exact hr),fun b c hc=>h.gb b c (by rw [<- hsame _ (by simp)];exact hc),h.hs,h.os,h.tp,h.ou⟩
 ·simp [Act.put,h.sz]
 ·rw [C01 (by rw [h.sz];exact hd)];by_cases e:i=d
  ·subst e;rw [St.get_cons_same] at hi;injection hi with hi;injection hi with hi
   rw [F9 rfl,<- hi];exact hv.ext (hE _)
  ·rw [D8 e];rw [St.get_cons_ne (by intro hh;injection hh with hh;exact e hh.symm)] at hi;exact (h.tm i u hi).ext (hE _)
 ·obtain ⟨cs,h1,h2,h3,h4⟩:=h.bx b c (by rw [<- hsame _ (by simp)];exact hc);exact ⟨cs,All2.imp (fun l hl b hb=>hb.ext (hE _)) h1,h2,h3,h4⟩
theorem Rel.putNone{n:Nat}{w0:World}{Z0:Gh}{s:St}{a:Act}{m:Mem}(h:Rel n w0 Z0 s a m)(d:Option Nat)(x:Value)(hg:∀ i,d=some i->s.get (.t i)=none) :
  Rel n w0 Z0 s (a.put d x) m:=by
 refine ⟨?_,?_,fun i u hi=>?_,h.rw,h.bx,h.kp,h.fo,h.nn,h.gr,h.gb,h.hs,h.os,h.tp,h.ou⟩
 ·cases d<;>simp [Act.put,h.sz]
 ·cases d<;>exact h.df
 ·cases d with
  | none=>exact h.tm i u hi
  | some d=>
   by_cases hd:d<n
   ·rw [C01 (by rw [h.sz];exact hd)];by_cases e:i=d
    ·subst e;rw [hg _ rfl] at hi;cases hi
    ·rw [D8 e];exact h.tm i u hi
   ·have:(a.put (some d) x).tmps=a.tmps:=by
     simp only [Act.put];exact Array.setIfInBounds_eq_of_size_le (by rw [h.sz];omega)
    rw [this];exact h.tm i u hi
structure O where
 rd:List (Loc×LV)
 wr:List (Loc×Option LV)
 new:List Loc
def Reads(s:St)(rd:List (Loc×LV)):Prop:=∀ p∈rd,s.get p.1=some p.2
def Good(P:Program)(n:Nat)(o:Oper)(δ:O):Prop:=
 ∀ w0 Z0 s a m,Rel n w0 Z0 s a m->Reads s δ.rd->(∀ l∈δ.new,¬ Live s l)->
  ∀ (next:Act->World->Prop) (Q:Exit->Act->World->Prop),(∀ a' m',Rel n w0 Z0 (δ.wr++s) a' m'->next a' m'.w)->o.wp P a m.w next Q
def Pure1(P:Program)(n:Nat)(o:Oper)(rd:List (Loc×LV))(xw:List (Nat×Int))(v:AV):Prop:=
 ∀ w0 Z0 s a m,Rel n w0 Z0 s a m->Reads s rd->(∀ q∈xw,¬ Live s (.x q.1))->∃ val,(execOp a.eval o).run P m.w=.ok (.value val) m.w/\
  AVC (xw.map (fun q=>(Loc.x q.1,some (LV.x q.2)))++s) m v val
theorem A9v{xw:List (Nat×Int)}{s:St}{l:Loc}(hl:∀ q,l≠.x q):St.get (xw.map (fun q=>(Loc.x q.1,some (LV.x q.2)))++s) l=s.get l:=by
 induction xw with
 | nil=>rfl
 | cons q xw ih=>rw [G4,C8,St.get_cons_ne (hl _).symm];exact ih
theorem D1M{xw:List (Nat×Int)}{s:St}{q:Nat}{i:Int}(h:St.get (xw.map (fun q=>(Loc.x q.1,some (LV.x q.2)))++s) (.x q)=some (.x i)):(∃ p∈xw,p.1=q)\/s.get (.x q)=some (.x i):=by
 induction xw with
 | nil=>exact .inr h
 | cons p xw ih=>
  rw [G4,C8] at h;by_cases e:p.1=q
  ·exact .inl ⟨p,A5,e⟩
  ·rw [St.get_cons_ne (by intro hh;injection hh with hh;exact e hh)] at h;rcases ih h with ⟨p',hp,e'⟩ | h
   ·exact .inl ⟨p',B5 _ hp,e'⟩
   ·exact .inr h
theorem Rel.xw{n:Nat}{w0:World}{Z0:Gh}{s:St}{a:Act}{m:Mem}(h:Rel n w0 Z0 s a m)(xw:List (Nat×Int))(hf:∀ q∈xw,¬ Live s (.x q.1)) :
  Rel n w0 Z0 (xw.map (fun q=>(Loc.x q.1,some (LV.x q.2)))++s) a m:=by
 have hE:Ext s m (xw.map (fun q=>(Loc.x q.1,some (LV.x q.2)))++s) m (Live s):=by
  refine ⟨Keeps.refl _ _,fun id r' _ hr=>⟨r',by rwa [A9v (by simp)] at hr,rfl,rfl,rfl,C5 _,fun _ _ _ _ hc=>hc,fun _=>Moves.refl _ _ _⟩,fun b c' _ hc=>⟨c',by rwa [A9v (by simp)] at hc,rfl⟩,fun q i hL hi=>?_⟩;rcases D1M hi with ⟨p,hp,e⟩ | hi
  ·exact absurd (e▸hL) (hf p hp)
  ·exact hi
 refine h.change (fun d=>A9v (by simp)) hE (fun id r hr=>h.rw id r (by rwa [A9v (by simp)] at hr)) (fun b c hc=>?_) (Fore.refl _ _) (C5 _) rfl rfl rfl (fun id r _ _ hg=>⟨⟨r,by rwa [A9v (by simp)] at hg⟩,rfl⟩) (fun b c hg=>.inl ⟨⟨c,by rwa [A9v (by simp)] at hg⟩,rfl⟩);rw [A9v (by simp)] at hc;obtain ⟨cs,h1,h2,h3,h4⟩:=h.bx b c hc;exact ⟨cs,All2.imp (fun l hl b' hb=>hb.ext (hE.sub fun q hq=>⟨.b b,.b c,hc,E8.2 ⟨l,hl,hq⟩⟩)) h1,h2,h3,h4⟩
theorem Pure1.good{P:Program}{n:Nat}{o:Oper}{rd:List (Loc×LV)}{xw:List (Nat×Int)}{v:AV}{d:Nat}(h:Pure1 P n o rd xw v)(ho:o.dst=some d)(hd:d<n) :
  Good P n o ⟨rd,(.t d,some (.t v))::xw.map (fun q=>(Loc.x q.1,some (LV.x q.2))),xw.map (fun q=>Loc.x q.1)⟩:=by
 intro w0 Z0 s a m hr hrd hnew next Q hn
 have hf:∀ q∈xw,¬ Live s (.x q.1):=fun q hq=>hnew _ (D5.2 ⟨q,hq,rfl⟩)
 obtain ⟨val,hrun,hv⟩:=h w0 Z0 s a m hr hrd hf;simp only [Oper.wp,hrun,Oper.upon,ho];exact hn _ m ((hr.xw xw hf).put hd hv)
def eqI:List Int->List Int->Bool
 | x::xs,y::ys=>decide (x=y)&&eqI xs ys
 | _,_=>true
def A78(a:List Int):Array Value:=(a.map (Value.int .i64)).toArray
theorem C02:∀ {a b:List Int} (c d:List Int),a.length=b.length->eqI (a++c) (b++d)=(eqI a b&&eqI c d)
 | [],[],c,d,_=>by simp [eqI]
 | x::a,y::b,c,d,h=>by
  simp only [C8,eqI,C02 (a:=a) (b:=b) c d (by simpa using h),Bool.and_assoc]
 | [],_::_,_,_,h=>by cases h
 | _::_,[],_,_,h=>by cases h
def EqD(P:Program)(t n d:Nat):Prop:=
 0<d/\(∃ fs,P.underlying t=some (.struct fs))/\(∃ f,P.info? t=some f/\f.size=n)/\
 ∀ (a b:List Int) (w:World) (e:Nat),a.length=n->b.length=n->(Op.equalIn (d+e) t (.agg (A78 a)) (.agg (A78 b))).run P w=.ok (eqI a b) w
def D1N(P:Program)(d:Nat):List Field->Nat->Nat->Prop
 | [],off,n=>off=n
 | f::fs,off,n=>f.name≠ "_"/\f.offset=off/\((P.underlying f.type=some (.int .i64)/\D1N P d fs (off+1) n)\/∃ m,EqD P f.type m d/\D1N P d fs (off+m) n)
theorem B9U{P:Program}{d:Nat}:∀ {fs:List Field} {off n:Nat},D1N P d fs off n->off<=n
 | [],off,n,h=>Nat.le_of_eq h
 | f::fs,off,n,h=>by
  rcases h.2.2 with ⟨_,h⟩ | ⟨m,_,h⟩
  ·have:=B9U h;omega
  ·have:=B9U h;omega
theorem C3V{P:Program}{d:Nat}(hd:0<d):∀ {fs:List Field} {off n:Nat},D1N P d fs off n->∀ (a b:List Int) (w:World) (e:Nat),a.length=n->b.length=n->
  (Op.eqFields (d+e) (A78 a) (A78 b) fs).run P w=.ok (eqI (a.drop off) (b.drop off)) w
 | [],off,n,h,a,b,w,e,ha,hb=>by
  rw [A15 (by have:off=n:=h;omega),A15 (by have:off=n:=h;omega)];rfl
 | f::fs,off,n,h,a,b,w,e,ha,hb=>by
  obtain ⟨h1,h2,h3⟩:=h;obtain ⟨d',rfl⟩:∃ d',d=d'+1:=⟨d-1,by omega⟩;simp only [Op.eqFields,F9 h1,C3,h2];rcases h3 with ⟨hi,h3⟩ | ⟨m,hm,h3⟩
  ·have hle:=B9U h3;have pa:∀ x:List Int,x.length=n->∃ hx:off<x.length,(part f.type (A78 x) off).run P w=.ok (.int .i64 x[off]) w:=fun x hx=>by
    refine ⟨by omega,?_⟩;have hg:(A78 x)[off]? = some (.int .i64 (x[off]'(by omega))):=by simp [A78,C1 (show off<x.length by omega)]
    simp [part,isAgg,G6 hi,hg]
   obtain ⟨la,ea⟩:=pa a ha;obtain ⟨lb,eb⟩:=pa b hb;have he:(Op.equalIn (d'+1+e) f.type (.int .i64 a[off]) (.int .i64 b[off])).run P w=.ok (a[off] == b[off]) w:=by
    rw [show d'+1+e=(d'+e)+1 by omega];exact run_equalIn_int w _ _ _ _ _ _ hi
   have ih:=C3V hd h3 a b w e ha hb;rw [ea];simp only [I0,eb,he];rw [I3 la,I3 lb];simp only [eqI];by_cases hx:a[off]=b[off]
   ·have hbq:(a[off] == b[off])=true:=by simp [hx]
    rw [hbq,A0j hx];simp only [G9,A0A,A0k,B0a];exact ih
   ·have hbq:(a[off] == b[off])=false:=by simp [hx]
    rw [hbq,T2 hx];simp
  ·have hle:=B9U h3;obtain ⟨_,⟨gs,hu⟩,⟨inf,hin,hsz⟩,hrec⟩:=hm;have pa:∀ x:List Int,x.length=n->(part f.type (A78 x) off).run P w=.ok (.agg (A78 ((x.drop off).take m))) w:=fun x hx=>by
    have:(A78 x).extract off (off+m)=A78 ((x.drop off).take m):=by
     simp [A78,List.extract_toArray,List.extract,List.map_take,List.map_drop]
    simp [part,isAgg,G6 hu,sizeOf,typeInfo,hin,hsz,this]
   have he:=hrec ((a.drop off).take m) ((b.drop off).take m) w e (by simp;omega) (by simp;omega);have ih:=C3V hd h3 a b w e ha hb;rw [pa a ha];simp only [I0,pa b hb,he];have sp:∀ x:List Int,x.drop off=(x.drop off).take m++x.drop (off+m):=fun x=>by
    rw [<- O8,O0]
   have spe:eqI (a.drop off) (b.drop off)=(eqI ((a.drop off).take m) ((b.drop off).take m)&&eqI (a.drop (off+m)) (b.drop (off+m))):=by
    conv=>lhs;rw [sp a,sp b]
    exact C02 _ _ (by simp;omega)
   rw [spe];cases eqI ((a.drop off).take m) ((b.drop off).take m) with
   | true=>
    simp only [G9,A0A,A0k,B0a];exact ih
   | false=>simp
theorem D6j{P:Program}{t n d:Nat}{fs:Array Field}{f:TypeInfo}(hd:0<d)(hu:P.underlying t=some (.struct fs))(hp:P.stoodInHeld t=false)(hi:P.info? t=some f)(hs:f.size=n)(h:D1N P d fs.toList 0 n):EqD P t n (d+1):=by
 refine ⟨by omega,⟨fs,hu⟩,⟨f,hi,hs⟩,fun a b w e ha hb=>?_⟩;have hf:P.fieldsOf t=fs:=by simp [Program.fieldsOf,hu]
 rw [show d+1+e=(d+e)+1 by omega,run_equalIn_agg w _ t _ _ (by rw [hf];exact hu) hp,hf];exact C3V hd h a b w e ha hb
def D64(P:Program)(t n:Nat):Prop:=P.eqGuardType P.depth t=false/\∃ d,d<=10000/\EqD P t n d
theorem D1O{P:Program}{t n:Nat}(h:D64 P t n){a b:List Int}(ha:a.length=n)(hb:b.length=n)(w:World) :
  (∀ op X Y,(eqGuard op t X Y (.agg (A78 a)) (.agg (A78 b))).run P w=.ok () w)/\
  (binOp .eql t (.agg (A78 a)) (.agg (A78 b))).run P w=.ok (.bool (eqI a b)) w/\(binOp .neq t (.agg (A78 a)) (.agg (A78 b))).run P w=.ok (.bool (!eqI a b)) w:=by
 obtain ⟨h1,d,hd,_,_,_,h2⟩:=h;have e:=h2 a b w (10000-d) ha hb;rw [show d+(10000-d)=10000 by omega] at e;refine ⟨fun op X Y=>B3Q w op t X Y _ _ h1,?_,?_⟩
 ·rw [B4k,e];rfl
 ·rw [B4l,e];rfl
def eqB:List ByteArray->List ByteArray->Bool
 | x::xs,y::ys=>decide (x=y)&&eqB xs ys
 | _,_=>true
def B1I(a:List ByteArray):Array Value:=(a.map Value.string).toArray
def C8n(P:Program):List Field->Nat->Nat->Prop
 | [],off,n=>off=n
 | f::fs,off,n=>f.name≠ "_"/\f.offset=off/\P.underlying f.type=some .string/\C8n P fs (off+1) n
theorem C53{P:Program}:∀ {fs:List Field} {off n:Nat},C8n P fs off n->off<=n
 | [],off,n,h=>Nat.le_of_eq h
 | f::fs,off,n,h=>by have:=C53 h.2.2.2;omega
theorem bytes_beq(a b:ByteArray):(a.toList == b.toList)=decide (a=b):=by
 rw [B5V,B5V];obtain ⟨⟨x⟩⟩:=a;obtain ⟨⟨y⟩⟩:=b;by_cases h:x=y
 ·subst h;simp
 ·have h2:¬ ((⟨⟨x⟩⟩:ByteArray)=⟨⟨y⟩⟩):=fun e=>h (by injection e with e;injection e)
  rw [T2 h2];simpa using h
theorem C54{P:Program}{d:Nat}:∀ {fs:List Field} {off n:Nat},C8n P fs off n->∀ (a b:List ByteArray) (w:World),a.length=n->b.length=n->
  (Op.eqFields (d+1) (B1I a) (B1I b) fs).run P w=.ok (eqB (a.drop off) (b.drop off)) w
 | [],off,n,h,a,b,w,ha,hb=>by
  rw [A15 (by have:off=n:=h;omega),A15 (by have:off=n:=h;omega)];rfl
 | f::fs,off,n,h,a,b,w,ha,hb=>by
  obtain ⟨h1,h2,hi,h3⟩:=h;simp only [Op.eqFields,F9 h1,C3,h2];have hle:=C53 h3;have pa:∀ x:List ByteArray,x.length=n->∃ hx:off<x.length,(part f.type (B1I x) off).run P w=.ok (.string x[off]) w:=fun x hx=>by
   refine ⟨by omega,?_⟩;have hg:(B1I x)[off]? = some (.string (x[off]'(by omega))):=by simp [B1I,C1 (show off<x.length by omega)]
   simp [part,isAgg,G6 hi,hg]
  obtain ⟨la,ea⟩:=pa a ha;obtain ⟨lb,eb⟩:=pa b hb;have he:(Op.equalIn (d+1) f.type (.string a[off]) (.string b[off])).run P w=.ok (decide (a[off]=b[off])) w:=by
   rw [run_equalIn_string w _ _ _ _ hi,bytes_beq]
  have ih:=C54 (d:=d) h3 a b w ha hb;rw [ea];simp only [I0,eb,he];rw [I3 la,I3 lb];simp only [eqB];by_cases hx:a[off]=b[off]
  ·rw [A0j hx];simp only [G9,A0A,A0k,B0a];exact ih
  ·rw [T2 hx];simp
def C8o(P:Program)(t n:Nat):Prop:=P.eqGuardType P.depth t=false/\∀ (a b:List ByteArray) (w:World),a.length=n->b.length=n->(Op.equalIn 10000 t (.agg (B1I a)) (.agg (B1I b))).run P w=.ok (eqB a b) w
theorem D1P{P:Program}{t n:Nat}{fs:Array Field}(hg:P.eqGuardType P.depth t=false)(hu:P.underlying t=some (.struct fs))(hp:P.stoodInHeld t=false)(h:C8n P fs.toList 0 n):C8o P t n:=by
 refine ⟨hg,fun a b w ha hb=>?_⟩;have hf:P.fieldsOf t=fs:=by simp [Program.fieldsOf,hu]
 rw [show 10000=9998+1+1 by omega,run_equalIn_agg w _ t _ _ (by rw [hf];exact hu) hp,hf];exact C54 h a b w ha hb
theorem C9t{P:Program}{t n:Nat}(h:C8o P t n){a b:List ByteArray}(ha:a.length=n)(hb:b.length=n)(w:World) :
  (∀ op X Y,(eqGuard op t X Y (.agg (B1I a)) (.agg (B1I b))).run P w=.ok () w)/\
  (binOp .eql t (.agg (B1I a)) (.agg (B1I b))).run P w=.ok (.bool (eqB a b)) w/\(binOp .neq t (.agg (B1I a)) (.agg (B1I b))).run P w=.ok (.bool (!eqB a b)) w:=by
 obtain ⟨h1,h2⟩:=h;have e:=h2 a b w ha hb;refine ⟨fun op X Y=>B3Q w op t X Y _ _ h1,?_,?_⟩
 ·rw [B4k,e];rfl
 ·rw [B4l,e];rfl
def eqM:List (Int⊕ByteArray)->List (Int⊕ByteArray)->Bool
 | .inl x::xs,.inl y::ys=>decide (x=y)&&eqM xs ys
 | .inr x::xs,.inr y::ys=>decide (x=y)&&eqM xs ys
 | _,_=>true
def pvM:Int⊕ByteArray->Value
 | .inl n=>.int .i64 n
 | .inr b=>.string b
def B6w(a:List (Int⊕ByteArray)):Array Value:=(a.map pvM).toArray
def B8q:List (Int⊕ByteArray)->Nat
 | []=>1
 | .inl _::l=>2*B8q l
 | .inr _::l=>2*B8q l+1
def D51(P:Program)(t n:Nat):Prop:=P.eqGuardType P.depth t=false/\∀ (a b:List (Int⊕ByteArray)) (w:World),B8q a=n->B8q b=n->(Op.equalIn 10000 t (.agg (B6w a)) (.agg (B6w b))).run P w=.ok (eqM a b) w
theorem C9u{P:Program}{t n:Nat}(h:D51 P t n){a b:List (Int⊕ByteArray)}(ha:B8q a=n)(hb:B8q b=n)(w:World) :
  (∀ op X Y,(eqGuard op t X Y (.agg (B6w a)) (.agg (B6w b))).run P w=.ok () w)/\
  (binOp .eql t (.agg (B6w a)) (.agg (B6w b))).run P w=.ok (.bool (eqM a b)) w/\(binOp .neq t (.agg (B6w a)) (.agg (B6w b))).run P w=.ok (.bool (!eqM a b)) w:=by
 obtain ⟨h1,h2⟩:=h;have e:=h2 a b w ha hb;refine ⟨fun op X Y=>B3Q w op t X Y _ _ h1,?_,?_⟩
 ·rw [B4k,e];rfl
 ·rw [B4l,e];rfl
def C2t(P:Program)(t n:Nat):Prop:=match Nat.blt n 1000,Nat.blt n 2000 with
 | true,_=>D64 P t n
 | false,true=>C8o P t (n-1000)
 | false,false=>D51 P t (n-2000)
def D1Q(P:Program):List (Nat×Nat)->Prop
 | []=>True
 | p::l=>C2t P p.1 p.2/\D1Q P l
def B5r:TypeDesc->Bool
 | .struct _ | .array _ _=>true
 | _=>false
structure TyI where
 agg:Bool
 k:K
 bytes:Nat
 flds:List (Nat×Nat×Bool)
structure D3h where
 k:K
 l:Nat
 fn:List k.T->ByteArray->Option Int
structure Cfg where
 ty:Nat->Option TyI
 el:Nat->Option Nat
 pk:Nat->Option D3h
 ck:Option (Nat×Nat)
 pt:List Nat
 eq:Nat->Option Nat
 ar:Nat->Option (Nat×Nat):=fun _=>none
def zc:K->List Value
 | .int U=> [.int U 0]
 | .bool=> [.bool false]
 | .fnc f=> [fV f]
 | .str=> [.string ⟨#[]⟩]
 | .sl _ _=> [.slice none 0 0]
 | .rs _ _=> [.slice none 0 0]
 | .pa _ _=> [.pointer none]
 | .pair a b=>zc a++zc b
def zd:(k:K)->k.T
 | .int _=>(0:Int)
 | .bool=>false
 | .fnc _=>()
 | .str=>(⟨#[]⟩:ByteArray)
 | .sl _ k=>([]:List k.T)
 | .rs _ k=>([]:List k.T)
 | .pa _ k=>([]:List k.T)
 | .pair a b=>(zd a,zd b)
def zl:K->List Lf
 | .int U=> [.int U 0]
 | .bool=> [.bool false]
 | .fnc f=> [.fn f]
 | .str=> [.str ⟨#[]⟩]
 | .sl _ _=> [.nil]
 | .rs _ _=> [.nil]
 | .pa n k=> [.rpa n k []]
 | .pair a b=>zl a++zl b
structure C03 (P:Program) (fd:Field) (f:Nat×Nat×Bool):Prop where
 off:fd.offset=f.1
 info:∃ i,P.info? fd.type=some i/\i.size=f.2.1
 pos:0<f.2.1
 agg:∃ d,P.underlying fd.type=some d/\B5r d=f.2.2
def C2u(P:Program)(f:Nat)(F:D3h):Prop:=
 ∀ xs id i,F.fn xs id=some i->∀ (w:World) (g o:Nat) (v:Value),w.cell? ⟨g,o+F.l,none⟩=some v->RoL (Ro F.k w (fun _=>none)) F.k.sz w (fun _=>none) xs [v]->
  Calls P f #[.pointer (some ⟨g,o,none⟩),.string id] w fun e w'=>∃ cs:List Value,e=.returned (.tuple #[.agg cs.toArray,.bool (decide (0<=i))])/\
   (w.heap.size<=w'.heap.size/\w'.os=w.os/\w'.tape=w.tape/\w'.output=w.output)/\(∀ b,b<w.heap.size->w'.heap[b]? = w.heap[b]?)/\(i<0->cs=zc F.k)/\
   (0<=i->i.toNat<xs.length/\cs.length=F.k.sz/\∀ A n c,v=.slice (some A) n c->∀ j u,cs[j]? = some u->w.cell? (A.add (i.toNat*F.k.sz+j))=some u)
def C55(lo hi:Nat):Value->Value
 | .slice a _ _=>.slice (a.map (·.add lo)) (hi-lo) (hi-lo)
 | v=>v
def B9V(P:Program)(f:Nat):Prop:=(∀ args w,(callFunc f args).run P w=.ok (.enter f args) w)/\
 ∀ (N l b1 b2 e:Nat) (xs:List Int) (n:Nat),0<n->n<=1048576->xs.length<=1152921504606846976->∀ (J:Nat->World->Prop),(∀ i W,J i W->J i W.drew)->
  (∀ i W,J i W->∃ v1 Z,W.cell? ⟨b1,0,none⟩=some v1/\W.cell? ⟨b2,0,none⟩=some (.int .i64 n)/\Ro (.rs e (.int .u8)) W Z xs [v1])->
  (∀ i W v1,i*n<xs.length->J i W->W.cell? ⟨b1,0,none⟩=some v1->
   YieldAt Fence.wide N P l #[C55 (i*n) (min (i*n+n) xs.length) v1] W (fun e W'=>e=.returned (.bool true)/\J (i+1) W'))->
  ∀ W,J 0 W->CallsIn Fence.wide (N+1) P f (#[.func (.yield l) #[] #[]]++#[.pointer (some ⟨b1,0,none⟩),.pointer (some ⟨b2,0,none⟩)]) W fun e W'=>(∃ v,e=.returned v)/\J ((xs.length+n-1) / n) W'
def B9W(P:Program)(f g:Nat):Prop:=B9V P g/\
 ∀ (w:World) (A:Option Addr) (len cap:Nat) (n:Int),0<n->Calls P f #[.slice A len cap,.int .i64 n] w fun e w'=>∃ b1 b2,e=.returned (.func (.func g) #[] #[.pointer (some ⟨b1,0,none⟩),.pointer (some ⟨b2,0,none⟩)])/\
  (w.heap.size<=w'.heap.size/\w'.os=w.os/\w'.tape=w.tape/\w'.output=w.output)/\(∀ b,b<w.heap.size->w'.heap[b]? = w.heap[b]?)/\
  w.heap.size<=b1/\w.heap.size<=b2/\w'.cell? ⟨b1,0,none⟩=some (.slice A len cap)/\w'.cell? ⟨b2,0,none⟩=some (.int .i64 n)
def D1R(P:Program)(ty:Nat->Option TyI)(t n e:Nat):Prop:=P.underlying t=some (.array n e)/\∃ f z,P.info? t=some f/\f.zero=some z/\∀ ti,ty e=some ti->z.cells.toList=(List.replicate n (zc ti.k)).flatten
structure L3 (P:Program) (c:Cfg):Prop where
 ck:∀ {f g},c.ck=some (f,g)->(∀ args w,(callFunc f args).run P w=.ok (.enter f args) w)/\B9W P f g
 pk:∀ {f F},c.pk f=some F->(∀ args w,(callFunc f args).run P w=.ok (.enter f args) w)/\C2u P f F
 info:∀ {t i},c.ty t=some i->∃ f z,P.info? t=some f/\f.size=i.k.sz/\f.bytes=i.bytes/\f.zero=some z/\z.cells.toList=zc i.k/\(i.agg=true->z=.agg z.cells)
 agg:∀ {t i},c.ty t=some i->∃ d,P.underlying t=some d/\B5r d=i.agg
 st:∀ {t i},c.ty t=some i->i.agg=true->∃ fs,P.underlying t=some (.struct fs)/\fs.size=i.flds.length/\∀ (j:Nat) f,i.flds[j]? = some f->∃ fd,fs[j]? = some fd/\C03 P fd f
 int:∀ {t i U},c.ty t=some i->i.k=.int U->P.underlying t=some (.int U)
 bool:∀ {t i},c.ty t=some i->i.k=.bool->P.underlying t=some .bool
 str:∀ {t i},c.ty t=some i->i.k=.str->P.underlying t=some .string
 el:∀ {t e},c.el t=some e->P.underlying t=some (.slice e)
 pt:∀ {t},c.pt.any (Nat.beq t)=true->∃ d,P.underlying t=some d/\B5r d=false
 eq:∀ {t n},c.eq t=some n->C2t P t n
 ar:∀ {t n e},c.ar t=some (n,e)->D1R P c.ty t n e
def B9a:Value->Option AV
 | .int k n=>some (.one (.int k n))
 | .bool b=>some (.one (.bool b))
 | .string s=>some (.one (.str s))
 | .slice none 0 0=>some (.one .nil)
 | .pointer none=>some (.one .nilp)
 | .nilIface=>some (.one (.fn 999999999))
 | _=>none
def M5(s:St):Operand->Option (AV×List (Loc×LV))
 | .tmp d=>match s.getT d with
  | some v=>some (v,[(.t d,.t v)])
  | none=>none
 | .const c=>match B9a c with
  | some v=>some (v,[])
  | none=>none
 | .func f=>match Nat.beq f 999999999 with
  | false=>some (.one (.fn f),[])
  | true=>none
 | .global _=>none
theorem C6p{c:Value}{v:AV}(h:B9a c=some v)(s:St)(m:Mem):AVC s m v c:=by
 unfold B9a at h;split at h<;>first | (injection h with h;subst h;rfl) | cases h
theorem E0{s s':St}{x:Operand}{v:AV}{rd:List (Loc×LV)}(h:M5 s x=some (v,rd)){n:Nat}{w0:World}{Z0:Gh}{a:Act}{m:Mem}
  (hr:Rel n w0 Z0 s' a m) (hrd:Reads s' rd):AVC s' m v (a.eval x):=by
 cases x with
 | tmp d=>
  simp only [M5] at h;split at h
  ·rename_i u hu;injection h with h;injection h with h1 h2;subst h1;subst h2
   exact hr.tm d u (hrd _ A5)
  ·cases h
 | const c=>
  simp only [M5] at h;split at h
  ·rename_i u hu;injection h with h;injection h with h1 h2;subst h1;subst h2
   exact C6p hu s' m
  ·cases h
 | func f=>
  simp only [M5] at h;split at h
  ·rename_i hf;injection h with h;injection h with h1 h2;subst h1
   exact (D50 hf).symm
  ·cases h
 | global g=>simp [M5] at h
theorem C0{s:St}{x:Operand}{v:AV}{rd:List (Loc×LV)}(h:M5 s x=some (v,rd)):Reads s rd:=by
 cases x with
 | tmp d=>
  simp only [M5] at h;split at h
  ·rename_i u hu;injection h with h;injection h with h1 h2;subst h1;subst h2
   intro p hp;rw [A6.1 hp];exact St.getT_some.1 hu
  ·cases h
 | const c=>
  simp only [M5] at h;split at h
  ·injection h with h;injection h with h1 h2;subst h2;intro p hp;cases hp
  ·cases h
 | func f=>
  simp only [M5] at h;split at h
  ·injection h with h;injection h with h1 h2;subst h2;intro p hp;cases hp
  ·cases h
 | global g=>simp [M5] at h
theorem Reads.app{s:St}{a b:List (Loc×LV)}:Reads s (a++b)↔Reads s a/\Reads s b:=
 ⟨fun h=>⟨fun p hp=>h p (E4 _ hp),fun p hp=>h p (D4 _ hp)⟩,
  fun h p hp=>(C9.1 hp).elim (h.1 p) (h.2 p)⟩
def lfV:Lf->Option Value
 | .int k n=>some (.int k n)
 | .bool b=>some (.bool b)
 | .str s=>some (.string s)
 | _=>none
def ofV:Value->Option Lf
 | .int k n=>some (.int k n)
 | .bool b=>some (.bool b)
 | .string s=>some (.str s)
 | _=>none
theorem C3W{l:Lf}{v:Value}(h:lfV l=some v){s:St}{m:Mem}{x:Value}(hx:LfC s m l x):x=v:=by
 cases l<;>simp [lfV] at h<;>subst h<;>exact hx
theorem D1S{l:Lf}{v:Value}(h:ofV v=some l)(s:St)(m:Mem):LfC s m l v:=by
 unfold ofV at h;split at h<;>first | (injection h with h;subst h;rfl) | cases h
def C8p(op:BinOp)(t:Nat)(x y:Lf):Option Lf:=
 match lfV x,lfV y with
 | some a,some b=>match binOp op t a b with
  | .pure v=>ofV v
  | _=>none
 | _,_=>none
theorem D1T{op:BinOp}{t:Nat}{x y l:Lf}(h:C8p op t x y=some l){s:St}{m:Mem}{a b:Value}(ha:LfC s m x a)(hb:LfC s m y b)(P:Program) :
  ∃ v,(binOp op t a b).run P m.w=.ok v m.w/\LfC s m l v:=by
 unfold C8p at h;split at h
 ·rename_i va vb e1 e2;rw [C3W e1 ha,C3W e2 hb];split at h
  ·rename_i v e;exact ⟨v,by rw [e];rfl,D1S h s m⟩
  ·cases h
 ·cases h
theorem C6q{op:BinOp}{t:Nat}{x y:Operand}{s:St}{m:Mem}{l:Lf}{a b va:Value}(e:lfV l=some va)(ha:LfC s m l a)(P:Program) :
  (eqGuard op t x y a b).run P m.w=.ok () m.w:=by
 rw [C3W e ha];unfold eqGuard;cases l<;>simp [lfV] at e<;>subst e<;>(split<;>simp)
abbrev A50:Col:=fun _=>none
theorem Keeps.no(w:World)(Z:Col):Keeps w w Z A50:=fun _ _ _=>⟨rfl,rfl⟩
theorem Ro.no{k:K}{w:World}{Z:Col}{x:k.T}{cs:List Value}(h:Ro k w Z x cs):Ro k w A50 x cs:=h.keep (Keeps.no w Z)
theorem Ow.no{k:K}{w:World}{Z:Col}{p:J0}{x:k.T}{cs:List Value}(h:Ow k w Z p x cs):Ro k w A50 x cs:=h.free (fun _ _ _ _=>⟨rfl,rfl⟩) (Keeps.no w Z)
theorem OwL.no{k:K}{e:Nat}{w:World}{Z:Col}{p:J0}{xs:List k.T}{v:Value}(h:OwL (Ow k w Z) e k.sz w Z p xs v):Ro (.rs e k) w A50 xs [v]:=
 Ow.no (k:=.sl e k) (p:=p) ⟨v,rfl,h⟩
structure SL where
 e:Nat
 k:K
 xs:List k.T
def V5:(k:K)->k.T->Nat->Option SL
 | .sl e k,xs,0=>some ⟨e,k,xs⟩
 | .rs e k,xs,0=>some ⟨e,k,xs⟩
 | .pair a b,x,j=>match Nat.blt j a.sz with
  | true=>V5 a x.1 j
  | false=>V5 b x.2 (j-a.sz)
 | _,_,_=>none
theorem A0u{a b:Nat}:Nat.blt a b=true↔a<b:=by simp [M7]
theorem B4r{a b:Nat}:Nat.blt a b=false↔¬ a<b:=by rw [<- A0u];cases Nat.blt a b<;>simp
theorem B4s:∀ {k:K} {w:World} {Z:Col} {x:k.T} {cs:List Value} {off:Nat} {sl:SL} {v:Value},
  Ro k w Z x cs->V5 k x off=some sl->cs[off]? = some v->Ro (.rs sl.e sl.k) w Z sl.xs [v]
 | .int _,_,_,_,_,_,_,_,_,h,_=>by simp [V5] at h
 | .bool,_,_,_,_,_,_,_,_,h,_=>by simp [V5] at h
 | .fnc _,_,_,_,_,_,_,_,_,h,_=>by simp [V5] at h
 | .str,_,_,_,_,_,_,_,_,h,_=>by simp [V5] at h
 | .pa _ _,_,_,_,_,_,_,_,_,h,_=>by simp [V5] at h
 | .sl e k,_,_,_,cs,off,sl,v,hr,h,hv=>by
  cases off with
  | zero=>
   simp only [V5] at h;injection h with h;subst h
   have hr':=hr;obtain ⟨A,c,rfl,_⟩:=hr';simp at hv;subst hv;exact hr
  | succ j=>simp [V5] at h
 | .rs e k,_,_,_,cs,off,sl,v,hr,h,hv=>by
  cases off with
  | zero=>
   simp only [V5] at h;injection h with h;subst h
   have hr':=hr;obtain ⟨A,c,rfl,_⟩:=hr';simp at hv;subst hv;exact hr
  | succ j=>simp [V5] at h
 | .pair a b,_,_,_,cs,off,sl,v,hr,h,hv=>by
  obtain ⟨c0,c1,rfl,h0,h1⟩:=hr;simp only [V5] at h;split at h
  ·rename_i e;have hlt:=A0u.1 e;rw [E5 (by rw [h0.len];exact hlt)] at hv;exact B4s h0 h hv
  ·rename_i e;have hge:=B4r.1 e;rw [E7 (by rw [h0.len];omega),h0.len] at hv;exact B4s h1 h hv
theorem B7s{e:Nat}{k:K}{w:World}{Z:Col}{xs:List k.T}{v:Value}(h:Ro (.rs e k) w Z xs [v]){lo hi:Nat}(h1:lo<=hi)(h2:hi<=xs.length) :
  Ro (.rs e k) w Z ((xs.take hi).drop lo) [cutV k.sz lo hi v]:=by
 obtain ⟨A,c,e1,hl,hm,hc⟩:=h;injection e1 with e1 _
 subst e1;have hlen:((xs.take hi).drop lo).length=hi-lo:=by rw [C4,B3];omega
 refine ⟨if c=lo then A else A.map (·.add (lo*k.sz)),c-lo,by rw [hlen];rfl,by rw [hlen];omega,by omega,fun hn=>?_⟩;rw [hlen] at hn;obtain ⟨ad,rfl,hZ,hi'⟩:=hc (by omega);rw [D8 (by omega)];refine ⟨ad.add (lo*k.sz),rfl,by rw [add_block];exact hZ,fun i hli=>?_⟩;have hlt:lo+i<xs.length:=by rw [hlen] at hli;omega
 obtain ⟨ds,hd,hr,hcell⟩:=hi' (lo+i) hlt;refine ⟨ds,hd,?_,fun j u hu=>?_⟩
 ·have:((xs.take hi).drop lo)[i]=xs[lo+i]:=by simp
  rw [this];exact hr
 ·have h3:=hcell j u hu;have hsp:ad.spot=none:=by
   obtain ⟨ds0,hd0,hr0,hcell0⟩:=hi' 0 (by omega);have h0:0<ds0.length:=by rw [hd0];exact k.sz_pos
   have:=hcell0 0 ds0[0] (by simp [h0]);simp only [A16,E1,Addr.add,Q5] at this;unfold World.cell? at this;split at this
   ·split at this
    ·cases this
    ·rename_i hh;simpa using hh
   ·cases this
  have e4:(ad.add (lo*k.sz)).add (i*k.sz+j)=ad.add ((lo+i)*k.sz+j):=by
   obtain ⟨ab,ao,asp⟩:=ad;simp only at hsp;subst hsp;simp only [Addr.add,L0];split<;>split<;>split<;>simp_all<;>omega
  rw [e4];exact h3
def rd(k:K)(xs:List k.T)(i:Int):k.T:=xs.getD i.toNat (zd k)
theorem B0c{k:K}{xs:List k.T}{i:Int}(h:i.toNat<xs.length):rd k xs i=xs[i.toNat]:=by
 simp [rd,C6,h]
theorem B9b{e:Nat}{k:K}{w:World}{Z:Col}{xs:List k.T}{v:Value}(h:Ro (.rs e k) w Z xs [v]){i:Nat}(hi:i<xs.length) :
  ∃ (c:Nat) (ad:Addr) (ds:List Value),v=.slice (some ad) xs.length c/\Z ad.block=none/\Ro k w Z xs[i] ds/\∀ j u,ds[j]? = some u->w.cell? (ad.add (i*k.sz+j))=some u:=by
 obtain ⟨A,c,e1,hl,hm,hc⟩:=h;injection e1 with e1 _
 subst e1;obtain ⟨ad,rfl,hZ,hh⟩:=hc (by omega);obtain ⟨ds,hd,hr,hcell⟩:=hh i hi;exact ⟨c,ad,ds,rfl,hZ,hr,hcell⟩
def E9(cfg:Cfg)(s:St)(t:Nat):Lf->Option (SL×List (Loc×LV))
 | .nil=>match cfg.el t with
  | some e=>match cfg.ty e with
   | some i=>some (⟨e,i.k,[]⟩,[])
   | none=>none
  | none=>none
 | .ro e k xs=>some (⟨e,k,xs⟩,[])
 | .own id=>match s.getR id with
  | some r=>some (⟨r.e,r.k,r.xs⟩,[(.r id,.r r)])
  | none=>none
 | .vw id lo hi=>match s.getR id with
  | some r=>some (⟨r.e,r.k,(r.xs.take hi).drop lo⟩,[(.r id,.r r)])
  | none=>none
 | .sub id q off ver=>match s.getR id,s.getX q with
  | some r,some i=>match Nat.beq r.ver ver with
   | true=>match V5 r.k (rd r.k r.xs i) off with
    | some sl=>some (sl,[(.r id,.r r),(.x q,.x i)])
    | none=>none
   | false=>none
  | _,_=>none
 | _=>none
theorem Q6(ad:Addr)(n c:Nat):A0t (.slice (some ad) n c)=ad:=rfl
theorem B5s{cfg:Cfg}{s s':St}{t:Nat}{l:Lf}{sl:SL}{rds:List (Loc×LV)}(h:E9 cfg s t l=some (sl,rds)){n:Nat}{w0:World}{Z0:Gh}{a:Act}{m:Mem}
  (hr:Rel n w0 Z0 s' a m) (hrd:Reads s' rds) {v:Value} (hv:LfC s' m l v):Ro (.rs sl.e sl.k) m.w A50 sl.xs [v]:=by
 cases l with
 | nil=>
  simp only [E9] at h;split at h
  ·split at h
   ·injection h with h;injection h with h _;subst h
    simp only [LfC] at hv;subst hv;exact ⟨none,0,rfl,C5 _,H3 _,fun h=>by simp at h⟩
   ·cases h
  ·cases h
 | ro e k xs=>
  simp only [E9] at h;injection h with h;injection h with h _;subst h
  exact Ro.no (k:=.rs e k) hv
 | own id=>
  simp only [E9] at h;split at h
  ·rename_i r hrow;injection h with h;injection h with h1 h2;subst h1;subst h2
   have hg:=hrd _ A5;rw [hv.2 r hg];exact (hr.rw id r hg).no
  ·cases h
 | vw id lo hi=>
  simp only [E9] at h;split at h
  ·rename_i r hrow;injection h with h;injection h with h1 h2;subst h1;subst h2
   have hg:=hrd _ A5;obtain ⟨h1,h2,h3⟩:=hv.2 r hg;rw [h3];exact B7s (hr.rw id r hg).no h1 h2
  ·cases h
 | sub id q off ver=>
  simp only [E9] at h;split at h
  ·rename_i r i hrow hix;split at h
   ·rename_i hver;split at h
    ·rename_i sl' hsl;injection h with h;injection h with h1 h2;subst h1;subst h2
     have hg:=hrd (.r id,.r r) (by simp);have hq:=hrd (.x q,.x i) (by simp);obtain ⟨h0,h5⟩:=hv.2 r i hg hq;obtain ⟨h1,h2,h3,h4⟩:=h5 (A3 hver);have hno:=(hr.rw id r hg).no;obtain ⟨c,ad,ds,e1,_,hro,hcell⟩:=B9b hno h2;rw [B0c h2] at hsl;have hlen:=hro.len;have hd:ds[off]? = some ds[off]:=by simp [show off<ds.length by omega]
     have:=hcell off _ hd;rw [e1,Q6] at h4;rw [this] at h4;injection h4 with h4
     exact B4s hro hsl (h4▸hd)
    ·cases h
   ·cases h
  ·cases h
 | int k n=>simp [E9] at h
 | bool b=>simp [E9] at h
 | str x=>simp [E9] at h
 | ptr b off=>simp [E9] at h
 | ept id q off=>simp [E9] at h
 | rpt k x off=>simp [E9] at h
 | rpa n k x=>simp [E9] at h
 | mp _=>simp [E9] at h
 | mpb _=>simp [E9] at h
 | apt n id=>simp [E9] at h
 | fn f=>simp [E9] at h
 | anyb=>simp [E9] at h
 | chk _ _ _ _ _=>simp [E9] at h
 | clo _ _ _=>simp [E9] at h
 | any=>simp [E9] at h
 | nilp=>simp [E9] at h
 | ext id q off ver p e k zs=>simp [E9] at h
theorem A1C{cfg:Cfg}{s:St}{t:Nat}{l:Lf}{sl:SL}{rds:List (Loc×LV)}(h:E9 cfg s t l=some (sl,rds)):Reads s rds:=by
 unfold E9 at h;split at h
 ·split at h
  ·split at h
   ·injection h with h;injection h with _ h;subst h;intro p hp;cases hp
   ·cases h
  ·cases h
 ·injection h with h;injection h with _ h;subst h;intro p hp;cases hp
 ·split at h
  ·rename_i r hr;injection h with h;injection h with _ h;subst h
   intro p hp;rw [A6.1 hp];exact St.getR_some.1 hr
  ·cases h
 ·split at h
  ·rename_i r hr;injection h with h;injection h with _ h;subst h
   intro p hp;rw [A6.1 hp];exact St.getR_some.1 hr
  ·cases h
 ·split at h
  ·rename_i r i hr hi;split at h
   ·split at h
    ·injection h with h;injection h with _ h;subst h
     intro p hp;simp only [B8,S2,A6l] at hp;rcases hp with rfl | rfl
     ·exact St.getR_some.1 hr
     ·exact St.getX_some.1 hi
    ·cases h
   ·cases h
  ·cases h
 ·cases h
abbrev Rds:=List (Loc×LV)
abbrev Kp(R:Type):=Rds->List (Nat×Int)->AV->Option R
def OutP{R:Type}(P:Program)(s:St)(op:Op)(U:Kp R)(r:R):Prop:=
 ∃ rds xw v,U rds xw v=some r/\Reads s rds/\∀ n (o:Oper),o.op=op->Pure1 P n o rds xw v
theorem Reads.nil(s:St):Reads s []:=fun _ h=>nomatch h
theorem OutP.mk'{R:Type}{P:Program}{s:St}{op:Op}{U:Kp R}{r:R}(rds:Rds)(v:AV)(hU:U rds [] v=some r)(hrd:Reads s rds)
  (h:∀ n w0 Z0 s a m (o:Oper),o.op=op->Rel n w0 Z0 s a m->Reads s rds->∃ val,(execOp a.eval o).run P m.w=.ok (.value val) m.w/\AVC s m v val):OutP P s op U r:=
 ⟨rds,[],v,hU,hrd,fun n o ho w0 Z0 s a m hr hrd _=>h n w0 Z0 s a m o ho hr hrd⟩
def C8q{R:Type}(s:St)(x:Operand)(U:Kp R):Option R:=
 match M5 s x with
 | some (v,rds)=>U rds [] v
 | none=>none
theorem C56{R:Type}{P:Program}{s:St}{x:Operand}{U:Kp R}{r:R}(h:C8q s x U=some r){op:Op}(hop:op=.move x\/op=.assign x):OutP P s op U r:=by
 unfold C8q at h;split at h
 ·rename_i v rds e;refine .mk' rds v h (C0 e) fun n w0 Z0 s' a m o ho hr hrd=>⟨a.eval x,?_,E0 e hr hrd⟩
  rcases hop with rfl | rfl<;>simp [execOp,ho]
 ·cases h
def D1U{R:Type}(s:St)(c x y:Operand)(U:Kp R):Option R:=
 match M5 s c with
 | some (.one (.bool b),rc)=>bif b then (match M5 s x with | some (v,rds)=>U (rc++rds) [] v | none=>none) else (match M5 s y with | some (v,rds)=>U (rc++rds) [] v | none=>none)
 | _=>none
theorem D1V{R:Type}{P:Program}{s:St}{c x y:Operand}{U:Kp R}{r:R}(h:D1U s c x y U=some r):OutP P s (.pick c x y) U r:=by
 unfold D1U at h;split at h
 ·rename_i b rc ec;cases b with
  | true=>
   simp only [B7] at h;split at h
   ·rename_i v rds e;refine .mk' (rc++rds) v h (Reads.app.2 ⟨C0 ec,C0 e⟩) fun n w0 Z0 s' a m o ho hr hrd=>⟨a.eval x,?_,E0 e hr (Reads.app.1 hrd).2⟩
    have hb:a.eval c=.bool true:=E0 ec hr (Reads.app.1 hrd).1;simp [execOp,ho,hb,asBool]
   ·cases h
  | false=>
   simp only [B1] at h;split at h
   ·rename_i v rds e;refine .mk' (rc++rds) v h (Reads.app.2 ⟨C0 ec,C0 e⟩) fun n w0 Z0 s' a m o ho hr hrd=>⟨a.eval y,?_,E0 e hr (Reads.app.1 hrd).2⟩
    have hb:a.eval c=.bool false:=E0 ec hr (Reads.app.1 hrd).1;simp [execOp,ho,hb,asBool]
   ·cases h
 ·cases h
def D5I{R:Type}(cfg:Cfg)(op:BinOp)(t:Nat)(x y:Lf)(U:Lf->Option R):Option R:=
 match op,x,y with
 | .quo,.int k a,.int k' b=>match decide (k=k') with
  | true=>bif b == 0 then none else U (.int k (k.wrap (a.tdiv b)))
  | false=>none
 | .rem,.int k a,.int k' b=>match decide (k=k') with
  | true=>bif b == 0 then none else U (.int k (a.tmod b))
  | false=>none
 | .shl,.int k a,.int _ b=>bif decide (b<0) then none else U (.int k (k.wrap (a*2 ^ (min b.toNat k.bits))))
 | .shr,.int k a,.int _ b=>bif decide (b<0) then none else U (.int k (a.fdiv (2 ^ (min b.toNat k.bits))))
 | .add,.str a,.str b=>bif decide (((a.size+b.size:Nat):Int)>i64.max) then none else U (.str (a++b))
 | .eql,.bool a,.bool b=>match cfg.ty t with
  | some ⟨_,.bool,_,_⟩=>U (.bool (a == b))
  | _=>none
 | .neq,.bool a,.bool b=>match cfg.ty t with
  | some ⟨_,.bool,_,_⟩=>U (.bool (!(a == b)))
  | _=>none
 | op,x,y=>match C8p op t x y with
  | some l=>U l
  | none=>none
theorem D3i{R:Type}{P:Program}{cfg:Cfg}(hc:L3 P cfg){op:BinOp}{t:Nat}{x y:Lf}{U:Lf->Option R}{r:R}(h:D5I cfg op t x y U=some r) :
  ∃ l,U l=some r/\∀ (s:St) (m:Mem) (a b:Value) (X Y:Operand),LfC s m x a->LfC s m y b->
   (eqGuard op t X Y a b).run P m.w=.ok () m.w/\∃ v,(binOp op t a b).run P m.w=.ok v m.w/\LfC s m l v:=by
 unfold D5I at h;split at h
 ·split at h
  ·rename_i k a k' b _ hk;have hk:=B0 hk;subst hk;cases hb:(b == 0) with
   | true=>rw [hb] at h;cases h
   | false=>
    rw [hb] at h;have hb':b≠0:=by simpa using hb
    refine ⟨_,h,fun s m u v X Y hu hv=>?_⟩;simp only [LfC] at hu hv;subst hu;subst hv;exact ⟨by simp [eqGuard],_,by simp [binOp,Op.intDiv,hb'],rfl⟩
  ·cases h
 ·split at h
  ·rename_i k a k' b _ hk;have hk:=B0 hk;subst hk;cases hb:(b == 0) with
   | true=>rw [hb] at h;cases h
   | false=>
    rw [hb] at h;have hb':b≠0:=by simpa using hb
    refine ⟨_,h,fun s m u v X Y hu hv=>?_⟩;simp only [LfC] at hu hv;subst hu;subst hv;exact ⟨by simp [eqGuard],_,by simp [binOp,Op.intDiv,hb'],rfl⟩
  ·cases h
 ·rename_i k a k' b;cases hb:decide (b<0) with
  | true=>rw [hb] at h;cases h
  | false=>
   rw [hb] at h;have hb':¬ b<0:=by simpa using hb
   refine ⟨_,h,fun s m u v X Y hu hv=>?_⟩;simp only [LfC] at hu hv;subst hu;subst hv;exact ⟨by simp [eqGuard],_,by simp [binOp,Op.shift,hb'],rfl⟩
 ·rename_i k a k' b;cases hb:decide (b<0) with
  | true=>rw [hb] at h;cases h
  | false=>
   rw [hb] at h;have hb':¬ b<0:=by simpa using hb
   refine ⟨_,h,fun s m u v X Y hu hv=>?_⟩;simp only [LfC] at hu hv;subst hu;subst hv;exact ⟨by simp [eqGuard],_,by simp [binOp,Op.shift,hb'],rfl⟩
 ·rename_i a b;cases hb:decide (((a.size+b.size:Nat):Int)>i64.max) with
  | true=>rw [hb] at h;cases h
  | false=>
   rw [hb] at h;have hb':¬ ((a.size+b.size:Nat):Int)>i64.max:=A90 hb;refine ⟨_,h,fun s m u v X Y hu hv=>?_⟩;simp only [LfC] at hu hv;subst hu;subst hv;refine ⟨by simp [eqGuard],_,?_,rfl⟩;simp only [binOp,Op.stringOp];rw [D8 hb'];rfl
 ·split at h
  ·rename_i a b _ _ _ _ e;refine ⟨_,h,fun s m u v X Y hu hv=>?_⟩;simp only [LfC] at hu hv;subst hu;subst hv;exact ⟨by simp [eqGuard],_,run_eql_bool m.w t a b (hc.bool e rfl),rfl⟩
  ·cases h
 ·split at h
  ·rename_i a b _ _ _ _ e;refine ⟨_,h,fun s m u v X Y hu hv=>?_⟩;simp only [LfC] at hu hv;subst hu;subst hv;exact ⟨by simp [eqGuard],_,run_neq_bool m.w t a b (hc.bool e rfl),rfl⟩
  ·cases h
 ·split at h
  ·rename_i l e;refine ⟨l,h,fun s m u v X Y hu hv=>⟨?_,D1T e hu hv P⟩⟩;unfold C8p at e;split at e
   ·rename_i va vb e1 e2;exact C6q e1 hu P
   ·cases e
  ·cases h
def ints:List Lf->Option (List Int)
 | []=>some []
 | .int .i64 n::l=>match ints l with
  | some a=>some (n::a)
  | none=>none
 | _::_=>none
theorem C3a{s:St}{m:Mem}:∀ {la:List Lf} {a:List Int} {cs:List Value},ints la=some a->All2 (LfC s m) la cs->cs=a.map (Value.int .i64)
 | [],a,[],h,_=>by simp only [ints] at h;injection h with h;subst h;rfl
 | [],a,_::_,h,h2=>by cases h2
 | l::la,a,[],h,h2=>by cases h2
 | l::la,a,c::cs,h,h2=>by
  obtain ⟨g1,g2⟩:=h2;unfold ints at h;split at h
  ·rename_i e;cases e
  ·rename_i n l' e;injection e with e1 e2
   subst e1;subst e2;split at h
   ·rename_i a' ea;injection h with h
    subst h;rw [C3a ea g2];simp only [LfC] at g1;rw [g1];rfl
   ·cases h
  ·cases h
def D5J{R:Type}(cfg:Cfg)(op:BinOp)(t:Nat)(a b:List Int)(U:Lf->Option R):Option R:=
 match cfg.eq t with
 | some n=>match Nat.blt n 1000,Nat.beq a.length n,Nat.beq b.length n with
  | true,true,true=>match op with
   | .eql=>U (.bool (eqI a b))
   | .neq=>U (.bool (!eqI a b))
   | _=>none
  | _,_,_=>none
 | none=>none
def strs:List Lf->Option (List ByteArray)
 | []=>some []
 | .str n::l=>match strs l with
  | some a=>some (n::a)
  | none=>none
 | _::_=>none
theorem B9c{s:St}{m:Mem}:∀ {la:List Lf} {a:List ByteArray} {cs:List Value},strs la=some a->All2 (LfC s m) la cs->cs=a.map Value.string
 | [],a,[],h,_=>by simp only [strs] at h;injection h with h;subst h;rfl
 | [],a,_::_,h,h2=>by cases h2
 | l::la,a,[],h,h2=>by cases h2
 | l::la,a,c::cs,h,h2=>by
  obtain ⟨g1,g2⟩:=h2;unfold strs at h;split at h
  ·rename_i e;cases e
  ·rename_i n l' e;injection e with e1 e2
   subst e1;subst e2;split at h
   ·rename_i a' ea;injection h with h
    subst h;rw [B9c ea g2];simp only [LfC] at g1;rw [g1];rfl
   ·cases h
  ·cases h
def D5K{R:Type}(cfg:Cfg)(op:BinOp)(t:Nat)(a b:List ByteArray)(U:Lf->Option R):Option R:=
 match cfg.eq t with
 | some n=>match Nat.blt n 1000,Nat.blt n 2000,Nat.beq a.length (n-1000),Nat.beq b.length (n-1000) with
  | false,true,true,true=>match op with
   | .eql=>U (.bool (eqB a b))
   | .neq=>U (.bool (!eqB a b))
   | _=>none
  | _,_,_,_=>none
 | none=>none
def C6r:List Lf->Option (List (Int⊕ByteArray))
 | []=>some []
 | .str n::l=>match C6r l with
  | some a=>some (.inr n::a)
  | none=>none
 | .int .i64 n::l=>match C6r l with
  | some a=>some (.inl n::a)
  | none=>none
 | _::_=>none
theorem B9d{s:St}{m:Mem}:∀ {la:List Lf} {a:List (Int⊕ByteArray)} {cs:List Value},C6r la=some a->All2 (LfC s m) la cs->cs=a.map pvM
 | [],a,[],h,_=>by simp only [C6r] at h;injection h with h;subst h;rfl
 | [],a,_::_,h,h2=>by cases h2
 | l::la,a,[],h,h2=>by cases h2
 | l::la,a,c::cs,h,h2=>by
  obtain ⟨g1,g2⟩:=h2;unfold C6r at h;split at h
  ·rename_i e;cases e
  ·rename_i n l' e;injection e with e1 e2
   subst e1;subst e2;split at h
   ·rename_i a' ea;injection h with h
    subst h;rw [B9d ea g2];simp only [LfC] at g1;rw [g1];rfl
   ·cases h
  ·rename_i n l' e;injection e with e1 e2
   subst e1;subst e2;split at h
   ·rename_i a' ea;injection h with h
    subst h;rw [B9d ea g2];simp only [LfC] at g1;rw [g1];rfl
   ·cases h
  ·cases h
def D5L{R:Type}(cfg:Cfg)(op:BinOp)(t:Nat)(a b:List (Int⊕ByteArray))(U:Lf->Option R):Option R:=
 match cfg.eq t with
 | some n=>match Nat.blt n 1000,Nat.blt n 2000,Nat.beq (B8q a) (n-2000),Nat.beq (B8q b) (n-2000) with
  | false,false,true,true=>match op with
   | .eql=>U (.bool (eqM a b))
   | .neq=>U (.bool (!eqM a b))
   | _=>none
  | _,_,_,_=>none
 | none=>none
theorem D3j{R:Type}{P:Program}{cfg:Cfg}(hc:L3 P cfg){op:BinOp}{t:Nat}{a b:List (Int⊕ByteArray)}{U:Lf->Option R}{r:R}(h:D5L cfg op t a b U=some r) :
  ∃ l,U l=some r/\∀ (s:St) (m:Mem) (X Y:Operand),(eqGuard op t X Y (.agg (B6w a)) (.agg (B6w b))).run P m.w=.ok () m.w/\∃ v,(binOp op t (.agg (B6w a)) (.agg (B6w b))).run P m.w=.ok v m.w/\LfC s m l v:=by
 unfold D5L at h;split at h
 ·rename_i n en;split at h
  ·rename_i hn hn2 ha hb;have ha:=A3 ha;have hb:=A3 hb;have he:=hc.eq en;unfold C2t at he;rw [hn,hn2] at he;have ht:=fun w=>C9u he ha hb w
   split at h
   ·exact ⟨_,h,fun s m X Y=>⟨(ht m.w).1 _ _ _,_,(ht m.w).2.1,rfl⟩⟩
   ·exact ⟨_,h,fun s m X Y=>⟨(ht m.w).1 _ _ _,_,(ht m.w).2.2,rfl⟩⟩
   ·cases h
  ·cases h
 ·cases h
theorem D3k{R:Type}{P:Program}{cfg:Cfg}(hc:L3 P cfg){op:BinOp}{t:Nat}{a b:List ByteArray}{U:Lf->Option R}{r:R}(h:D5K cfg op t a b U=some r) :
  ∃ l,U l=some r/\∀ (s:St) (m:Mem) (X Y:Operand),(eqGuard op t X Y (.agg (B1I a)) (.agg (B1I b))).run P m.w=.ok () m.w/\∃ v,(binOp op t (.agg (B1I a)) (.agg (B1I b))).run P m.w=.ok v m.w/\LfC s m l v:=by
 unfold D5K at h;split at h
 ·rename_i n en;split at h
  ·rename_i hn hn2 ha hb;have ha:=A3 ha;have hb:=A3 hb;have he:=hc.eq en;unfold C2t at he;rw [hn,hn2] at he;have ht:=fun w=>C9t he ha hb w
   split at h
   ·exact ⟨_,h,fun s m X Y=>⟨(ht m.w).1 _ _ _,_,(ht m.w).2.1,rfl⟩⟩
   ·exact ⟨_,h,fun s m X Y=>⟨(ht m.w).1 _ _ _,_,(ht m.w).2.2,rfl⟩⟩
   ·cases h
  ·cases h
 ·cases h
theorem D3l{R:Type}{P:Program}{cfg:Cfg}(hc:L3 P cfg){op:BinOp}{t:Nat}{a b:List Int}{U:Lf->Option R}{r:R}(h:D5J cfg op t a b U=some r) :
  ∃ l,U l=some r/\∀ (s:St) (m:Mem) (X Y:Operand),(eqGuard op t X Y (.agg (A78 a)) (.agg (A78 b))).run P m.w=.ok () m.w/\∃ v,(binOp op t (.agg (A78 a)) (.agg (A78 b))).run P m.w=.ok v m.w/\LfC s m l v:=by
 unfold D5J at h;split at h
 ·rename_i n en;split at h
  ·rename_i hn ha hb;have ha:=A3 ha;have hb:=A3 hb;have he:=hc.eq en;unfold C2t at he;rw [hn] at he;have ht:=fun w=>D1O he ha hb w
   split at h
   ·exact ⟨_,h,fun s m X Y=>⟨(ht m.w).1 _ _ _,_,(ht m.w).2.1,rfl⟩⟩
   ·exact ⟨_,h,fun s m X Y=>⟨(ht m.w).1 _ _ _,_,(ht m.w).2.2,rfl⟩⟩
   ·cases h
  ·cases h
 ·cases h
def D5M{R:Type}(cfg:Cfg)(s:St)(op:BinOp)(t:Nat)(x y:Operand)(U:Kp R):Option R:=
 match M5 s x,M5 s y with
 | some (.one lx,rx),some (.one ly,ry)=>D5I cfg op t lx ly fun l=>U (rx++ry) [] (.one l)
 | some (.agg la,rx),some (.agg lb,ry)=>match ints la,ints lb with
  | some a,some b=>D5J cfg op t a b fun l=>U (rx++ry) [] (.one l)
  | _,_=>match strs la,strs lb with
   | some a,some b=>D5K cfg op t a b fun l=>U (rx++ry) [] (.one l)
   | _,_=>match C6r la,C6r lb with
    | some a,some b=>D5L cfg op t a b fun l=>U (rx++ry) [] (.one l)
    | _,_=>none
 | _,_=>none
theorem D3m{R:Type}{P:Program}{cfg:Cfg}(hc:L3 P cfg){s:St}{op:BinOp}{t:Nat}{x y:Operand}{U:Kp R}{r:R}(h:D5M cfg s op t x y U=some r)(yt:Nat) :
  OutP P s (.binOp op t x y yt) U r:=by
 unfold D5M at h;split at h
 ·rename_i lx rx ly ry ex ey;obtain ⟨l,hU,hl⟩:=D3i hc h;refine .mk' (rx++ry) (.one l) hU (Reads.app.2 ⟨C0 ex,C0 ey⟩) fun n w0 Z0 s' a m o ho hr hrd=>?_
  obtain ⟨hg,v,hrun,hv⟩:=hl s' m (a.eval x) (a.eval y) x y (E0 ex hr (Reads.app.1 hrd).1) (E0 ey hr (Reads.app.1 hrd).2);exact ⟨v,by simp [execOp,ho,C3,hg,hrun],hv⟩
 ·rename_i la rx lb ry ex ey;split at h
  ·rename_i va vb ea eb;obtain ⟨l,hU,hl⟩:=D3l hc h;refine .mk' (rx++ry) (.one l) hU (Reads.app.2 ⟨C0 ex,C0 ey⟩) fun n w0 Z0 s' a m o ho hr hrd=>?_
   obtain ⟨ca,e1,h1⟩:=E0 ex hr (Reads.app.1 hrd).1;obtain ⟨cb,e2,h2⟩:=E0 ey hr (Reads.app.1 hrd).2;obtain ⟨hg,v,hrun,hv⟩:=hl s' m x y;rw [C3a ea h1] at e1;rw [C3a eb h2] at e2;exact ⟨v,by rw [execOp,ho];simp only [C3];rw [show a.eval x=.agg (A78 va) from e1,show a.eval y=.agg (A78 vb) from e2,hg];simp [hrun],hv⟩
  ·split at h
   ·rename_i va vb ea eb;obtain ⟨l,hU,hl⟩:=D3k hc h;refine .mk' (rx++ry) (.one l) hU (Reads.app.2 ⟨C0 ex,C0 ey⟩) fun n w0 Z0 s' a m o ho hr hrd=>?_
    obtain ⟨ca,e1,h1⟩:=E0 ex hr (Reads.app.1 hrd).1;obtain ⟨cb,e2,h2⟩:=E0 ey hr (Reads.app.1 hrd).2;obtain ⟨hg,v,hrun,hv⟩:=hl s' m x y;rw [B9c ea h1] at e1;rw [B9c eb h2] at e2;exact ⟨v,by rw [execOp,ho];simp only [C3];rw [show a.eval x=.agg (B1I va) from e1,show a.eval y=.agg (B1I vb) from e2,hg];simp [hrun],hv⟩
   ·split at h
    ·rename_i va vb ea eb;obtain ⟨l,hU,hl⟩:=D3j hc h;refine .mk' (rx++ry) (.one l) hU (Reads.app.2 ⟨C0 ex,C0 ey⟩) fun n w0 Z0 s' a m o ho hr hrd=>?_
     obtain ⟨ca,e1,h1⟩:=E0 ex hr (Reads.app.1 hrd).1;obtain ⟨cb,e2,h2⟩:=E0 ey hr (Reads.app.1 hrd).2;obtain ⟨hg,v,hrun,hv⟩:=hl s' m x y;rw [B9d ea h1] at e1;rw [B9d eb h2] at e2;exact ⟨v,by rw [execOp,ho];simp only [C3];rw [show a.eval x=.agg (B6w va) from e1,show a.eval y=.agg (B6w vb) from e2,hg];simp [hrun],hv⟩
    ·cases h
 ·cases h
def pUn{R:Type}(s:St)(op:UnOp)(x:Operand)(U:Kp R):Option R:=
 match M5 s x with
 | some (.one lx,rx)=>match lfV lx with
  | some v=>match Op.unary op v with
   | .pure u=>match ofV u with
    | some l=>U rx [] (.one l)
    | none=>none
   | _=>none
  | none=>none
 | _=>none
theorem D5N{R:Type}{P:Program}{s:St}{op:UnOp}{x:Operand}{U:Kp R}{r:R}(h:pUn s op x U=some r)(t:Nat):OutP P s (.unOp op t x) U r:=by
 unfold pUn at h;split at h
 ·rename_i lx rx ex;split at h
  ·rename_i v ev;split at h
   ·rename_i u eu;split at h
    ·rename_i l el;refine .mk' rx (.one l) h (C0 ex) fun n w0 Z0 s' a m o ho hr hrd=>⟨u,?_,D1S el s' m⟩
     have hx:a.eval x=v:=C3W ev (E0 ex hr hrd);simp [execOp,ho,hx,eu]
    ·cases h
   ·cases h
  ·cases h
 ·cases h
theorem V1{P:Program}{t:Nat}{d:TypeDesc}(h:P.underlying t=some d)(w:World):(underlying t).run P w=.ok d w:=G6 h w
def C6s(cfg:Cfg)(t:Nat):Option IntKind:=match cfg.ty t with | some ⟨_,.int U,_,_⟩=>some U | _=>none
def A59(cfg:Cfg)(t:Nat):Bool:=match cfg.ty t with | some ⟨_,.str,_,_⟩=>true | _=>false
theorem B9e{P:Program}{cfg:Cfg}(hc:L3 P cfg){t:Nat}{U:IntKind}(h:C6s cfg t=some U):P.underlying t=some (.int U):=by
 unfold C6s at h;split at h
 ·rename_i e;injection h with h;subst h;exact hc.int e rfl
 ·cases h
theorem A3T{P:Program}{cfg:Cfg}(hc:L3 P cfg){t:Nat}(h:A59 cfg t=true):P.underlying t=some .string:=by
 unfold A59 at h;split at h
 ·rename_i e;exact hc.str e rfl
 ·cases h
def strOf(xs:List Int):ByteArray:=strOfNums xs
def D1W{R:Type}(cfg:Cfg)(s:St)(src dst:Nat)(x:Operand)(U:Kp R):Option R:=
 match M5 s x with
 | some (.one (.int k n),rx)=>match cfg.ty src,C6s cfg dst with
  | some _,some U'=>U rx [] (.one (.int U' (U'.wrap n)))
  | _,_=>none
 | some (.one (.str b),rx)=>match cfg.ty src,A59 cfg dst with
  | some _,true=>U rx [] (.one (.str b))
  | _,_=>none
 | some (.one l,rx)=>match cfg.el src,A59 cfg dst with
  | some e,true=>match C6s cfg e with
   | some .u8=>match E9 cfg s src l with
    | some (⟨_,.int .u8,xs⟩,rl)=>U (rx++rl) [] (.one (.str (strOf xs)))
    | _=>none
   | _=>none
  | _,_=>none
 | _=>none
theorem cell_spot{w:World}{a:Addr}{v:Value}(h:w.cell? a=some v):a.spot=none:=by
 unfold World.cell? at h;split at h
 ·split at h
  ·cases h
  ·rename_i hh;simpa using hh
 ·cases h
theorem add_plain(g o n:Nat):(⟨g,o,none⟩:Addr).add n=⟨g,o+n,none⟩:=by unfold Addr.add;split<;>simp_all
theorem C9v{P:Program}{w:World}{Z:Col}{e e' src dst:Nat}{xs:List Int}{v:Value}(h:Ro (.rs e' (.int .u8)) w Z xs [v])
  (hs:P.underlying src=some (.slice e)) (he:P.underlying e=some (.int .u8)) (hd:P.underlying dst=some .string) :
  (convert src dst v).run P w=.ok (.string (strOf xs)) w:=by
 obtain ⟨A,c,e1,hl,hm,hc⟩:=h;injection e1 with e1 _
 subst e1;cases A with
 | none=>
  have hn:xs = []:=by
   cases xs with
   | nil=>rfl
   | cons x xs=>obtain ⟨ad,h,_⟩:=hc (by simp);cases h
  subst hn;rw [run_convert_bytes_nil w src e hs he _ _ dst hd];rfl
 | some ad=>
  by_cases hn:0<xs.length
  ·obtain ⟨ad',e2,hZ,hi⟩:=hc hn;injection e2 with e2;subst e2
   obtain ⟨ds,hd0,hr,hcell⟩:=hi 0 hn;have hsp:ad.spot=none:=by
    have h1:0<ds.length:=by rw [hd0];exact A03
    have:=cell_spot (hcell 0 ds[0] (by simp [h1]));simpa [Addr.add] using this
   obtain ⟨b,off,sp⟩:=ad;simp only at hsp;subst hsp;refine run_convert_bytes_arg w src e hs he b off _ c xs rfl (fun i hi'=>?_) dst hd;obtain ⟨ds,hd,hr,hcell⟩:=hi i hi';simp only [Ro] at hr;subst hr;have:=hcell 0 (.int .u8 xs[i]) (by simp);simp only [K.sz,A0r,K3,add_plain] at this;rw [this];simp [C6,hi']
  ·have hn:xs = []:=F3 (by omega);subst hn;have hl0:(loadCells ad 0).run P w=.ok (([]:List Int).map (Value.int .u8)).toArray w:=rfl;rw [show ([]:List Int).length=0 from rfl,run_convert_bytes_string w src dst e _ _ _ hs he hd,run_bytesToString w ad 0 c [] hl0];rfl
theorem D1a{R:Type}{P:Program}{cfg:Cfg}(hc:L3 P cfg){s:St}{src dst:Nat}{x:Operand}{U:Kp R}{r:R}(h:D1W cfg s src dst x U=some r) :
  OutP P s (.convert src dst x) U r:=by
 unfold D1W at h;split at h
 ·rename_i k n rx ex;split at h
  ·rename_i ti U' e1 e2;refine .mk' rx _ h (C0 ex) fun n0 w0 Z0 s' a m o ho hr hrd=>⟨_,?_,rfl⟩
   have hx:a.eval x=.int k n:=E0 ex hr hrd;obtain ⟨d,hd,_⟩:=hc.agg e1;have h2:=V1 (B9e hc e2) m.w;have h1:=V1 hd m.w;simp [execOp,ho,hx,convert,h1,h2,Conv.intToInt]
  ·cases h
 ·rename_i b rx ex;split at h
  ·rename_i ti e1 e2;refine .mk' rx _ h (C0 ex) fun n0 w0 Z0 s' a m o ho hr hrd=>⟨_,?_,rfl⟩
   have hx:a.eval x=.string b:=E0 ex hr hrd;obtain ⟨d,hd,_⟩:=hc.agg e1;have h2:=V1 (A3T hc e2) m.w;have h1:=V1 hd m.w;simp [execOp,ho,hx,convert,h1,h2]
  ·cases h
 ·rename_i l rx _ _ ex;split at h
  ·rename_i e e1 e2;split at h
   ·rename_i e3;split at h
    ·rename_i xs rl e4;refine .mk' (rx++rl) _ h (Reads.app.2 ⟨C0 ex,A1C e4⟩) fun n0 w0 Z0 s' a m o ho hr hrd=>⟨_,?_,rfl⟩
     have hro:=B5s e4 hr (Reads.app.1 hrd).2 (E0 ex hr (Reads.app.1 hrd).1);have:=C9v (P:=P) hro (hc.el e1) (B9e hc e3) (A3T hc e2);simp [execOp,ho,C3,this]
    ·cases h
   ·cases h
  ·cases h
 ·cases h
def A6q(agg:Bool)(ls:List Lf):Option AV:=
 match agg with
 | true=>some (.agg ls)
 | false=>match ls with
  | [l]=>some (.one l)
  | _=>none
theorem B4t{agg:Bool}{ls:List Lf}{v:AV}(h:A6q agg ls=some v){s:St}{m:Mem}{cs:List Value}(hc:All2 (LfC s m) ls cs) :
  (agg=true->AVC s m v (.agg cs.toArray))/\(agg=false->∃ c,cs = [c]/\AVC s m v c):=by
 unfold A6q at h;split at h
 ·injection h with h;subst h
  exact ⟨fun _=>⟨cs,rfl,hc⟩,fun h=>nomatch h⟩
 ·split at h
  ·injection h with h;subst h
   refine ⟨fun h=>(nomatch h),fun _=>?_⟩
   match cs,hc with
   | [c],hc=>exact ⟨c,rfl,hc.1⟩
  ·cases h
theorem B0d{P:Program}{t:Nat}{d:TypeDesc}(h:P.underlying t=some d)(w:World):(isAgg t).run P w=.ok (B5r d) w:=by
 unfold isAgg;rw [C3,G6 h w];cases d<;>rfl
theorem A6O{P:Program}{t:Nat}{i:TypeInfo}(h:P.info? t=some i)(w:World):(sizeOf t).run P w=.ok i.size w:=by
 simp [sizeOf,typeInfo,h]
theorem extract_toList(cs:List Value)(a b:Nat):cs.toArray.extract a b=((cs.drop a).take (b-a)).toArray:=by
 apply Array.ext';simp [List.extract_eq_take_drop]
theorem D1b{P:Program}{fd:Field}{f:Nat×Nat×Bool}(hf:C03 P fd f){cs:List Value}{v:AV}{s:St}{m:Mem}{ls:List Lf}
  (hp:A6q f.2.2 ((ls.drop f.1).take f.2.1)=some v) (hc:All2 (LfC s m) ls cs):∃ x,(part fd.type cs.toArray fd.offset).run P m.w=.ok x m.w/\AVC s m v x:=by
 obtain ⟨h1,h2⟩:=B4t hp ((hc.drop f.1).take f.2.1);obtain ⟨d,hd,hagg⟩:=hf.agg;obtain ⟨i,hi,hs⟩:=hf.info;unfold part;cases hf2:f.2.2 with
 | true=>
  refine ⟨_,?_,h1 hf2⟩;simp [C3,B0d hd,hagg,hf2,A6O hi,hs,hf.off,extract_toList]
 | false=>
  obtain ⟨c,hc1,hv⟩:=h2 hf2;refine ⟨c,?_,hv⟩;have hcell:cs[f.1]? = some c:=by
   have:((cs.drop f.1).take f.2.1)[0]? = some c:=by rw [hc1];rfl
   rw [G3 hf.pos,F7] at this;simpa using this
  simp [C3,B0d hd,hagg,hf2,hf.off,hcell]
def C6t{R:Type}(cfg:Cfg)(s:St)(t:Nat)(x:Operand)(f:Nat)(U:Kp R):Option R:=
 match M5 s x,cfg.ty t with
 | some (.agg ls,rx),some ⟨true,_,_,fl⟩=>match fl[f]? with
  | some (o,n,b)=>match A6q b ((ls.drop o).take n) with
   | some v=>U rx [] v
   | none=>none
  | none=>none
 | _,_=>none
theorem C9w{R:Type}{P:Program}{cfg:Cfg}(hc:L3 P cfg){s:St}{t:Nat}{x:Operand}{f:Nat}{U:Kp R}{r:R}(h:C6t cfg s t x f U=some r):OutP P s (.field t x f) U r:=by
 unfold C6t at h;split at h
 ·rename_i ls rx k by_ fl ex et;split at h
  ·rename_i o n b ef;split at h
   ·rename_i v ev;refine .mk' rx v h (C0 ex) fun n0 w0 Z0 s' a m oo ho hr hrd=>?_
    obtain ⟨cs,hx,hcs⟩:=E0 ex hr hrd;obtain ⟨fs,hu,_,hfs⟩:=hc.st et rfl;obtain ⟨fd,hfd,hok⟩:=hfs f _ ef;obtain ⟨y,hrun,hv⟩:=D1b hok ev hcs;refine ⟨y,?_,hv⟩;simp [execOp,ho,hx,Instr.field,C3,V1 hu,hfd,asAgg,hrun]
   ·cases h
  ·cases h
 ·cases h
def C04{R:Type}(s:St)(x:Operand)(i:Nat)(U:Kp R):Option R:=
 match M5 s x with
 | some (.tup ps,rx)=>match ps[i]? with
  | some (b,ls)=>match A6q b ls with
   | some v=>U rx [] v
   | none=>none
  | none=>none
 | _=>none
def D5O{R:Type}(s:St)(g:Nat)(fs cs:Array Operand)(U:Kp R):Option R:=
 match fs.toList,cs.toList with
 | [],[x]=>match M5 s x with
  | some (.one (.ptr b off),rx)=>U rx [] (.one (.clo g b off))
  | _=>none
 | _,_=>none
theorem D3n{R:Type}{P:Program}{s:St}{g:Nat}{fs cs:Array Operand}{U:Kp R}{r:R}(h:D5O s g fs cs U=some r):OutP P s (.makeFunc (.func g) fs cs) U r:=by
 unfold D5O at h;split at h
 ·rename_i x e1 e2;have e1:fs=#[]:=by rw [<- U9 (xs:=fs),e1]
  have e2:cs=#[x]:=by rw [<- U9 (xs:=cs),e2]
  subst e1;subst e2;split at h
  ·rename_i b off rx ex;refine .mk' rx _ h (C0 ex) fun n0 w0 Z0 s' a m oo ho hr hrd=>?_
   obtain ⟨h1,h2⟩:=E0 ex hr hrd;exact ⟨.func (.func g) #[] #[a.eval x],by simp [execOp,ho,Instr.makeFunc],_,rfl,h1,h2⟩
  ·cases h
 ·cases h
theorem C57{R:Type}{P:Program}{s:St}{x:Operand}{i:Nat}{U:Kp R}{r:R}(h:C04 s x i U=some r):OutP P s (.extract x i) U r:=by
 unfold C04 at h;split at h
 ·rename_i ps rx ex;split at h
  ·rename_i b ls ep;split at h
   ·rename_i v ev;refine .mk' rx v h (C0 ex) fun n0 w0 Z0 s' a m oo ho hr hrd=>?_
    obtain ⟨vs,hx,hvs⟩:=E0 ex hr hrd;obtain ⟨y,hy,hpc⟩:=hvs.get ep;refine ⟨y,?_,?_⟩
    ·simp [execOp,ho,hx,Instr.extract,hy]
    ·cases b with
     | true=>
      obtain ⟨cs,rfl,hcs⟩:=hpc;exact (B4t ev hcs).1 rfl
     | false=>
      obtain ⟨l,rfl,hl⟩:=hpc;simp only [A6q] at ev;injection ev with ev;subst ev;exact hl
   ·cases h
  ·cases h
 ·cases h
theorem add_add(ad:Addr)(h:ad.spot=none)(a b:Nat):(ad.add a).add b=ad.add (a+b):=by
 obtain ⟨ab,ao,asp⟩:=ad;simp only at h;subst h;simp only [add_plain];rw [N7]
def B5t{R:Type}(cfg:Cfg)(s:St)(t:Nat)(x:Operand)(f:Nat)(U:Kp R):Option R:=
 match M5 s x,cfg.ty t with
 | some (.one l,rx),some ⟨true,_,_,fl⟩=>match fl[f]? with
  | some (o,_,_)=>match l with
   | .ptr b off=>match s.getB b with
    | some c=>U (rx ++ [(.b b,.b c)]) [] (.one (.ptr b (off+o)))
    | none=>none
   | .ept id q off=>match s.getR id,s.getX q with
    | some r,some i=>U (rx ++ [(.r id,.r r),(.x q,.x i)]) [] (.one (.ept id q (off+o)))
    | _,_=>none
   | .rpt k y off=>U rx [] (.one (.rpt k y (off+o)))
   | _=>none
  | none=>none
 | _,_=>none
theorem D1c{k:K}{e:Nat}{w:World}{Z:Col}{p:J0}{xs:List k.T}{v:Value}(h:OwL (Ow k w Z) e k.sz w Z p xs v):(A0t v).spot=none:=by
 obtain ⟨inner,ho,_⟩:=h;rcases ho.2 with ⟨rfl,_⟩ | ⟨g,cap,cur,fz,rfl,_⟩<;>rfl
theorem C28{R:Type}{P:Program}{cfg:Cfg}(hc:L3 P cfg){s:St}{t:Nat}{x:Operand}{f:Nat}{U:Kp R}{r:R}(h:B5t cfg s t x f U=some r):OutP P s (.fieldAddr t x f) U r:=by
 unfold B5t at h;split at h
 ·rename_i l rx k by_ fl ex et;split at h
  ·rename_i o n b ef;have hplace:∀ (w:World) (ad:Addr),∃ fs,P.underlying t=some (.struct fs)/\∃ fd,fs[f]? = some fd/\(fieldPlace ad fd).run P w=.ok (ad.add o) w:=by
    intro w ad;obtain ⟨fs,hu,_,hfs⟩:=hc.st et rfl;obtain ⟨fd,hfd,hok⟩:=hfs f _ ef;refine ⟨fs,hu,fd,hfd,?_⟩;obtain ⟨i,hi,hs⟩:=hok.info;have hpos:=hok.pos;have hne:i.size≠0:=by rw [hs];omega
    have hoff:fd.offset=o:=hok.off;simp [fieldPlace,C3,A6O hi,hne,hoff]
   have hrun:∀ (a:Act) (w:World) (oo:Oper) (ad:Addr),oo.op=.fieldAddr t x f->a.eval x=.pointer (some ad)->(execOp a.eval oo).run P w=.ok (.value (.pointer (some (ad.add o)))) w:=by
    intro a w oo ad ho hx;obtain ⟨fs,hu,fd,hfd,hp⟩:=hplace w ad;simp [execOp,ho,hx,Instr.fieldAt,C3,V1 hu,hfd,Instr.sureAddr,hp]
   split at h
   ·rename_i b' off;split at h
    ·rename_i c ec;refine .mk' _ _ h (Reads.app.2 ⟨C0 ex,fun p hp=>by rw [A6.1 hp];exact St.getB_some.1 ec⟩) fun n0 w0 Z0 s' a m oo ho hr hrd=>?_
     have hx:=(E0 ex hr (Reads.app.1 hrd).1).2 c ((Reads.app.1 hrd).2 _ A5);refine ⟨_,hrun a m.w oo _ ho hx,rfl,fun c' hc'=>?_⟩;rw [add_plain,N7]
    ·cases h
   ·rename_i id q off;split at h
    ·rename_i row i er ei;refine .mk' _ _ h (Reads.app.2 ⟨C0 ex,fun p hp=>?_⟩) fun n0 w0 Z0 s' a m oo ho hr hrd=>?_
     ·simp only [B8,S2,A6l] at hp;rcases hp with rfl | rfl
      ·exact St.getR_some.1 er
      ·exact St.getX_some.1 ei
     ·have h1:=(Reads.app.1 hrd).2 (.r id,.r row) (by simp);have h2:=(Reads.app.1 hrd).2 (.x q,.x i) (by simp);obtain ⟨hx1,hx2,hx⟩:=(E0 ex hr (Reads.app.1 hrd).1).2 row i h1 h2;refine ⟨_,hrun a m.w oo _ ho hx,rfl,fun r' i' hr' hi'=>?_⟩;rw [h1] at hr';rw [h2] at hi';injection hr' with hr';injection hr' with hr';subst hr'
      injection hi' with hi';injection hi' with hi';subst hi'
      refine ⟨hx1,hx2,?_⟩;rw [add_add _ (D1c (hr.rw id row h1)),N7]
    ·cases h
   ·rename_i k' y off;refine .mk' _ _ h (C0 ex) fun n0 w0 Z0 s' a m oo ho hr hrd=>?_
    obtain ⟨ad,ds,hro,hZ,hcell,hx⟩:=E0 ex hr hrd;refine ⟨_,hrun a m.w oo _ ho hx,ad,ds,hro,hZ,hcell,?_⟩;have hsp:ad.spot=none:=by
     have h0:0<ds.length:=by rw [hro.len];exact k'.sz_pos
     have:=cell_spot (hcell 0 ds[0] (by simp [h0]));simpa [Addr.add] using this
    rw [add_add _ hsp]
   ·cases h
  ·cases h
 ·cases h
def D5P{R:Type}(s:St)(x:Operand)(U:Kp R):Option R:=
 match M5 s x with
 | some (.one l,rx)=>match l with
  | .ptr b off=>match s.getB b with
   | some c=>U (rx ++ [(.b b,.b c)]) [] (.one (.ptr b off))
   | none=>none
  | .ept id q off=>match s.getR id,s.getX q with
   | some r,some i=>U (rx ++ [(.r id,.r r),(.x q,.x i)]) [] (.one (.ept id q off))
   | _,_=>none
  | .rpt k y off=>U rx [] (.one (.rpt k y off))
  | .rpa n k xs=>bif decide (0<xs.length) then U rx [] (.one (.rpa n k xs)) else none
  | .apt n id=>match s.getR id with
   | some r=>U (rx ++ [(.r id,.r r)]) [] (.one (.apt n id))
   | none=>none
  | _=>none
 | _=>none
theorem D3o{R:Type}{P:Program}{s:St}{x:Operand}{U:Kp R}{r:R}(h:D5P s x U=some r):OutP P s (.nilCheck x) U r:=by
 unfold D5P at h;have hrun:∀ (a:Act) (w:World) (oo:Oper) (ad:Addr),oo.op=.nilCheck x->a.eval x=.pointer (some ad)->(execOp a.eval oo).run P w=.ok (.value (.pointer (some ad))) w:=by
  intro a w oo ad ho hx;simp [execOp,ho,hx]
 split at h
 ·rename_i l rx ex;split at h
  ·rename_i b' off;split at h
   ·rename_i c ec;refine .mk' _ _ h (Reads.app.2 ⟨C0 ex,fun p hp=>by rw [A6.1 hp];exact St.getB_some.1 ec⟩) fun n0 w0 Z0 s' a m oo ho hr hrd=>?_
    have hx0:=E0 ex hr (Reads.app.1 hrd).1;have hx:=hx0.2 c ((Reads.app.1 hrd).2 _ A5);exact ⟨_,hrun a m.w oo _ ho hx,hx▸hx0⟩
   ·cases h
  ·rename_i id q off;split at h
   ·rename_i row i er ei;refine .mk' _ _ h (Reads.app.2 ⟨C0 ex,fun p hp=>?_⟩) fun n0 w0 Z0 s' a m oo ho hr hrd=>?_
    ·simp only [B8,S2,A6l] at hp;rcases hp with rfl | rfl
     ·exact St.getR_some.1 er
     ·exact St.getX_some.1 ei
    ·have h1:=(Reads.app.1 hrd).2 (.r id,.r row) (by simp);have h2:=(Reads.app.1 hrd).2 (.x q,.x i) (by simp);have hx0:=E0 ex hr (Reads.app.1 hrd).1;obtain ⟨hx1,hx2,hx⟩:=hx0.2 row i h1 h2;exact ⟨_,hrun a m.w oo _ ho hx,hx▸hx0⟩
   ·cases h
  ·rename_i k' y off;refine .mk' _ _ h (C0 ex) fun n0 w0 Z0 s' a m oo ho hr hrd=>?_
   have hx0:=E0 ex hr hrd;have hx0':=hx0;obtain ⟨ad,ds,hro,hZ,hcell,hx⟩:=hx0;exact ⟨_,hrun a m.w oo _ ho hx,hx▸hx0'⟩
  ·rename_i n k' xs;cases hd:decide (0<xs.length) with
   | false=>rw [hd] at h;cases h
   | true=>
    rw [hd] at h;have hd:=B0 hd;refine .mk' _ _ h (C0 ex) fun n0 w0 Z0 s' a m oo ho hr hrd=>?_
    have hx0:Ro (.pa n k') m.w m.Z xs [a.eval x]:=E0 ex hr hrd;have hx0':=hx0;rcases hx0 with ⟨_,e⟩ | ⟨ad,e,_⟩
    ·rw [e] at hd;simp at hd
    ·injection e with e
     exact ⟨_,hrun a m.w oo _ ho e,e▸hx0'⟩
  ·rename_i n id;split at h
   ·rename_i row er;refine .mk' _ _ h (Reads.app.2 ⟨C0 ex,fun p hp=>by rw [A6.1 hp];exact St.getR_some.1 er⟩) fun n0 w0 Z0 s' a m oo ho hr hrd=>?_
    have hx0:=E0 ex hr (Reads.app.1 hrd).1;have hx:=(hx0.2 row ((Reads.app.1 hrd).2 _ A5)).2;exact ⟨_,hrun a m.w oo _ ho hx,hx▸hx0⟩
   ·cases h
  ·cases h
 ·cases h
def leaves:(k:K)->k.T->(Nat->Lf)->Nat->List Lf
 | .int U,n,_,_=> [.int U n]
 | .bool,b,_,_=> [.bool b]
 | .fnc f,_,_,_=> [.fn f]
 | .str,s,_,_=> [.str s]
 | .sl _ _,_,mk,j=> [mk j]
 | .rs e k,xs,_,_=> [.ro e k xs]
 | .pa n k,xs,_,_=> [.rpa n k xs]
 | .pair a b,x,mk,j=>leaves a x.1 mk j++leaves b x.2 mk (j+a.sz)
def B3e:(k:K)->k.T->List Lf
 | .int U,n=> [.int U n]
 | .bool,b=> [.bool b]
 | .fnc f,_=> [.fn f]
 | .str,s=> [.str s]
 | .sl e k,xs=> [.ro e k xs]
 | .rs e k,xs=> [.ro e k xs]
 | .pa n k,xs=> [.rpa n k xs]
 | .pair a b,x=>B3e a x.1++B3e b x.2
theorem B4u:∀ {k:K} {s:St} {m:Mem} {p:J0} {x:k.T} {cs:List Value} {mk:Nat->Lf} {j:Nat},Ow k m.w m.Z p x cs->
  (∀ i v,cs[i]? = some v->LfC s m (mk (j+i)) v)->All2 (LfC s m) (leaves k x mk j) cs
 | .int _,_,_,_,_,_,_,_,h,_=>by simp only [Ow] at h;subst h;exact ⟨rfl,trivial⟩
 | .bool,_,_,_,_,_,_,_,h,_=>by simp only [Ow] at h;subst h;exact ⟨rfl,trivial⟩
 | .fnc _,_,_,_,_,_,_,_,h,_=>by simp only [Ow] at h;subst h;exact ⟨rfl,trivial⟩
 | .str,_,_,_,_,_,_,_,h,_=>by simp only [Ow] at h;subst h;exact ⟨rfl,trivial⟩
 | .sl _ _,_,_,_,_,_,_,_,h,hm=>by obtain ⟨v,rfl,_⟩:=h;exact ⟨hm 0 v rfl,trivial⟩
 | .rs _ _,_,_,_,_,_,_,_,h,hm=>by
  have h':=h;obtain ⟨A,c,rfl,_⟩:=h;exact ⟨h',trivial⟩
 | .pa _ _,_,_,_,_,_,_,_,h,hm=>by
  have h':=h;rcases h with ⟨rfl,_⟩ | ⟨A,rfl,_⟩<;>exact ⟨h',trivial⟩
 | .pair a b,s,m,p,x,cs,mk,j,h,hm=>by
  obtain ⟨c0,c1,rfl,h0,h1⟩:=h;refine All2.app (B4u h0 fun i v hv=>?_) (B4u h1 fun i v hv=>?_)
  ·refine hm i v ?_;rw [E5 (C2.1 hv).1];exact hv
  ·have:=hm (c0.length+i) v (by rw [E7 (by omega)];simpa using hv);rw [h0.len] at this;rw [N7];exact this
theorem B3f:∀ {k:K} {s:St} {m:Mem} {x:k.T} {cs:List Value},Ro k m.w m.Z x cs->All2 (LfC s m) (B3e k x) cs
 | .int _,_,_,_,_,h=>by simp only [Ro] at h;subst h;exact ⟨rfl,trivial⟩
 | .bool,_,_,_,_,h=>by simp only [Ro] at h;subst h;exact ⟨rfl,trivial⟩
 | .fnc _,_,_,_,_,h=>by simp only [Ro] at h;subst h;exact ⟨rfl,trivial⟩
 | .str,_,_,_,_,h=>by simp only [Ro] at h;subst h;exact ⟨rfl,trivial⟩
 | .sl _ _,_,_,_,_,h=>by
  have h':=h;obtain ⟨A,c,rfl,_⟩:=h;exact ⟨h',trivial⟩
 | .rs _ _,_,_,_,_,h=>by
  have h':=h;obtain ⟨A,c,rfl,_⟩:=h;exact ⟨h',trivial⟩
 | .pa _ _,_,_,_,_,h=>by
  have h':=h;rcases h with ⟨rfl,_⟩ | ⟨A,rfl,_⟩<;>exact ⟨h',trivial⟩
 | .pair a b,s,m,x,cs,h=>by
  obtain ⟨c0,c1,rfl,h0,h1⟩:=h;exact All2.app (B3f h0) (B3f h1)
theorem A9B{P:Program}{cfg:Cfg}(hc:L3 P cfg){t:Nat}{ti:TyI}(ht:cfg.ty t=some ti){s:St}{m:Mem}{ls:List Lf}{ds:List Value}{v:AV}{ad:Addr}
  (hp:A6q ti.agg ls=some v) (hl:ls.length=ti.k.sz) (hd:All2 (LfC s m) ls ds) (hcell:∀ j u,ds[j]? = some u->m.w.cell? (ad.add j)=some u) :
  ∃ x,(loadVar t ad).run P m.w=.ok x m.w/\AVC s m v x:=by
 obtain ⟨f,z,hi,hs,_⟩:=hc.info ht;obtain ⟨d,hu,hagg⟩:=hc.agg ht;have hlen:ds.length=ti.k.sz:=by rw [<- hl,hd.len]
 obtain ⟨h1,h2⟩:=B4t hp hd;cases ha:ti.agg with
 | true=>
  refine ⟨_,?_,h1 ha⟩;have hld:=B6u (P:=P) m.w ad ds hcell;rw [hlen] at hld;simp [loadVar,C3,B0d hu,hagg,ha,A6O hi,hs,hld]
 | false=>
  obtain ⟨c,rfl,hv⟩:=h2 ha;refine ⟨c,?_,hv⟩;have:=hcell 0 c rfl;simp only [Addr.add,Q5] at this;simp [loadVar,C3,B0d hu,hagg,ha,this]
def D1d{R:Type}(cfg:Cfg)(s:St)(t:Nat)(x:Operand)(U:Kp R):Option R:=
 match M5 s x,cfg.ty t with
 | some (.one l,rx),some ti=>match l with
  | .ptr b off=>match s.getB b with
   | some c=>match Nat.beq ((c.drop off).take ti.k.sz).length ti.k.sz,A6q ti.agg ((c.drop off).take ti.k.sz) with
    | true,some v=>U (rx ++ [(.b b,.b c)]) [] v
    | _,_=>none
   | none=>none
  | .ept id q off=>match s.getR id,s.getX q with
   | some r,some i=>match Nat.beq (((leaves r.k (rd r.k r.xs i) (fun j=>.sub id q j r.ver) 0).drop off).take ti.k.sz).length ti.k.sz,A6q ti.agg (((leaves r.k (rd r.k r.xs i) (fun j=>.sub id q j r.ver) 0).drop off).take ti.k.sz) with
    | true,some v=>U (rx ++ [(.r id,.r r),(.x q,.x i)]) [] v
    | _,_=>none
   | _,_=>none
  | .rpt k y off=>match Nat.beq (((B3e k y).drop off).take ti.k.sz).length ti.k.sz,A6q ti.agg (((B3e k y).drop off).take ti.k.sz) with
   | true,some v=>U rx [] v
   | _,_=>none
  | _=>none
 | _,_=>none
theorem B4v{k:K}{e:Nat}{w:World}{Z:Col}{p:J0}{xs:List k.T}{v:Value}(h:OwL (Ow k w Z) e k.sz w Z p xs v){i:Nat}(hi:i<xs.length) :
  ∃ (g cap:Nat) (ds:List Value),v=.slice (some ⟨g,0,none⟩) xs.length cap/\Z g=some p/\Ow k w Z (p ++ [i]) xs[i] ds/\∀ j u,ds[j]? = some u->w.cell? ⟨g,i*k.sz+j,none⟩=some u:=by
 obtain ⟨inner,ho,hc,hh⟩:=h;rcases ho.2 with ⟨rfl,hn⟩ | ⟨g,cap,cur,fz,rfl,_,hg,hfz,hn,hcap,hs,ht⟩
 ·omega
 ·refine ⟨g,cap,_,rfl,hc g rfl,hh i hi,fun j u hu=>?_⟩;have hj:j<k.sz:=by
   have:=(C2.1 hu).1;rw [(hh i hi).len] at this;exact this
  rw [G3 hj,F7] at hu;have:=V4 ho (g:=g) rfl _ _ hu
  rwa [add_plain,E1] at this
theorem D1e{R:Type}{P:Program}{cfg:Cfg}(hc:L3 P cfg){s:St}{t:Nat}{x:Operand}{U:Kp R}{r:R}(h:D1d cfg s t x U=some r):OutP P s (.load t x) U r:=by
 unfold D1d at h;have hrun:∀ (a:Act) (w:World) (oo:Oper) (ad:Addr) (y:Value),oo.op=.load t x->a.eval x=.pointer (some ad)->(loadVar t ad).run P w=.ok y w->(execOp a.eval oo).run P w=.ok (.value y) w:=by
  intro a w oo ad y ho hx hy;simp [execOp,ho,hx,Instr.loadAt,Instr.sureAddr,C3,hy]
 split at h
 ·rename_i l rx ti ex et;split at h
  ·rename_i b' off;split at h
   ·rename_i c ec;split at h
    ·rename_i v e1 e2;refine .mk' _ _ h (Reads.app.2 ⟨C0 ex,fun p hp=>by rw [A6.1 hp];exact St.getB_some.1 ec⟩) fun n0 w0 Z0 s' a m oo ho hr hrd=>?_
     have hb:=(Reads.app.1 hrd).2 _ A5;have hx:=(E0 ex hr (Reads.app.1 hrd).1).2 c hb;obtain ⟨cs,hcs,_,_,hg⟩:=hr.bx b' c hb;obtain ⟨y,hy,hv⟩:=A9B (P:=P) hc et e2 (A3 e1) ((hcs.drop off).take ti.k.sz) (ad:=⟨(m.β b').g,(m.β b').pre.length+off,none⟩) (fun j u hu=>by
      have hj:=(C2.1 hu).1;have hj':j<ti.k.sz:=by rw [B3] at hj;omega
      rw [G3 hj',F7] at hu;rw [add_plain,A1m m.w _ _ _ _ _ hg];have hlt:=(C2.1 hu).1;rw [A1Q,A8,E7 (by omega),E5 (by omega)];rw [<- hu];congr 1;omega)
     exact ⟨y,hrun a m.w oo _ y ho hx hy,hv⟩
    ·cases h
   ·cases h
  ·rename_i id q off;split at h
   ·rename_i row i er ei;split at h
    ·rename_i v e1 e2;refine .mk' _ _ h (Reads.app.2 ⟨C0 ex,fun p hp=>?_⟩) fun n0 w0 Z0 s' a m oo ho hr hrd=>?_
     ·simp only [B8,S2,A6l] at hp;rcases hp with rfl | rfl
      ·exact St.getR_some.1 er
      ·exact St.getX_some.1 ei
     ·have h1:=(Reads.app.1 hrd).2 (.r id,.r row) (by simp);have h2:=(Reads.app.1 hrd).2 (.x q,.x i) (by simp);obtain ⟨hx1,hx2,hx⟩:=(E0 ex hr (Reads.app.1 hrd).1).2 row i h1 h2;obtain ⟨g,cap,ds,hv0,_,how,hcell⟩:=B4v (hr.rw id row h1) hx2;have hls:All2 (LfC s' m) (leaves row.k (rd row.k row.xs i) (fun j=>.sub id q j row.ver) 0) ds:=by
       rw [B0c hx2];refine B4u how fun j v hj=>⟨how.one v (J9 hj),fun r' i' hr' hi'=>?_⟩
       rw [h1] at hr';rw [h2] at hi';injection hr' with hr';injection hr' with hr';subst hr'
       injection hi' with hi';injection hi' with hi';subst hi'
       have hjl:=(C2.1 hj).1;rw [how.len] at hjl;refine ⟨C5 _,fun _=>⟨hx1,hx2,by omega,?_⟩⟩;rw [hv0,Q6,add_plain,E1,E1];exact hcell j v hj
      rw [hv0,Q6,add_plain,E1] at hx;obtain ⟨y,hy,hv⟩:=A9B (P:=P) hc et e2 (A3 e1) ((hls.drop off).take ti.k.sz) (ad:=⟨g,i.toNat*row.k.sz+off,none⟩) (fun j u hu=>by
       have hj:=(C2.1 hu).1;have hj':j<ti.k.sz:=by rw [B3] at hj;omega
       rw [G3 hj',F7] at hu;have:=hcell (off+j) u hu;rw [add_plain,N7];exact this)
      exact ⟨y,hrun a m.w oo _ y ho hx hy,hv⟩
    ·cases h
   ·cases h
  ·rename_i k y off;split at h
   ·rename_i v e1 e2;refine .mk' _ _ h (C0 ex) fun n0 w0 Z0 s' a m oo ho hr hrd=>?_
    obtain ⟨ad,ds,hro,hZ,hcell,hx⟩:=E0 ex hr hrd;have hsp:ad.spot=none:=by
     have h0:0<ds.length:=by rw [hro.len];exact k.sz_pos
     have:=cell_spot (hcell 0 ds[0] (by simp [h0]));simpa [Addr.add] using this
    obtain ⟨y,hy,hv⟩:=A9B (P:=P) hc et e2 (A3 e1) (((B3f (s:=s') hro).drop off).take ti.k.sz) (ad:=ad.add off) (fun j u hu=>by
      have hj:=(C2.1 hu).1;have hj':j<ti.k.sz:=by rw [B3] at hj;omega
      rw [G3 hj',F7] at hu;rw [add_add _ hsp];exact hcell (off+j) u hu)
    exact ⟨y,hrun a m.w oo _ y ho hx hy,hv⟩
   ·cases h
  ·cases h
 ·cases h
def bt(s:ByteArray)(i:Int):Int:=(((s.data.toList.getD i.toNat 0).toNat:Nat):Int)
def C6u{R:Type}(cfg:Cfg)(s:St)(t:Nat)(x i:Operand)(U:Kp R):Option R:=
 match M5 s x,M5 s i,A59 cfg t with
 | some (.one (.str b),rx),some (.one (.int _ j),ri),true=>bif decide (0<=j) then bif decide (j<(b.size:Int)) then U (rx++ri) [] (.one (.int .u8 (bt b j))) else none else none
 | _,_,_=>none
theorem H4{R:Type}{c:Bool}{x:Option R}{r:R}(h:(bif c then x else none)=some r):c=true/\x=some r:=by
 cases c with
 | true=>exact ⟨rfl,h⟩
 | false=>cases h
theorem D00{R:Type}{P:Program}{cfg:Cfg}(hc:L3 P cfg){s:St}{t:Nat}{x i:Operand}{U:Kp R}{r:R}(h:C6u cfg s t x i U=some r):OutP P s (.index t x i) U r:=by
 unfold C6u at h;split at h
 ·rename_i b rx Ui j ri ex ei et;obtain ⟨h0,h⟩:=H4 h;obtain ⟨h1,h⟩:=H4 h;have h0:=B0 h0;have h1:=B0 h1;refine .mk' _ _ h (Reads.app.2 ⟨C0 ex,C0 ei⟩) fun n0 w0 Z0 s' a m oo ho hr hrd=>⟨_,?_,rfl⟩
  have hx:a.eval x=.string b:=E0 ex hr (Reads.app.1 hrd).1;have hi:a.eval i=.int Ui j:=E0 ei hr (Reads.app.1 hrd).2;have hlt:j.toNat<b.size:=by omega
  have hlt':j.toNat<b.data.toList.length:=by rw [D6];exact hlt
  have hr1:(Instr.index t (.string b) (.int Ui j)).run P m.w=.ok (.int .u8 ((b[j.toNat]'hlt).toNat:Nat)) m.w:=by
   simp only [Instr.index,asIntOf,C3,A4r,I0,V1 (A3T hc et)];rw [F9 h0,getElem?_pos b j.toNat hlt];rfl
  have hbt:bt b j=((b[j.toNat]'hlt).toNat:Int):=by
   simp only [bt,C6,C1 hlt',U1];rfl
  rw [hbt];simp only [execOp,ho,hx,hi,C3,hr1,I0,A4r]
 ·cases h
def B7t{R:Type}(cfg:Cfg)(s:St)(d:Nat)(t:Nat)(x i:Operand)(U:Kp R):Option R:=
 match M5 s x,M5 s i,cfg.ar t with
 | some (.one l,rx),some (.one (.int _ j),ri),some (n,e)=>match cfg.ty e with
  | some ti=>match l with
   | .rpa n' k xs=>match Nat.beq n n'&&Nat.beq ti.k.sz k.sz with
    | true=>bif decide (0<=j) then bif decide (j<(xs.length:Int)) then U (rx++ri) [] (.one (.rpt k (rd k xs j) 0)) else none else none
    | false=>none
   | .apt n' id=>match s.getR id with
    | some r=>match Nat.beq n n'&&Nat.beq ti.k.sz r.k.sz with
     | true=>bif decide (0<=j) then bif decide (j<(n:Int)) then U (rx++ri ++ [(.r id,.r r)]) [(d,j)] (.one (.ept id d 0)) else none else none
     | false=>none
    | none=>none
   | _=>none
  | none=>none
 | _,_,_=>none
def B5u{R:Type}(cfg:Cfg)(s:St)(d:Nat)(t:Nat)(x i:Operand)(U:Kp R):Option R:=
 match M5 s x,M5 s i,cfg.el t with
 | some (.one l,rx),some (.one (.int _ j),ri),some e=>match cfg.ty e with
  | some ti=>match l with
   | .ro _ k xs=>match Nat.beq ti.k.sz k.sz with
    | true=>bif decide (0<=j) then bif decide (j<(xs.length:Int)) then U (rx++ri) [] (.one (.rpt k (rd k xs j) 0)) else none else none
    | false=>none
   | .own id=>match s.getR id with
    | some r=>match Nat.beq ti.k.sz r.k.sz with
     | true=>bif decide (0<=j) then bif decide (j<(r.xs.length:Int)) then U (rx++ri ++ [(.r id,.r r)]) [(d,j)] (.one (.ept id d 0)) else none else none
     | false=>none
    | none=>none
   | .vw id lo hi=>match s.getR id with
    | some r=>match Nat.beq ti.k.sz r.k.sz with
     | true=>bif decide (0<=j) then bif decide (j<(hi:Int)-(lo:Int)) then U (rx++ri ++ [(.r id,.r r)]) [(d,(lo:Int)+j)] (.one (.ept id d 0)) else none else none
     | false=>none
    | none=>none
   | _=>none
  | none=>none
 | _,_,_=>none
theorem run_indexAt{P:Program}{cfg:Cfg}(hc:L3 P cfg){t e:Nat}{ti:TyI}(het:cfg.el t=some e)(het':cfg.ty e=some ti){Ui:IntKind}{j:Int}{ad:Addr}{n c:Nat}(h0:0<=j)(h1:j<n)(w:World) :
  (Instr.indexAt t (.slice (some ad) n c) (.int Ui j)).run P w=.ok (.pointer (some (ad.add (j.toNat*ti.k.sz)))) w:=by
 obtain ⟨f,z,hi,hs,_⟩:=hc.info het';simp [Instr.indexAt,asIntOf,C3,V1 (hc.el het),h0,h1,A6O hi,hs]
theorem B70{P:Program}{cfg:Cfg}(hc:L3 P cfg){t e n:Nat}{ti:TyI}(het:cfg.ar t=some (n,e))(het':cfg.ty e=some ti){Ui:IntKind}{j:Int}{ad:Addr}(h0:0<=j)(h1:j<n)(w:World) :
  (Instr.indexAt t (.pointer (some ad)) (.int Ui j)).run P w=.ok (.pointer (some (ad.add (j.toNat*ti.k.sz)))) w:=by
 obtain ⟨f,z,hi,hs,_⟩:=hc.info het';simp [Instr.indexAt,asIntOf,C3,V1 (hc.ar het).1,Instr.sureAddr,h0,h1,A6O hi,hs]
theorem C3b{R:Type}{P:Program}{cfg:Cfg}(hc:L3 P cfg){s:St}{d t:Nat}{x i:Operand}{U:Kp R}{r:R}(h:B7t cfg s d t x i U=some r):OutP P s (.indexAddr t x i) U r:=by
 unfold B7t at h;split at h
 ·rename_i l rx Ui j ri n e ex ei et;split at h
  ·rename_i ti eti;have hrun:∀ (a:Act) (w:World) (oo:Oper) (y:Value),oo.op=.indexAddr t x i->(Instr.indexAt t (a.eval x) (.int Ui j)).run P w=.ok y w->a.eval i=.int Ui j->(execOp a.eval oo).run P w=.ok (.value y) w:=by
    intro a w oo y ho hy hi;simp [execOp,ho,hi,C3,hy]
   split at h
   ·rename_i n' k xs;split at h
    ·rename_i hsz;simp only [B4] at hsz;obtain ⟨hn,hsz⟩:=hsz;have hn:=A3 hn
     replace hsz:=A3 hsz
     subst hn;obtain ⟨h0,h⟩:=H4 h;obtain ⟨h1,h⟩:=H4 h;have h0:=B0 h0;have h1:=B0 h1;refine .mk' _ _ h (Reads.app.2 ⟨C0 ex,C0 ei⟩) fun n0 w0 Z0 s' a m oo ho hr hrd=>?_
     have hx:Ro (.pa n k) m.w m.Z xs [a.eval x]:=E0 ex hr (Reads.app.1 hrd).1;have hi:a.eval i=.int Ui j:=E0 ei hr (Reads.app.1 hrd).2;have hlt:j.toNat<xs.length:=by omega
     rcases hx with ⟨_,e1⟩ | ⟨ad,e1,hn,hZ,_,hel⟩
     ·rw [e1] at hlt;simp at hlt
     injection e1 with e1
     obtain ⟨ds,hd,hro,hcell⟩:=hel j.toNat hlt;refine ⟨.pointer (some (ad.add (j.toNat*k.sz))),hrun a m.w oo _ ho (by rw [e1,B70 hc et eti h0 (by omega),hsz]) hi,ad.add (j.toNat*k.sz),ds,by rw [B0c hlt];exact hro,by rw [add_block];exact hZ,fun jj u hu=>?_,by simp [Addr.add]⟩;have hsp:ad.spot=none:=by
      obtain ⟨ds2,hd2,_,hcell2⟩:=hel 0 (by omega);have hpos:=k.sz_pos;have:=cell_spot (hcell2 0 ds2[0] (by simp [show 0<ds2.length by omega]));simpa [Addr.add] using this
     rw [add_add _ hsp];exact hcell jj u hu
    ·cases h
   ·rename_i n' id;split at h
    ·rename_i row er;split at h
     ·rename_i hsz;simp only [B4] at hsz;obtain ⟨hn,hsz⟩:=hsz;have hn:=A3 hn
      replace hsz:=A3 hsz
      subst hn;obtain ⟨h0,h⟩:=H4 h;obtain ⟨h1,h⟩:=H4 h;have h0:=B0 h0;have h1:=B0 h1;refine ⟨_,_,_,h,Reads.app.2 ⟨Reads.app.2 ⟨C0 ex,C0 ei⟩,fun p hp=>by rw [A6.1 hp];exact St.getR_some.1 er⟩,fun n0 oo ho w0 Z0 s' a m hr hrd hnew=>?_⟩;have hrd1:=(Reads.app.1 hrd).1;have hrow:=(Reads.app.1 hrd).2 (.r id,.r row) (by simp);obtain ⟨hlen,hx⟩:=(E0 ex hr (Reads.app.1 hrd1).1).2 row hrow;have hi:a.eval i=.int Ui j:=E0 ei hr (Reads.app.1 hrd1).2;have hlt:j.toNat<row.xs.length:=by omega
      obtain ⟨g,cap,ds,hv0,_,how,hcell⟩:=B4v (hr.rw id row hrow) hlt;refine ⟨_,hrun a m.w oo _ ho (by rw [hx,B70 hc et eti h0 h1,hsz]) hi,rfl,fun r' i' hr' hi'=>?_⟩;rw [A9v (by simp),hrow] at hr';injection hr' with hr';injection hr' with hr';subst hr'
      rw [G4,C8,St.get_cons_same] at hi';injection hi' with hi';injection hi' with hi';subst hi'
      exact ⟨h0,hlt,rfl⟩
     ·cases h
    ·cases h
   ·cases h
  ·cases h
 ·cases h
theorem C29{R:Type}{P:Program}{cfg:Cfg}(hc:L3 P cfg){s:St}{d t:Nat}{x i:Operand}{U:Kp R}{r:R}(h:B5u cfg s d t x i U=some r):OutP P s (.indexAddr t x i) U r:=by
 unfold B5u at h;split at h
 ·rename_i l rx Ui j ri e ex ei et;split at h
  ·rename_i ti eti;have hrun:∀ (a:Act) (w:World) (oo:Oper) (y:Value),oo.op=.indexAddr t x i->(Instr.indexAt t (a.eval x) (.int Ui j)).run P w=.ok y w->a.eval i=.int Ui j->(execOp a.eval oo).run P w=.ok (.value y) w:=by
    intro a w oo y ho hy hi;simp [execOp,ho,hi,C3,hy]
   split at h
   ·rename_i e2 k xs;split at h
    ·rename_i hsz;have hsz:=A3 hsz;obtain ⟨h0,h⟩:=H4 h;obtain ⟨h1,h⟩:=H4 h;have h0:=B0 h0;have h1:=B0 h1;refine .mk' _ _ h (Reads.app.2 ⟨C0 ex,C0 ei⟩) fun n0 w0 Z0 s' a m oo ho hr hrd=>?_
     have hx:Ro (.rs e2 k) m.w m.Z xs [a.eval x]:=E0 ex hr (Reads.app.1 hrd).1;have hi:a.eval i=.int Ui j:=E0 ei hr (Reads.app.1 hrd).2;have hlt:j.toNat<xs.length:=by omega
     obtain ⟨c,ad,ds,e1,hZ,hro,hcell⟩:=B9b hx hlt;refine ⟨.pointer (some (ad.add (j.toNat*k.sz))),hrun a m.w oo _ ho (by rw [e1,run_indexAt hc et eti h0 h1,hsz]) hi,ad.add (j.toNat*k.sz),ds,by rw [B0c hlt];exact hro,by rw [add_block];exact hZ,fun jj u hu=>?_,by simp [Addr.add]⟩;have hsp:ad.spot=none:=by
      obtain ⟨c2,ad2,ds2,e3,_,hro2,hcell2⟩:=B9b hx (show 0<xs.length by omega);rw [e1] at e3;injection e3 with e3;injection e3 with e3;subst e3
      have h0:0<ds2.length:=by rw [hro2.len];exact k.sz_pos
      have:=cell_spot (hcell2 0 ds2[0] (by simp [h0]));simpa [Addr.add] using this
     rw [add_add _ hsp];exact hcell jj u hu
    ·cases h
   ·rename_i id;split at h
    ·rename_i row er;split at h
     ·rename_i hsz;have hsz:=A3 hsz;obtain ⟨h0,h⟩:=H4 h;obtain ⟨h1,h⟩:=H4 h;have h0:=B0 h0;have h1:=B0 h1;refine ⟨_,_,_,h,Reads.app.2 ⟨Reads.app.2 ⟨C0 ex,C0 ei⟩,fun p hp=>by rw [A6.1 hp];exact St.getR_some.1 er⟩,fun n0 oo ho w0 Z0 s' a m hr hrd hnew=>?_⟩;have hrd1:=(Reads.app.1 hrd).1;have hrow:=(Reads.app.1 hrd).2 (.r id,.r row) (by simp);have hx:=(E0 ex hr (Reads.app.1 hrd1).1).2 row hrow;have hi:a.eval i=.int Ui j:=E0 ei hr (Reads.app.1 hrd1).2;have hlt:j.toNat<row.xs.length:=by omega
      obtain ⟨g,cap,ds,hv0,_,how,hcell⟩:=B4v (hr.rw id row hrow) hlt;rw [hv0] at hx;refine ⟨_,hrun a m.w oo _ ho (by rw [hx,run_indexAt hc et eti h0 h1,hsz]) hi,rfl,fun r' i' hr' hi'=>?_⟩;rw [A9v (by simp),hrow] at hr';injection hr' with hr';injection hr' with hr';subst hr'
      rw [G4,C8,St.get_cons_same] at hi';injection hi' with hi';injection hi' with hi';subst hi'
      exact ⟨h0,hlt,by rw [hv0];rfl⟩
     ·cases h
    ·cases h
   ·rename_i id lo hi;split at h
    ·rename_i row er;split at h
     ·rename_i hsz;have hsz:=A3 hsz;obtain ⟨h0,h⟩:=H4 h;obtain ⟨h1,h⟩:=H4 h;have h0:=B0 h0;have h1:=B0 h1;refine ⟨_,_,_,h,Reads.app.2 ⟨Reads.app.2 ⟨C0 ex,C0 ei⟩,fun p hp=>by rw [A6.1 hp];exact St.getR_some.1 er⟩,fun n0 oo ho w0 Z0 s' a m hr hrd hnew=>?_⟩;have hrd1:=(Reads.app.1 hrd).1;have hrow:=(Reads.app.1 hrd).2 (.r id,.r row) (by simp);obtain ⟨g1,g2,hx⟩:=(E0 ex hr (Reads.app.1 hrd1).1).2 row hrow;have hi:a.eval i=.int Ui j:=E0 ei hr (Reads.app.1 hrd1).2;have hlt:((lo:Int)+j).toNat<row.xs.length:=by omega
      obtain ⟨g,cap,ds,hv0,_,how,hcell⟩:=B4v (hr.rw id row hrow) hlt;rw [hv0] at hx;have hne:¬ cap=lo:=by
       have hro:=(hr.rw id row hrow).no;rw [hv0] at hro;obtain ⟨A,c,e1,hl,_⟩:=hro;injection e1 with e1 _;injection e1 with _ _ e1;subst e1;omega
      simp only [cutV,D8 hne,N1,add_plain] at hx;refine ⟨_,hrun a m.w oo _ ho (by rw [hx,run_indexAt hc et eti h0 (by omega),hsz]) hi,rfl,fun r' i' hr' hi'=>?_⟩;rw [A9v (by simp),hrow] at hr';injection hr' with hr';injection hr' with hr';subst hr'
      rw [G4,C8,St.get_cons_same] at hi';injection hi' with hi';injection hi' with hi';subst hi'
      refine ⟨by omega,hlt,?_⟩;rw [hv0,Q6,add_plain,add_plain]
      congr 3
      rw [E1,E1,K3,<- L0]
      congr 1;omega
     ·cases h
    ·cases h
   ·cases h
  ·cases h
 ·cases h
def C6v{R:Type}(s:St)(x:Operand)(U:Kp R):Option R:=
 match M5 s x with
 | some (.one (.ptr b off),rx)=>match s.getB b with
  | some c=>match Nat.beq ((c.drop off).take 1).length 1,A6q false ((c.drop off).take 1) with
   | true,some v=>U (rx ++ [(.b b,.b c)]) [] v
   | _,_=>none
  | none=>none
 | _=>none
theorem D01{R:Type}{P:Program}{s:St}{t:Nat}(hc:∃ d,P.underlying t=some d/\B5r d=false){x:Operand}{U:Kp R}{r:R}(h:C6v s x U=some r):OutP P s (.load t x) U r:=by
 obtain ⟨d,hu,hagg⟩:=hc;unfold C6v at h;split at h
 ·rename_i b' off rx ex;split at h
  ·rename_i c ec;split at h
   ·rename_i v e1 e2;refine .mk' _ _ h (Reads.app.2 ⟨C0 ex,fun p hp=>by rw [A6.1 hp];exact St.getB_some.1 ec⟩) fun n0 w0 Z0 s' a m oo ho hr hrd=>?_
    have hb:=(Reads.app.1 hrd).2 _ A5;have hx:=(E0 ex hr (Reads.app.1 hrd).1).2 c hb;obtain ⟨cs,hcs,_,_,hg⟩:=hr.bx b' c hb;obtain ⟨_,h2⟩:=B4t e2 ((hcs.drop off).take 1);obtain ⟨y,hy,hv⟩:=h2 rfl;have hu0:((cs.drop off).take 1)[0]? = some y:=by rw [hy];rfl
    have hcell:m.w.cell? ⟨(m.β b').g,(m.β b').pre.length+off,none⟩=some y:=by
     rw [G3 (by omega),F7] at hu0;rw [A1m m.w _ _ _ _ _ hg];have hlt:=(C2.1 hu0).1;rw [A1Q,A8,E7 (by omega),E5 (by omega)];rw [<- hu0];congr 1;omega
    exact ⟨y,by simp [execOp,ho,hx,Instr.loadAt,Instr.sureAddr,C3,loadVar,B0d hu,hagg,hcell],hv⟩
   ·cases h
  ·cases h
 ·cases h
def D1f(s:St):Option Operand->Option (Option (IntKind×Int)×Rds)
 | none=>some (none,[])
 | some x=>match M5 s x with
  | some (.one (.int k i),rds)=>some (some (k,i),rds)
  | _=>none
theorem A34{s s':St}{x:Option Operand}{v:Option (IntKind×Int)}{rds:Rds}(h:D1f s x=some (v,rds)) :
  Reads s rds/\∀ {n:Nat} {w0:World} {Z0:Gh} {a:Act} {m:Mem},Rel n w0 Z0 s' a m->Reads s' rds->x.map a.eval=v.map fun p=>Value.int p.1 p.2:=by
 cases x with
 | none=>simp only [D1f] at h;injection h with h;injection h with h1 h2;subst h1;subst h2;exact ⟨Reads.nil _,fun _ _=>rfl⟩
 | some x=>
  simp only [D1f] at h;split at h
  ·rename_i k i rds' e;injection h with h;injection h with h1 h2;subst h1;subst h2
   refine ⟨C0 e,fun hr hrd=>?_⟩;have:_=Value.int k i:=E0 e hr hrd;simp [this]
  ·cases h
def D1g{R:Type}(n:Nat)(lo hi:Option (IntKind×Int))(U:Nat->Nat->Option R):Option R:=
 match lo,hi with
 | none,none=>U 0 n
 | some (_,l),none=>bif decide (0<=l) then bif decide (l<=(n:Int)) then U l.toNat n else none else none
 | none,some (_,h)=>bif decide (0<=h) then bif decide (h<=(n:Int)) then U 0 h.toNat else none else none
 | some (_,l),some (_,h)=>bif decide (0<=l) then bif decide (l<=h) then bif decide (h<=(n:Int)) then U l.toNat h.toNat else none else none else none
theorem C3c{R:Type}{n:Nat}{lo hi:Option (IntKind×Int)}{U:Nat->Nat->Option R}{r:R}(h:D1g n lo hi U=some r) :
  ∃ l g,U l g=some r/\l<=g/\g<=n/\∀ (P:Program) (w:World) (b:Bool) (c:Nat),n<=c->
   (Instr.sliceBounds b n c (lo.map fun p=>Value.int p.1 p.2) (hi.map fun p=>Value.int p.1 p.2) none).run P w=.ok (l,g,c) w:=by
 unfold D1g at h;split at h
 ·exact ⟨0,n,h,H3 _,C5 _,fun P w b c hc=>by simp [Instr.sliceBounds]⟩
 ·rename_i k l;obtain ⟨h0,h⟩:=H4 h;obtain ⟨h1,h⟩:=H4 h;have h0:=B0 h0;have h1:=B0 h1;exact ⟨_,_,h,by omega,C5 _,fun P w b c hc=>by
   simp [Instr.sliceBounds,B4m,h0,h1]⟩
 ·rename_i k g;obtain ⟨h0,h⟩:=H4 h;obtain ⟨h1,h⟩:=H4 h;have h0:=B0 h0;have h1:=B0 h1;exact ⟨_,_,h,H3 _,by omega,fun P w b c hc=>by
   have h2:g<=(c:Int):=by omega
   cases b<;>simp [Instr.sliceBounds,B4m,h0,h2]⟩
 ·rename_i k l k' g;obtain ⟨h0,h⟩:=H4 h;obtain ⟨h1,h⟩:=H4 h;obtain ⟨h2,h⟩:=H4 h;have h0:=B0 h0;have h1:=B0 h1;have h2:=B0 h2;exact ⟨_,_,h,by omega,by omega,fun P w b c hc=>by
   have h3:g<=(c:Int):=by omega
   have h4:(0:Int)<=g:=by omega
   have h5:(g.toNat:Int)=g:=A2g h4;cases b<;>simp [Instr.sliceBounds,B4m,h0,h1,h3,h4,h5]⟩
theorem C8r{P:Program}{cfg:Cfg}(hc:L3 P cfg){t e:Nat}{ti:TyI}(het:cfg.el t=some e)(het':cfg.ty e=some ti){a:Option Addr}{n c l g:Nat}{lo hi:Option Value}{w:World}
  (hb:(Instr.sliceBounds true n c lo hi none).run P w=.ok (l,g,c) w):(Instr.sliceAt t (.slice a n c) lo hi none).run P w=.ok (cutV ti.k.sz l g (.slice a n c)) w:=by
 obtain ⟨f,z,hi,hs,_⟩:=hc.info het';have hu:=hc.el het;simp [Instr.sliceAt,Instr.slice,C3,V1 hu,hb,A6O hi,hs,cutV]
def C6w{R:Type}(cfg:Cfg)(s:St)(t:Nat)(x:Operand)(lo hi mx:Option Operand)(U:Kp R):Option R:=
 match mx,M5 s x,D1f s lo,D1f s hi with
 | none,some (.one l,rx),some (lo',rl),some (hi',rh)=>match l with
  | .str b=>match A59 cfg t with
   | true=>D1g b.size lo' hi' fun l g=>U (rx++(rl++rh)) [] (.one (.str (b.extract l g)))
   | false=>none
  | l=>match cfg.el t with
   | some e=>match cfg.ty e with
    | some ti=>match l with
     | .ro e' k xs=>match Nat.beq ti.k.sz k.sz with
      | true=>D1g xs.length lo' hi' fun l g=>U (rx++(rl++rh)) [] (.one (.ro e' k ((xs.take g).drop l)))
      | false=>none
     | .own id=>match s.getR id with
      | some r=>match Nat.beq ti.k.sz r.k.sz with
       | true=>D1g r.xs.length lo' hi' fun l g=>U (rx++(rl++rh) ++ [(.r id,.r r)]) [] (.one (.vw id l g))
       | false=>none
      | none=>none
     | _=>none
    | none=>none
   | none=>none
 | _,_,_,_=>none
theorem D02{R:Type}{P:Program}{cfg:Cfg}(hc:L3 P cfg){s:St}{t:Nat}{x:Operand}{lo hi mx:Option Operand}{U:Kp R}{r:R}(h:C6w cfg s t x lo hi mx U=some r) :
  OutP P s (.slice t x lo hi mx) U r:=by
 unfold C6w at h;split at h
 ·rename_i l rx lo' rl hi' rh ex el eh;have hrun:∀ (a:Act) (w:World) (oo:Oper) (y:Value),oo.op=.slice t x lo hi none->(Instr.sliceAt t (a.eval x) (lo.map a.eval) (hi.map a.eval) none).run P w=.ok y w->(execOp a.eval oo).run P w=.ok (.value y) w:=by
   intro a w oo y ho hy;simp [execOp,ho,C3,hy]
  split at h
  ·rename_i b;split at h
   ·rename_i et;obtain ⟨l',g,hU,h1,h2,hb⟩:=C3c h;refine .mk' _ _ hU (Reads.app.2 ⟨C0 ex,Reads.app.2 ⟨(A34 (s':=s) el).1,(A34 (s':=s) eh).1⟩⟩) fun n0 w0 Z0 s' a m oo ho hr hrd=>⟨_,hrun a m.w oo _ ho ?_,rfl⟩
    have hx:a.eval x=.string b:=E0 ex hr (Reads.app.1 hrd).1;have hrd2:=Reads.app.1 (Reads.app.1 hrd).2;rw [hx,(A34 el).2 hr hrd2.1,(A34 eh).2 hr hrd2.2];simp [Instr.sliceAt,Instr.slice,C3,V1 (A3T hc et),hb P m.w false b.size (C5 _)]
   ·cases h
  ·split at h
   ·rename_i e et;split at h
    ·rename_i ti eti;split at h
     ·rename_i e' k xs _;split at h
      ·rename_i hsz;have hsz:=A3 hsz;obtain ⟨l',g,hU,h1,h2,hb⟩:=C3c h;refine .mk' _ _ hU (Reads.app.2 ⟨C0 ex,Reads.app.2 ⟨(A34 (s':=s) el).1,(A34 (s':=s) eh).1⟩⟩) fun n0 w0 Z0 s' a m oo ho hr hrd=>?_
       have hx:Ro (.rs e' k) m.w m.Z xs [a.eval x]:=E0 ex hr (Reads.app.1 hrd).1;have hrd2:=Reads.app.1 (Reads.app.1 hrd).2;refine ⟨cutV k.sz l' g (a.eval x),hrun a m.w oo _ ho ?_,B7s hx h1 h2⟩;obtain ⟨A,c,e1,hl,_⟩:=hx;injection e1 with e1 _
       rw [e1,(A34 el).2 hr hrd2.1,(A34 eh).2 hr hrd2.2,<- hsz];exact C8r hc et eti (hb P m.w true c hl)
      ·cases h
     ·rename_i id _;split at h
      ·rename_i row er;split at h
       ·rename_i hsz;have hsz:=A3 hsz;obtain ⟨l',g,hU,h1,h2,hb⟩:=C3c h;refine .mk' _ _ hU (Reads.app.2 ⟨Reads.app.2 ⟨C0 ex,Reads.app.2 ⟨(A34 (s':=s) el).1,(A34 (s':=s) eh).1⟩⟩,fun p hp=>by rw [A6.1 hp];exact St.getR_some.1 er⟩) fun n0 w0 Z0 s' a m oo ho hr hrd=>?_
        have hrd1:=(Reads.app.1 hrd).1;have hrow:=(Reads.app.1 hrd).2 (.r id,.r row) (by simp);have hx:=(E0 ex hr (Reads.app.1 hrd1).1).2 row hrow;have hrd2:=Reads.app.1 (Reads.app.1 hrd1).2;refine ⟨cutV row.k.sz l' g (m.ρ id),hrun a m.w oo _ ho ?_,?_,fun r' hr'=>?_⟩
        ·have hro:=(hr.rw id row hrow).no;obtain ⟨A,c,e1,hl,_⟩:=hro;injection e1 with e1 _
         rw [hx,e1,(A34 el).2 hr hrd2.1,(A34 eh).2 hr hrd2.2,<- hsz];exact C8r hc et eti (hb P m.w true c hl)
        ·have hro:=(hr.rw id row hrow).no;obtain ⟨A,c,e1,hl,_⟩:=hro;injection e1 with e1 _
         rw [e1];rfl
        ·rw [hrow] at hr';injection hr' with hr';injection hr' with hr';subst hr'
         exact ⟨h1,h2,rfl⟩
       ·cases h
      ·cases h
     ·cases h
    ·cases h
   ·cases h
 ·cases h
def D5Q{R:Type}(cfg:Cfg)(s:St)(t:Nat)(x:Operand)(U:Kp R):Option R:=
 match M5 s x with
 | some (.one (.str b),rx)=>match A59 cfg t with
  | true=>U rx [] (.one (.int .i64 (b.size:Int)))
  | false=>none
 | some (.one l,rx)=>match cfg.el t with
  | some _=>match E9 cfg s t l with
   | some (sl,rl)=>U (rx++rl) [] (.one (.int .i64 (sl.xs.length:Int)))
   | none=>none
  | none=>none
 | _=>none
theorem D3p{R:Type}{P:Program}{cfg:Cfg}(hc:L3 P cfg){s:St}{t:Nat}{x:Operand}{U:Kp R}{r:R}(h:D5Q cfg s t x U=some r) :
  OutP P s (.call {callee:=.builtin .len,args:=#[x],argTypes:=#[t]}) U r:=by
 unfold D5Q at h;split at h
 ·rename_i b rx ex;split at h
  ·rename_i et;refine .mk' _ _ h (C0 ex) fun n0 w0 Z0 s' a m oo ho hr hrd=>⟨_,?_,rfl⟩
   have hx:a.eval x=.string b:=E0 ex hr hrd;simp [execOp,ho,hx,resolve,invoke,builtin,Builtin.len_,C3,V1 (A3T hc et),goInt]
  ·cases h
 ·rename_i l rx _ ex;split at h
  ·rename_i e et;split at h
   ·rename_i sl rl ec;refine .mk' _ _ h (Reads.app.2 ⟨C0 ex,A1C ec⟩) fun n0 w0 Z0 s' a m oo ho hr hrd=>⟨_,?_,rfl⟩
    have hro:=B5s ec hr (Reads.app.1 hrd).2 (E0 ex hr (Reads.app.1 hrd).1);obtain ⟨A,c,e1,hl,_⟩:=hro;injection e1 with e1 _
    simp [execOp,ho,e1,resolve,invoke,builtin,Builtin.len_,C3,V1 (hc.el et),goInt]
   ·cases h
  ·cases h
 ·cases h
def upd{α:Type}(f:Nat->α)(i:Nat)(v:α):Nat->α:=fun j=>if j=i then v else f j
theorem upd_same{α:Type}(f:Nat->α)(i:Nat)(v:α):upd f i v i=v:=F9 rfl
theorem upd_ne{α:Type}(f:Nat->α){i j:Nat}(h:j≠i)(v:α):upd f i v j=f j:=D8 h
theorem alloc_old(w:World)(o:Obj)(b:Nat)(h:b<w.heap.size):(w.alloc o).heap[b]? = w.heap[b]?:=heap_alloc_old w o (by assumption)
theorem C05{w:World}{o:Obj}{a:Addr}{v:Value}(h:w.cell? a=some v):(w.alloc o).cell? a=some v:=
 (J8 (alloc_old w o _ (K5 w a h))).trans h
theorem A9C(w:World)(Z:Col)(o:Obj)(c:Option J0):Keeps w (w.alloc o) Z (upd Z w.heap.size c):=
 fun b hb hlt=>⟨alloc_old w o b hlt,by rw [upd_ne _ (by omega)];exact hb⟩
theorem C06(w:World)(Z:Col)(o:Obj)(c:Option J0):Fore w (w.alloc o) Z (upd Z w.heap.size c):=
 fun b hb hlt=>⟨alloc_old w o b hlt,by rw [upd_ne _ (by omega)];exact hb⟩
theorem A9D(w:World)(Z:Col)(o:Obj)(c:Option J0)(p:J0):Moves w (w.alloc o) Z (upd Z w.heap.size c) p p:=
 fun b q hb hlt=>⟨alloc_old w o b hlt,by rw [upd_ne _ (by omega)];exact hb⟩
theorem OwL.move{k:K}{e:Nat}{w w':World}{Z Z':Col}{p p':J0}{xs:List k.T}{v:Value}(h:OwL (Ow k w Z) e k.sz w Z p xs v)(hm:Moves w w' Z Z' p p')(hk:Keeps w w' Z Z') :
  OwL (Ow k w' Z') e k.sz w' Z' p' xs v:=by
 have h1:Ow (.sl e k) w Z p xs [v]:=⟨v,rfl,h⟩;obtain ⟨v',e1,h2⟩:=h1.move hm hk;injection e1 with e1 _
 subst e1;exact h2
theorem Rel.newBox{n:Nat}{w0:World}{Z0:Gh}{s:St}{a:Act}{m:Mem}(h:Rel n w0 Z0 s a m){d:Nat}(hdn:d<n)(hf:¬ Live s (.b d)){ls:List Lf}{cs:List Value}(t:TypeId)
  (hl:All2 (LfC s m) ls cs) (h1:∀ u∈cs,u.oneCell' = true) (hlive:∀ l∈ls,∀ q∈l.men,Live s q) :
  Rel n w0 Z0 ((.b d,some (.b ls))::s) a ⟨m.w.alloc (.cells cs.toArray t),upd m.Z m.w.heap.size (some [2*d+1]),m.ρ,upd m.β d ⟨m.w.heap.size,t,[],[]⟩⟩:=by
 have hget:∀ l,l≠.b d->St.get ((.b d,some (.b ls))::s) l=s.get l:=fun l hl=>St.get_cons_ne (U5 hl) _ _
 have hX:Ext s m ((.b d,some (.b ls))::s) ⟨m.w.alloc (.cells cs.toArray t),upd m.Z m.w.heap.size (some [2*d+1]),m.ρ,upd m.β d ⟨m.w.heap.size,t,[],[]⟩⟩ (Live s):=by
  refine ⟨A9C _ _ _ _,fun id r' _ hr=>⟨r',by rwa [hget _ (by simp)] at hr,rfl,rfl,rfl,C5 _,fun _ _ j v hc=>C05 hc,fun _=>A9D _ _ _ _ _⟩,fun b c' hL hc=>?_,fun q i _ hi=>by rwa [hget _ (by simp)] at hi⟩
  ·have hbd:b≠d:=fun e=>hf (e▸hL)
   exact ⟨c',by rwa [hget _ (by simpa using hbd)] at hc,upd_ne _ hbd _⟩
 refine h.change (fun i=>hget _ (by simp)) hX (fun id r hr=>?_) (fun b c hc=>?_) (C06 _ _ _ _) (by simp) rfl rfl rfl (fun id r _ _ hg=>⟨⟨r,by rwa [hget _ (by simp)] at hg⟩,rfl⟩) (fun b c hg=>by
  by_cases hbd:b=d
  ·subst hbd;exact .inr ⟨by have:=h.nn.1;omega,by simp [upd_same],by simp [upd_same]⟩
  ·exact .inl ⟨⟨c,by rwa [hget _ (by simpa using hbd)] at hg⟩,upd_ne _ hbd _⟩)
 ·rw [hget _ (by simp)] at hr;exact (h.rw id r hr).move (A9D _ _ _ _ _) (A9C _ _ _ _)
 ·by_cases hbd:b=d
  ·subst hbd;rw [St.get_cons_same] at hc;injection hc with hc;injection hc with hc;subst hc
   refine ⟨cs,All2.imp (fun l hm b hb=>hb.ext (hX.sub fun q hq=>hlive l hm q hq)) hl,h1,?_,?_⟩
   ·simp only [upd_same]
   ·simp only [upd_same,F5,F8];exact A0i m.w _
  ·rw [hget _ (by simpa using hbd)] at hc;obtain ⟨cs',h3,h4,h5,h6⟩:=h.bx b c hc;have hlt:(m.β b).g<m.w.heap.size:=(B2.1 h6).1;refine ⟨cs',All2.imp (fun l hm x hb=>hb.ext (hX.sub fun q hq=>⟨.b b,.b c,hc,E8.2 ⟨l,hm,hq⟩⟩)) h3,h4,?_,?_⟩
   ·simp only [upd_ne _ hbd];rw [upd_ne _ (by omega)];exact h5
   ·simp only [upd_ne _ hbd];rw [alloc_old _ _ _ hlt];exact h6
theorem Rel.newRow{n:Nat}{w0:World}{Z0:Gh}{s:St}{a:Act}{m:Mem}(h:Rel n w0 Z0 s a m){d:Nat}(hdn:d<n)(hf:¬ Live s (.r d)){row:Row}{o:Obj}{v:Value}
  (ho:OwL (Ow row.k (m.w.alloc o) (upd m.Z m.w.heap.size (some [2*d]))) row.e row.k.sz (m.w.alloc o) (upd m.Z m.w.heap.size (some [2*d])) [2*d] row.xs v) :
  Rel n w0 Z0 ((.r d,some (.r row))::s) a ⟨m.w.alloc o,upd m.Z m.w.heap.size (some [2*d]),upd m.ρ d v,m.β⟩:=by
 have hget:∀ l,l≠.r d->St.get ((.r d,some (.r row))::s) l=s.get l:=fun l hl=>St.get_cons_ne (U5 hl) _ _
 have hX:Ext s m ((.r d,some (.r row))::s) ⟨m.w.alloc o,upd m.Z m.w.heap.size (some [2*d]),upd m.ρ d v,m.β⟩ (Live s):=by
  refine ⟨A9C _ _ _ _,fun id r' hL hr=>?_,fun b c' _ hc=>⟨c',by rwa [hget _ (by simp)] at hc,rfl⟩,fun q i _ hi=>by rwa [hget _ (by simp)] at hi⟩;have hid:id≠d:=fun e=>hf (e▸hL)
  refine ⟨r',by rwa [hget _ (by simpa using hid)] at hr,upd_ne _ hid _,rfl,rfl,C5 _,fun _ _ j v hc=>C05 hc,fun _=>A9D _ _ _ _ _⟩
 refine h.change (fun i=>hget _ (by simp)) hX (fun id r hr=>?_) (fun b c hc=>?_) (C06 _ _ _ _) (by simp) rfl rfl rfl (fun id r h1 _ hg=>by
  have hid:id≠d:=by have:=h.nn.1;omega
  exact ⟨⟨r,by rwa [hget _ (by simpa using hid)] at hg⟩,upd_ne _ hid _⟩) (fun b c hg=>.inl ⟨⟨c,by rwa [hget _ (by simp)] at hg⟩,rfl⟩)
 ·by_cases hid:id=d
  ·subst hid;rw [St.get_cons_same] at hr;injection hr with hr;injection hr with hr;subst hr
   simp only [upd_same];exact ho
  ·rw [hget _ (by simpa using hid)] at hr;simp only [upd_ne _ hid];exact (h.rw id r hr).move (A9D _ _ _ _ _) (A9C _ _ _ _)
 ·rw [hget _ (by simp)] at hc;obtain ⟨cs',h3,h4,h5,h6⟩:=h.bx b c hc;have hlt:(m.β b).g<m.w.heap.size:=(B2.1 h6).1;refine ⟨cs',All2.imp (fun l hm x hb=>hb.ext (hX.sub fun q hq=>⟨.b b,.b c,hc,E8.2 ⟨l,hm,hq⟩⟩)) h3,h4,?_,?_⟩
  ·show upd m.Z m.w.heap.size (some [2*d]) (m.β b).g=_;rw [upd_ne _ (by omega)];exact h5
  ·show (m.w.alloc o).heap[(m.β b).g]? = _;rw [alloc_old _ _ _ hlt];exact h6
def avL:AV->Option (List Lf)
 | .one l=>some [l]
 | .agg ls=>some ls
 | .tup _=>none
 | .und=>none
theorem LfC.one{s:St}{m:Mem}{l:Lf}{v:Value}(h:LfC s m l v):v.oneCell' = true:=by
 cases l with
 | int k n=>simp only [LfC] at h;subst h;rfl
 | bool b=>simp only [LfC] at h;subst h;rfl
 | str x=>simp only [LfC] at h;subst h;rfl
 | nil=>simp only [LfC] at h;subst h;rfl
 | fn f=>simp only [LfC] at h;subst h;exact C3U f
 | anyb=>obtain ⟨b,rfl⟩:=h;rfl
 | clo f b off=>obtain ⟨p,rfl,_⟩:=h;rfl
 | chk f e k xs n=>obtain ⟨b1,b2,v1,rfl,_⟩:=h;rfl
 | any=>exact h
 | nilp=>simp only [LfC] at h;subst h;rfl
 | ext id q off ver p e k zs=>exact h.1
 | ro e k xs=>exact Ro.one (k:=.rs e k) h v (by simp)
 | own id=>exact h.1
 | apt n id=>exact h.1
 | rpa n k xs=>exact Ro.one (k:=.pa n k) h v (by simp)
 | mp es=>obtain ⟨b,_,_,e,_⟩:=h;subst e;rfl
 | mpb b=>simp only [LfC] at h;subst h;rfl
 | vw id lo hi=>exact h.1
 | sub id q off ver=>exact h.1
 | ptr b off=>exact h.1
 | ept id q off=>exact h.1
 | rpt k x off=>obtain ⟨ad,ds,_,_,_,rfl⟩:=h;rfl
theorem All2.one{s:St}{m:Mem}:∀ {ls:List Lf} {cs:List Value},All2 (LfC s m) ls cs->∀ u∈cs,u.oneCell' = true
 | [],[],_,u,hu=>nomatch hu
 | l::ls,c::cs,h,u,hu=>by
  rcases B8.1 hu with rfl | hu
  ·exact LfC.one h.1
  ·exact All2.one h.2 u hu
abbrev Tg:=List (Nat×(J0->Option J0))
def A0c:Tg->Nat->Option (J0->Option J0)
 | [],_=>none
 | (id,f)::t,r=>if 2*id=r then some f else A0c t r
def M3(tg:Tg)(Z:Col):Col:=fun b=>match Z b with
 | some (r::q)=>match A0c tg r with
  | some f=>f q
  | none=>some (r::q)
 | c=>c
theorem R9(w:World)(tg:Tg)(Z:Col):Keeps w w Z (M3 tg Z):=fun b hb _=>⟨rfl,by simp only [M3,hb]⟩
theorem A86(w:World)(tg:Tg)(Z:Col):Fore w w Z (M3 tg Z):=fun b hb _=>⟨rfl,by simp only [M3,hb]⟩
theorem A6P{w:World}{tg:Tg}{Z:Col}{id:Nat}{f:J0->Option J0}(hl:A0c tg (2*id)=some f){p p':J0}(hf:∀ q,f (p++q)=some (p'++q)) :
  Moves w w Z (M3 tg Z) (2*id::p) p':=fun b q hb _=>⟨rfl,by
 have hb':Z b=some (2*id::(p++q)):=hb;simp only [M3,hb',hl,hf]⟩
theorem B3g{w:World}{tg:Tg}{Z:Col}{id:Nat}{f:J0->Option J0}(hl:A0c tg (2*id)=some f){p:J0}(hf:∀ q,f (p++q)=none) :
  Frees w w Z (M3 tg Z) (2*id::p):=fun b q hb _=>⟨rfl,by
 have hb':Z b=some (2*id::(p++q)):=hb;simp only [M3,hb',hl,hf]⟩
theorem A0o{w:World}{tg:Tg}{Z:Col}{r:Nat}(hl:A0c tg r=none)(p:J0):Moves w w Z (M3 tg Z) (r::p) (r::p):=fun b q hb _=>⟨rfl,by
 have hb':Z b=some (r::(p++q)):=hb;simp only [M3,hb',hl];rfl⟩
theorem A5A{tg:Tg}{r:Nat}(h:∀ v∈tg,2*v.1≠r):A0c tg r=none:=by
 induction tg with
 | nil=>rfl
 | cons v tg ih=>
  simp only [A0c];rw [D8 (h v A5)];exact ih fun u hu=>h u (B5 _ hu)
theorem B0e{ids:List Nat}{s:St}{l:Loc}(hl:∀ i∈ids,l≠.r i):St.get (ids.map (fun i=>(Loc.r i,(none:Option LV)))++s) l=s.get l:=by
 induction ids with
 | nil=>rfl
 | cons i ids ih=>
  rw [G4,C8,St.get_cons_ne (U5 (hl i A5))];exact ih fun j hj=>hl j (B5 _ hj)
theorem A5m{ids:List Nat}{s:St}{i:Nat}(hi:i∈ids):St.get (ids.map (fun i=>(Loc.r i,(none:Option LV)))++s) (.r i)=none:=by
 induction ids with
 | nil=>cases hi
 | cons j ids ih=>
  rw [G4,C8];by_cases e:j=i
  ·subst e;exact St.get_cons_same _ _ _
  ·rw [St.get_cons_ne (by simpa using e)];exact ih ((B8.1 hi).resolve_left (fun h=>e h.symm))
theorem Rel.drop{n:Nat}{w0:World}{Z0:Gh}{s:St}{a:Act}{m:Mem}(h:Rel n w0 Z0 s a m)(tg:Tg) :
  Rel n w0 Z0 ((tg.map (·.1)).map (fun i=>(Loc.r i,(none:Option LV)))++s) a ⟨m.w,M3 tg m.Z,m.ρ,m.β⟩:=by
 have hgt:∀ l,(∀ i,l≠.r i)->St.get ((tg.map (·.1)).map (fun i=>(Loc.r i,(none:Option LV)))++s) l=s.get l:=fun l hl=>B0e fun i _=>hl i
 have hgr:∀ id lv,St.get ((tg.map (·.1)).map (fun i=>(Loc.r i,(none:Option LV)))++s) (.r id)=some lv->id ∉ tg.map (·.1)/\s.get (.r id)=some lv:=by
  intro id lv hg;by_cases hi:id∈tg.map (·.1)
  ·rw [A5m hi] at hg;cases hg
  ·refine ⟨hi,?_⟩;rw [B0e fun i hh e=>hi (by injection e with e;subst e;exact hh)] at hg;exact hg
 have hX:Ext s m ((tg.map (·.1)).map (fun i=>(Loc.r i,(none:Option LV)))++s) ⟨m.w,M3 tg m.Z,m.ρ,m.β⟩ (Live s):=
  ⟨R9 _ _ _,fun id r' _ hr=>⟨r',(hgr id _ hr).2,rfl,rfl,rfl,C5 _,fun _ _ _ _ hc=>hc,fun _=>A0o (A5A fun v hv e=>(hgr id _ hr).1 (D5.2 ⟨v,hv,by omega⟩)) []⟩,fun b c' _ hc=>⟨c',by rwa [hgt _ (by simp)] at hc,rfl⟩,fun q i _ hi=>by rwa [hgt _ (by simp)] at hi⟩
 refine h.change (fun d=>hgt _ (by simp)) hX (fun id r hr=>?_) (fun b c hc=>?_) (A86 _ _ _) (C5 _) rfl rfl rfl (fun id r _ _ hg=>⟨⟨r,(hgr id _ hg).2⟩,rfl⟩) (fun b c hg=>.inl ⟨⟨c,by rwa [hgt _ (by simp)] at hg⟩,rfl⟩)
 ·obtain ⟨hni,hg⟩:=hgr id _ hr;exact (h.rw id r hg).move (A0o (A5A fun v hv e=>hni (D5.2 ⟨v,hv,by omega⟩)) []) (R9 _ _ _)
 ·rw [hgt _ (by simp)] at hc;obtain ⟨cs',h3,h4,h5,h6⟩:=h.bx b c hc;refine ⟨cs',All2.imp (fun l hm x hb=>hb.ext (hX.sub fun q hq=>⟨.b b,.b c,hc,E8.2 ⟨l,hm,hq⟩⟩)) h3,h4,?_,h6⟩;have hlt:(m.β b).g<m.w.heap.size:=(B2.1 h6).1;have:=(A0o (w:=m.w) (tg:=tg) (Z:=m.Z) (r:=2*b+1) (A5A fun v _=>by omega) [] (m.β b).g [] h5 hlt).2;exact this
def A9E(k k':K)(xs:List k.T):Option (List k'.T):=if h:k=k' then some (h▸xs) else none
theorem V6{k k':K}{xs:List k.T}{ys:List k'.T}(h:A9E k k' xs=some ys):∃ e:k=k',ys=e▸xs:=by
 unfold A9E at h;split at h
 ·rename_i e;injection h with h;exact ⟨e,h.symm⟩
 ·cases h
def K.sim:K->K->Bool
 | .int a,.int b=>decide (a=b)
 | .bool,.bool=>true
 | .fnc a,.fnc b=>Nat.beq a b
 | .str,.str=>true
 | .sl _ k,.sl _ k'=>k.sim k'
 | .sl _ k,.rs _ k'=>k.sim k'
 | .rs _ k,.sl _ k'=>k.sim k'
 | .rs _ k,.rs _ k'=>k.sim k'
 | .pa n k,.pa n' k'=>Nat.beq n n'&&k.sim k'
 | .pair a b,.pair a' b'=>a.sim a'&&b.sim b'
 | _,_=>false
theorem K.sim_T:∀ {k k':K},k.sim k' = true->k.T=k'.T
 | .int _,.int _,_=>rfl
 | .bool,.bool,_=>rfl
 | .fnc _,.fnc _,_=>rfl
 | .str,.str,_=>rfl
 | .sl _ k,.sl _ k',h=>T5 List (K.sim_T (k:=k) (k':=k') h)
 | .sl _ k,.rs _ k',h=>T5 List (K.sim_T (k:=k) (k':=k') h)
 | .rs _ k,.sl _ k',h=>T5 List (K.sim_T (k:=k) (k':=k') h)
 | .rs _ k,.rs _ k',h=>T5 List (K.sim_T (k:=k) (k':=k') h)
 | .pa _ k,.pa _ k',h=>T5 List (K.sim_T (k:=k) (k':=k') (by simp only [K.sim,B4] at h;exact h.2))
 | .pair a b,.pair a' b',h=>by
  simp only [K.sim,B4] at h;show (a.T×b.T)=(a'.T×b'.T);rw [K.sim_T h.1,K.sim_T h.2]
theorem K.sim_sz:∀ {k k':K},k.sim k' = true->k.sz=k'.sz
 | .int _,.int _,_=>rfl
 | .bool,.bool,_=>rfl
 | .fnc _,.fnc _,_=>rfl
 | .str,.str,_=>rfl
 | .sl _ k,.sl _ k',h=>rfl
 | .sl _ k,.rs _ k',h=>rfl
 | .rs _ k,.sl _ k',h=>rfl
 | .rs _ k,.rs _ k',h=>rfl
 | .pa _ k,.pa _ k',h=>rfl
 | .pair a b,.pair a' b',h=>by
  simp only [K.sim,B4] at h;simp only [K.sz,K.sim_sz h.1,K.sim_sz h.2]
theorem RoL.heq{α β:Type}(e:α=β){R:α->List Value->Prop}{R':β->List Value->Prop}{sz sz':Nat}(hs:sz=sz'){w:World}{Z:Col}{xs:List α}{ys:List β}{cs:List Value}
  (h:RoL R sz w Z xs cs) (hx:HEq xs ys) (hR:∀ x y ds,HEq x y->R x ds->R' y ds):RoL R' sz' w Z ys cs:=by
 cases e;cases hx;cases hs;obtain ⟨A,c,rfl,hl,hm,hc⟩:=h;refine ⟨A,c,rfl,hl,hm,fun hn=>?_⟩;obtain ⟨ad,rfl,hZ,hi⟩:=hc hn;exact ⟨ad,rfl,hZ,fun i h=>let ⟨ds,hd,hr,hcell⟩:=hi i h;⟨ds,hd,hR _ _ _ B9u hr,hcell⟩⟩
theorem RoP.heq{α β:Type}(e:α=β){R:α->List Value->Prop}{R':β->List Value->Prop}{n sz sz':Nat}(hs:sz=sz'){w:World}{Z:Col}{xs:List α}{ys:List β}{cs:List Value}
  (h:RoP R n sz w Z xs cs) (hx:HEq xs ys) (hR:∀ x y ds,HEq x y->R x ds->R' y ds):RoP R' n sz' w Z ys cs:=by
 cases e;cases hx;cases hs;rcases h with h | ⟨ad,rfl,hn,hZ,hl,hi⟩
 ·exact .inl h
 ·exact .inr ⟨ad,rfl,hn,hZ,hl,fun i h=>let ⟨ds,hd,hr,hcell⟩:=hi i h;⟨ds,hd,hR _ _ _ B9u hr,hcell⟩⟩
theorem Ro.ofSl{e:Nat}{k:K}{w:World}{Z:Col}{xs:List k.T}{v:Value}(h:Ro (.rs e k) w Z xs [v])(hn:0<xs.length):Ro (.pa xs.length k) w Z xs [.pointer (some (A0t v))]:=by
 obtain ⟨A,c,e1,hl,hm,hc⟩:=h;injection e1 with e1 _
 obtain ⟨ad,rfl,hZ,hi⟩:=hc hn;subst e1;refine .inr ⟨ad,rfl,rfl,hZ,?_,hi⟩;obtain ⟨ds,hd,_,hcell⟩:=hi 0 hn;have hp:=k.sz_pos;have hlt:=K5 w _ (hcell 0 ds[0] (by simp [show 0<ds.length by omega]))
 rwa [add_block] at hlt
theorem D1h{α α' β β':Type}(e:α=α')(e':β=β'){x:α×β}{y:α'×β'}(h:HEq x y):HEq x.1 y.1/\HEq x.2 y.2:=by
 cases e;cases e';cases h;exact ⟨B9u,B9u⟩
theorem D3q{α β:Type}(e:α=β){xs:List α}{ys:List β}(h:HEq xs ys)(lo hi:Nat):HEq ((xs.take hi).drop lo) ((ys.take hi).drop lo):=by
 cases e;cases h;rfl
theorem Ro.sim:∀ {k k':K} {w:World} {Z:Col} {x:k.T} {y:k'.T} {cs:List Value},k.sim k' = true->HEq x y->Ro k w Z x cs->Ro k' w Z y cs
 | .int a,.int b,_,_,_,_,_,h,he,hr=>by
  have h:=B0 h;subst h;cases he;exact hr
 | .bool,.bool,_,_,_,_,_,_,he,hr=>by cases he;exact hr
 | .fnc a,.fnc b,_,_,_,_,_,h,he,hr=>by
  have h:=A3 h;subst h;cases he;exact hr
 | .str,.str,_,_,_,_,_,_,he,hr=>by cases he;exact hr
 | .sl _ k,.sl _ k',_,_,_,_,_,h,he,hr=>RoL.heq (K.sim_T (k:=k) (k':=k') h) (K.sim_sz (k:=k) (k':=k') h) hr he fun x y ds hxy hx=>Ro.sim (k:=k) (k':=k') h hxy hx
 | .sl _ k,.rs _ k',_,_,_,_,_,h,he,hr=>RoL.heq (K.sim_T (k:=k) (k':=k') h) (K.sim_sz (k:=k) (k':=k') h) hr he fun x y ds hxy hx=>Ro.sim (k:=k) (k':=k') h hxy hx
 | .rs _ k,.sl _ k',_,_,_,_,_,h,he,hr=>RoL.heq (K.sim_T (k:=k) (k':=k') h) (K.sim_sz (k:=k) (k':=k') h) hr he fun x y ds hxy hx=>Ro.sim (k:=k) (k':=k') h hxy hx
 | .rs _ k,.rs _ k',_,_,_,_,_,h,he,hr=>RoL.heq (K.sim_T (k:=k) (k':=k') h) (K.sim_sz (k:=k) (k':=k') h) hr he fun x y ds hxy hx=>Ro.sim (k:=k) (k':=k') h hxy hx
 | .pa n k,.pa n' k',_,_,_,_,_,h,he,hr=>by
  simp only [K.sim,B4] at h;have hn:=A3 h.1;subst hn;exact RoP.heq (K.sim_T (k:=k) (k':=k') h.2) (K.sim_sz (k:=k) (k':=k') h.2) hr he fun x y ds hxy hx=>Ro.sim (k:=k) (k':=k') h.2 hxy hx
 | .pair a b,.pair a' b',_,_,_,_,_,h,he,hr=>by
  simp only [K.sim,B4] at h;obtain ⟨c0,c1,rfl,h0,h1⟩:=hr;obtain ⟨e1,e2⟩:=D1h (K.sim_T h.1) (K.sim_T h.2) he;exact ⟨c0,c1,rfl,Ro.sim h.1 e1 h0,Ro.sim h.2 e2 h1⟩
def A3U(k k':K)(xs:List k.T):Option (List k'.T):=if h:k.sim k' = true then some (cast (T5 List (K.sim_T h)) xs) else none
theorem V7{k k':K}{xs:List k.T}{ys:List k'.T}(h:A3U k k' xs=some ys):k.sim k' = true/\HEq xs ys:=by
 unfold A3U at h;split at h
 ·rename_i e;injection h with h;exact ⟨e,h▸(cast_heq _ _).symm⟩
 ·cases h
theorem B3h{k k':K}{xs:List k.T}{ys:List k'.T}(h:A3U k k' xs=some ys){e e':Nat}{w:World}{Z:Col}{cs:List Value}(hr:Ro (.rs e k) w Z xs cs):Ro (.rs e' k') w Z ys cs:=
 Ro.sim (k:=.rs e k) (k':=.rs e' k') (V7 h).1 (V7 h).2 hr
abbrev Mv:=List (Nat×Option J0×Row)
def H9(s:St):(k:K)->List Lf->J0->Option (k.T×List Lf×Mv)
 | .int U,.int U' n::r,_=>match decide (U=U') with
  | true=>some (n,r,[])
  | false=>none
 | .bool,.bool b::r,_=>some (b,r,[])
 | .fnc f,.fn f'::r,_=>match Nat.beq f f' with
  | true=>some ((),r,[])
  | false=>none
 | .str,.str b::r,_=>some (b,r,[])
 | .sl _ k,.nil::r,_=>some (([]:List k.T),r,[])
 | .sl e k,.own id::r,p=>match s.getR id with
  | some row=>match Nat.beq row.e e,A9E row.k k row.xs with
   | true,some xs=>some (xs,r,[(id,some p,row)])
   | _,_=>none
  | none=>none
 | .sl e k,.vw id 0 hi::r,p=>match s.getR id with
  | some row=>match Nat.beq row.e e,A9E row.k k row.xs with
   | true,some xs=>some (xs.take hi,r,[(id,some p,row)])
   | _,_=>none
  | none=>none
 | .rs _ k,.nil::r,_=>some (([]:List k.T),r,[])
 | .rs _ k,.ro _ k' xs::r,_=>match A3U k' k xs with
  | some ys=>some (ys,r,[])
  | none=>none
 | .rs _ k,.own id::r,_=>match s.getR id with
  | some row=>match A3U row.k k row.xs with
   | some xs=>some (xs,r,[(id,none,row)])
   | none=>none
  | none=>none
 | .rs _ k,.vw id lo hi::r,_=>match s.getR id with
  | some row=>match A3U row.k k row.xs with
   | some xs=>some ((xs.take hi).drop lo,r,[(id,none,row)])
   | none=>none
  | none=>none
 | .pa n k,.rpa n' k' xs::r,_=>match Nat.beq n n',A3U k' k xs with
  | true,some ys=>some (ys,r,[])
  | _,_=>none
 | .pa n k,.apt n' id::r,_=>match s.getR id with
  | some row=>match Nat.beq n n'&&Nat.ble 1 n,A3U row.k k row.xs with
   | true,some xs=>some (xs,r,[(id,none,row)])
   | _,_=>none
  | none=>none
 | .pair a b,ls,p=>match H9 s a ls (p ++ [0]) with
  | some (x,r,m1)=>match H9 s b r (p ++ [1]) with
   | some (y,r',m2)=>some ((x,y),r',m1++m2)
   | none=>none
  | none=>none
 | _,_,_=>none
def mvR(mv:Mv):Rds:=mv.map fun v=>(.r v.1,.r v.2.2)
def Does(w w':World)(Z Z':Col)(p0:J0)(mv:Mv):Prop:=
 ∀ v∈mv,match v.2.1 with
  | some p=>Moves w w' Z Z' [2*v.1] (p0++p)
  | none=>Frees w w' Z Z' [2*v.1]
theorem C3d{k:K}{e:Nat}{w:World}{Z:Col}{p:J0}{xs:List k.T}{v:Value}(h:OwL (Ow k w Z) e k.sz w Z p xs v){hi:Nat}(hh:hi<=xs.length) :
  OwL (Ow k w Z) e k.sz w Z p (xs.take hi) (cutV k.sz 0 hi v):=by
 obtain ⟨inner,ho,hc,hi'⟩:=h;have hl:(xs.take hi).length=hi:=by rw [B3];omega
 rcases ho.2 with ⟨rfl,hn⟩ | ⟨g,cap,cur,fz,rfl,hb,hg,hfz,hn,hcap,hs,ht⟩
 ·have h0:hi=0:=by omega
  subst h0;refine ⟨[],?_,fun g hg=>by simp [cutV,Value.ownBlock] at hg,fun i h=>by simp at h⟩;simpa [cutV] using A3s w 0 e k.sz
 ·have e1:cutV k.sz 0 hi (.slice (some ⟨g,0,none⟩) xs.length cap)=.slice (some ⟨g,0,none⟩) hi cap:=by
   simp only [cutV,A16,Nat.sub_zero,N1,Addr.add,Q5];split<;>rfl
  rw [e1];have hlen:hi*k.sz<=inner.length:=by rw [ho.1];exact E3 _ hh
  refine ⟨inner.take (hi*k.sz),⟨by rw [hl,B3];omega,.inr ⟨g,cap,cur,fz,by rw [hl],hb,hg,hfz,by rw [hl];omega,hcap,hs,?_⟩⟩,hc,fun i h=>?_⟩
  ·rw [hl,<- ht,O9]
   congr 1
   exact (T3 (E3 _ hh)).symm
  ·rw [hl] at h;have hx:=hi' i (by omega);have e2:(xs.take hi)[i]'(by rw [hl];exact h)=xs[i]'(by omega):=by simp
   rw [e2];have e3:((inner.take (hi*k.sz)).drop (i*k.sz)).take k.sz=(inner.drop (i*k.sz)).take k.sz:=by
    rw [A1p,O9]
    congr 1
    have:i*k.sz+k.sz<=hi*k.sz:=by rw [<- H8];exact E3 _ h
    omega
   rw [e3];exact hx
theorem OwL.toFree{k:K}{e e':Nat}{w w':World}{Z Z':Col}{p:J0}{xs:List k.T}{v:Value}(h:OwL (Ow k w Z) e k.sz w Z p xs v)(hf:Frees w w' Z Z' p)(hk:Keeps w w' Z Z') :
  Ro (.rs e' k) w' Z' xs [v]:=Ow.free (k:=.sl e k) ⟨v,rfl,h⟩ hf hk
theorem B9f{s s':St}{n:Nat}{w0:World}{Z0:Gh}{a:Act}{m:Mem}(hr:Rel n w0 Z0 s' a m){w':World}{Z':Col}(hk:Keeps m.w w' m.Z Z')(p0:J0) :
  ∀ {k:K} {ls:List Lf} {p:J0} {x:k.T} {rest:List Lf} {mv:Mv} {cs:List Value},H9 s k ls p=some (x,rest,mv)->Reads s' (mvR mv)->All2 (LfC s' m) ls cs->
   Does m.w w' m.Z Z' p0 mv->∃ c0 c1,cs=c0++c1/\Ow k w' Z' (p0++p) x c0/\All2 (LfC s' m) rest c1
 | .int U,ls,p,x,rest,mv,cs,h,hrd,hl,hd=>by
  cases ls with
  | nil=>simp [H9] at h
  | cons l ls=>
   cases cs with
   | nil=>exact hl.elim
   | cons c cs=>
    cases l<;>simp only [H9] at h<;>try (cases h;done)
    split at h
    ·rename_i e;have e:=B0 e;injection h with h;injection h with h1 h;injection h with h2 h3
     subst h1;subst h2;subst e;exact ⟨[c],cs,rfl,by have:=hl.1;simp only [LfC] at this;subst this;rfl,hl.2⟩
    ·cases h
 | .fnc f,ls,p,x,rest,mv,cs,h,hrd,hl,hd=>by
  cases ls with
  | nil=>simp [H9] at h
  | cons l ls=>
   cases cs with
   | nil=>exact hl.elim
   | cons c cs=>
    cases l<;>simp only [H9] at h<;>try (cases h;done)
    split at h
    ·rename_i e;have e:=A3 e;injection h with h;injection h with h1 h;injection h with h2 h3
     subst h1;subst h2;subst e;exact ⟨[c],cs,rfl,by have:=hl.1;simp only [LfC] at this;subst this;rfl,hl.2⟩
    ·cases h
 | .bool,ls,p,x,rest,mv,cs,h,hrd,hl,hd=>by
  cases ls with
  | nil=>simp [H9] at h
  | cons l ls=>
   cases cs with
   | nil=>exact hl.elim
   | cons c cs=>
    cases l<;>simp only [H9] at h<;>try (cases h;done)
    injection h with h;injection h with h1 h;injection h with h2 h3
    subst h1;subst h2;exact ⟨[c],cs,rfl,by have:=hl.1;simp only [LfC] at this;subst this;rfl,hl.2⟩
 | .str,ls,p,x,rest,mv,cs,h,hrd,hl,hd=>by
  cases ls with
  | nil=>simp [H9] at h
  | cons l ls=>
   cases cs with
   | nil=>exact hl.elim
   | cons c cs=>
    cases l<;>simp only [H9] at h<;>try (cases h;done)
    injection h with h;injection h with h1 h;injection h with h2 h3
    subst h1;subst h2;exact ⟨[c],cs,rfl,by have:=hl.1;simp only [LfC] at this;subst this;rfl,hl.2⟩
 | .sl e k,ls,p,x,rest,mv,cs,h,hrd,hl,hd=>by
  cases ls with
  | nil=>simp [H9] at h
  | cons l ls=>
   cases cs with
   | nil=>exact hl.elim
   | cons c cs=>
    cases l with
    | nil=>
     simp only [H9] at h;injection h with h;injection h with h1 h;injection h with h2 h3
     subst h1;subst h2;have:=hl.1;simp only [LfC] at this;subst this;exact ⟨[_],cs,rfl,⟨_,rfl,[],A3s _ _ _ _,fun g hg=>by simp [Value.ownBlock] at hg,fun i h=>by simp at h⟩,hl.2⟩
    | own id=>
     simp only [H9] at h;split at h
     ·rename_i row er;split at h
      ·rename_i xs he hcast;injection h with h;injection h with h1 h;injection h with h2 h3
       subst h1;subst h2;subst h3;obtain ⟨ek,rfl⟩:=V6 hcast;subst ek;have hrow:=hrd (.r id,.r row) (by simp [mvR]);have hv:=hl.1.2 row hrow;have hm:=hd (id,some p,row) (by simp);have he:=A3 he;subst he;exact ⟨[c],cs,rfl,⟨c,rfl,by rw [hv];exact (hr.rw id row hrow).move hm hk⟩,hl.2⟩
      ·cases h
     ·cases h
    | vw id lo hi=>
     cases lo with
     | succ lo=>simp [H9] at h
     | zero=>
      simp only [H9] at h;split at h
      ·rename_i row er;split at h
       ·rename_i xs he hcast;injection h with h;injection h with h1 h;injection h with h2 h3
        subst h1;subst h2;subst h3;obtain ⟨ek,rfl⟩:=V6 hcast;subst ek;have hrow:=hrd (.r id,.r row) (by simp [mvR]);obtain ⟨_,hh,hv⟩:=hl.1.2 row hrow;have hm:=hd (id,some p,row) (by simp);have he:=A3 he;subst he;exact ⟨[c],cs,rfl,⟨c,rfl,by rw [hv];exact C3d ((hr.rw id row hrow).move hm hk) hh⟩,hl.2⟩
       ·cases h
      ·cases h
    | int k n=>simp [H9] at h
    | bool b=>simp [H9] at h
    | str b=>simp [H9] at h
    | ro e k xs=>simp [H9] at h
    | sub id q off ver=>simp [H9] at h
    | ptr b off=>simp [H9] at h
    | ept id q off=>simp [H9] at h
    | rpt k x off=>simp [H9] at h
    | rpa n k x=>simp [H9] at h
    | mp _=>simp [H9] at h
    | mpb _=>simp [H9] at h
    | apt n id=>simp [H9] at h
    | fn f=>simp [H9] at h
    | anyb=>simp [H9] at h
    | chk _ _ _ _ _=>simp [H9] at h
    | clo _ _ _=>simp [H9] at h
    | any=>simp [H9] at h
    | nilp=>simp [H9] at h
    | ext id q off ver p e k zs=>simp [H9] at h
 | .rs e k,ls,p,x,rest,mv,cs,h,hrd,hl,hd=>by
  cases ls with
  | nil=>simp [H9] at h
  | cons l ls=>
   cases cs with
   | nil=>exact hl.elim
   | cons c cs=>
    cases l with
    | nil=>
     simp only [H9] at h;injection h with h;injection h with h1 h;injection h with h2 h3
     subst h1;subst h2;have:=hl.1;simp only [LfC] at this;subst this;exact ⟨[_],cs,rfl,⟨none,0,rfl,C5 _,H3 _,fun h=>by simp at h⟩,hl.2⟩
    | ro e' k' xs=>
     simp only [H9] at h;split at h
     ·rename_i ys hcast;injection h with h;injection h with h1 h;injection h with h2 h3
      subst h1;subst h2;subst h3;have hro:Ro (.rs e' k') m.w m.Z xs [c]:=hl.1;exact ⟨[c],cs,rfl,Ro.keep (k:=.rs e k) (B3h hcast hro) hk,hl.2⟩
     ·cases h
    | own id=>
     simp only [H9] at h;split at h
     ·rename_i row er;split at h
      ·rename_i xs hcast;injection h with h;injection h with h1 h;injection h with h2 h3
       subst h1;subst h2;subst h3;have hrow:=hrd (.r id,.r row) (by simp [mvR]);have hv:=hl.1.2 row hrow;have hm:=hd (id,none,row) (by simp);exact ⟨[c],cs,rfl,by rw [hv];exact B3h (e':=e) hcast ((hr.rw id row hrow).toFree (e':=e) hm hk),hl.2⟩
      ·cases h
     ·cases h
    | vw id lo hi=>
     simp only [H9] at h;split at h
     ·rename_i row er;split at h
      ·rename_i xs hcast;injection h with h;injection h with h1 h;injection h with h2 h3
       subst h1;subst h2;subst h3;have hrow:=hrd (.r id,.r row) (by simp [mvR]);obtain ⟨g1,g2,hv⟩:=hl.1.2 row hrow;have hm:=hd (id,none,row) (by simp);obtain ⟨es,eh⟩:=V7 hcast;exact ⟨[c],cs,rfl,by rw [hv];exact Ro.sim (k:=.rs e row.k) (k':=.rs e k) es (D3q (K.sim_T es) eh _ _) (B7s (e:=e) ((hr.rw id row hrow).toFree hm hk) g1 g2),hl.2⟩
      ·cases h
     ·cases h
    | int k n=>simp [H9] at h
    | bool b=>simp [H9] at h
    | str b=>simp [H9] at h
    | sub id q off ver=>simp [H9] at h
    | ptr b off=>simp [H9] at h
    | ept id q off=>simp [H9] at h
    | rpt k x off=>simp [H9] at h
    | rpa n k x=>simp [H9] at h
    | mp _=>simp [H9] at h
    | mpb _=>simp [H9] at h
    | apt n id=>simp [H9] at h
    | fn f=>simp [H9] at h
    | anyb=>simp [H9] at h
    | chk _ _ _ _ _=>simp [H9] at h
    | clo _ _ _=>simp [H9] at h
    | any=>simp [H9] at h
    | nilp=>simp [H9] at h
    | ext id q off ver p e k zs=>simp [H9] at h
 | .pa n k,ls,p,x,rest,mv,cs,h,hrd,hl,hd=>by
  cases ls with
  | nil=>simp [H9] at h
  | cons l ls=>
   cases cs with
   | nil=>exact hl.elim
   | cons c cs=>
    cases l<;>simp only [H9] at h<;>try (cases h;done)
    ·rename_i n' k' xs;split at h
     ·rename_i ys hn hcast;injection h with h;injection h with h1 h;injection h with h2 h3
      subst h1;subst h2;subst h3;have hn:=A3 hn;subst hn;have hro:Ro (.pa n k') m.w m.Z xs [c]:=hl.1;refine ⟨[c],cs,rfl,Ro.keep (k:=.pa n k) (Ro.sim (k:=.pa n k') (k':=.pa n k) ?_ (V7 hcast).2 hro) hk,hl.2⟩;simp only [K.sim,B4];exact ⟨by simp,(V7 hcast).1⟩
     ·cases h
    ·rename_i n' id;split at h
     ·rename_i row er;split at h
      ·rename_i xs hn hcast;injection h with h;injection h with h1 h;injection h with h2 h3
       subst h1;subst h2;subst h3;simp only [B4] at hn;have hn1:=A3 hn.1;have hn2:=D7 hn.2;subst hn1;have hrow:=hrd (.r id,.r row) (by simp [mvR]);obtain ⟨hlen,hv⟩:=hl.1.2 row hrow;have hm:=hd (id,none,row) (by simp);have hfree:Ro (.rs row.e row.k) w' Z' row.xs [m.ρ id]:=(hr.rw id row hrow).toFree hm hk;have hpa:=Ro.ofSl hfree (by omega);rw [hlen] at hpa;refine ⟨[c],cs,rfl,?_,hl.2⟩;rw [hv];refine Ro.sim (k:=.pa n row.k) (k':=.pa n k) ?_ (V7 hcast).2 hpa;simp only [K.sim,B4];exact ⟨by simp,(V7 hcast).1⟩
      ·cases h
     ·cases h
 | .pair ka kb,ls,p,x,rest,mv,cs,h,hrd,hl,hd=>by
  simp only [H9] at h;split at h
  ·rename_i x1 r1 m1 e1;split at h
   ·rename_i x2 r2 m2 e2;injection h with h;injection h with h1 h;injection h with h2 h3
    subst h1;subst h2;subst h3;have hrd':Reads s' (mvR m1)/\Reads s' (mvR m2):=by
     rw [<- Reads.app];simpa [mvR] using hrd
    obtain ⟨c0,c1,rfl,ho1,hl1⟩:=B9f hr hk p0 e1 hrd'.1 hl (fun v hv=>hd v (E4 _ hv));obtain ⟨c2,c3,rfl,ho2,hl2⟩:=B9f hr hk p0 e2 hrd'.2 hl1 (fun v hv=>hd v (D4 _ hv));exact ⟨c0++c2,c3,by simp,⟨c0,c2,rfl,by rw [A8];exact ho1,by rw [A8];exact ho2⟩,hl2⟩
   ·cases h
  ·cases h
theorem C07{s:St}:∀ {k:K} {ls:List Lf} {p:J0} {x:k.T} {rest:List Lf} {mv:Mv},H9 s k ls p=some (x,rest,mv)->Reads s (mvR mv):=by
 intro k;have one:∀ {id:Nat} {q:Option J0} {row:Row},s.getR id=some row->Reads s (mvR [(id,q,row)]):=by
  intro id q row er u hu;simp only [mvR,G4,A7v,A6] at hu;subst hu;exact St.getR_some.1 er
 induction k with
 | pair ka kb iha ihb=>
  intro ls p x rest mv h;simp only [H9] at h;split at h
  ·rename_i x1 r1 m1 e1;split at h
   ·rename_i x2 r2 m2 e2;injection h with h;injection h with h1 h;injection h with h2 h3
    subst h3;have:=Reads.app.2 ⟨iha e1,ihb e2⟩;simpa [mvR] using this
   ·cases h
  ·cases h
 | int U=>
  intro ls p x rest mv h;cases ls with
  | nil=>simp [H9] at h
  | cons l ls=>
   cases l<;>simp only [H9] at h<;>try (cases h;done)
   split at h
   ·injection h with h;injection h with _ h;injection h with _ h;subst h;exact Reads.nil _
   ·cases h
 | fnc f=>
  intro ls p x rest mv h;cases ls with
  | nil=>simp [H9] at h
  | cons l ls=>
   cases l<;>simp only [H9] at h<;>try (cases h;done)
   split at h
   ·injection h with h;injection h with _ h;injection h with _ h;subst h;exact Reads.nil _
   ·cases h
 | bool=>
  intro ls p x rest mv h;cases ls with
  | nil=>simp [H9] at h
  | cons l ls=>
   cases l<;>simp only [H9] at h<;>try (cases h;done)
   injection h with h;injection h with _ h;injection h with _ h;subst h;exact Reads.nil _
 | str=>
  intro ls p x rest mv h;cases ls with
  | nil=>simp [H9] at h
  | cons l ls=>
   cases l<;>simp only [H9] at h<;>try (cases h;done)
   injection h with h;injection h with _ h;injection h with _ h;subst h;exact Reads.nil _
 | sl e k ih=>
  intro ls p x rest mv h;cases ls with
  | nil=>simp [H9] at h
  | cons l ls=>
   cases l with
   | nil=>
    simp only [H9] at h;injection h with h;injection h with _ h;injection h with _ h;subst h;exact Reads.nil _
   | own id=>
    simp only [H9] at h;split at h
    ·rename_i row er;split at h
     ·injection h with h;injection h with _ h;injection h with _ h;subst h;exact one er
     ·cases h
    ·cases h
   | vw id lo hi=>
    cases lo with
    | succ lo=>simp [H9] at h
    | zero=>
     simp only [H9] at h;split at h
     ·rename_i row er;split at h
      ·injection h with h;injection h with _ h;injection h with _ h;subst h;exact one er
      ·cases h
     ·cases h
   | int k n=>simp [H9] at h
   | bool b=>simp [H9] at h
   | str b=>simp [H9] at h
   | ro e k xs=>simp [H9] at h
   | sub id q off ver=>simp [H9] at h
   | ptr b off=>simp [H9] at h
   | ept id q off=>simp [H9] at h
   | rpt k x off=>simp [H9] at h
   | rpa n k x=>simp [H9] at h
   | mp _=>simp [H9] at h
   | mpb _=>simp [H9] at h
   | apt n id=>simp [H9] at h
   | fn f=>simp [H9] at h
   | anyb=>simp [H9] at h
   | chk _ _ _ _ _=>simp [H9] at h
   | clo _ _ _=>simp [H9] at h
   | any=>simp [H9] at h
   | nilp=>simp [H9] at h
   | ext id q off ver p e k zs=>simp [H9] at h
 | pa n k ih=>
  intro ls p x rest mv h;cases ls with
  | nil=>simp [H9] at h
  | cons l ls=>
   cases l<;>simp only [H9] at h<;>try (cases h;done)
   ·split at h
    ·injection h with h;injection h with _ h;injection h with _ h;subst h;exact Reads.nil _
    ·cases h
   ·split at h
    ·rename_i row er;split at h
     ·injection h with h;injection h with _ h;injection h with _ h;subst h;exact one er
     ·cases h
    ·cases h
 | rs e k ih=>
  intro ls p x rest mv h;cases ls with
  | nil=>simp [H9] at h
  | cons l ls=>
   cases l with
   | nil=>
    simp only [H9] at h;injection h with h;injection h with _ h;injection h with _ h;subst h;exact Reads.nil _
   | ro e' k' xs=>
    simp only [H9] at h;split at h
    ·injection h with h;injection h with _ h;injection h with _ h;subst h;exact Reads.nil _
    ·cases h
   | own id=>
    simp only [H9] at h;split at h
    ·rename_i row er;split at h
     ·injection h with h;injection h with _ h;injection h with _ h;subst h;exact one er
     ·cases h
    ·cases h
   | vw id lo hi=>
    simp only [H9] at h;split at h
    ·rename_i row er;split at h
     ·injection h with h;injection h with _ h;injection h with _ h;subst h;exact one er
     ·cases h
    ·cases h
   | int k n=>simp [H9] at h
   | bool b=>simp [H9] at h
   | str b=>simp [H9] at h
   | sub id q off ver=>simp [H9] at h
   | ptr b off=>simp [H9] at h
   | ept id q off=>simp [H9] at h
   | rpt k x off=>simp [H9] at h
   | rpa n k x=>simp [H9] at h
   | mp _=>simp [H9] at h
   | mpb _=>simp [H9] at h
   | apt n id=>simp [H9] at h
   | fn f=>simp [H9] at h
   | anyb=>simp [H9] at h
   | chk _ _ _ _ _=>simp [H9] at h
   | clo _ _ _=>simp [H9] at h
   | any=>simp [H9] at h
   | nilp=>simp [H9] at h
   | ext id q off ver p e k zs=>simp [H9] at h
abbrev Ke(R:Type):=O->Option R
def OutE{R:Type}(P:Program)(s:St)(op:Op)(d:Nat)(U:Ke R)(r:R):Prop:=
 ∃ δ,U δ=some r/\Reads s δ.rd/\∀ n (o:Oper),o.op=op->o.dst=some d->d<n->Good P n o δ
theorem C2v{s s':St}{x:Operand}{v:AV}{rds:Rds}(h:M5 s x=some (v,rds))(hrd:Reads s' rds):∀ q∈v.men,Live s' q:=by
 cases x with
 | tmp d=>
  simp only [M5] at h;split at h
  ·rename_i u hu;injection h with h;injection h with h1 h2;subst h1;subst h2
   exact fun q hq=>⟨.t d,.t u,hrd _ A5,hq⟩
  ·cases h
 | const c=>
  simp only [M5] at h;split at h
  ·rename_i u hu;injection h with h;injection h with h1 h2;subst h1;subst h2
   intro q hq;unfold B9a at hu;split at hu<;>first | (injection hu with hu;subst hu;cases hq) | cases hu
  ·cases h
 | func f=>
  simp only [M5] at h;split at h
  ·injection h with h;injection h with h1 h2;subst h1;intro q hq;cases hq
  ·cases h
 | global g=>simp [M5] at h
theorem B3i{s:St}{m:Mem}{v:AV}{x:Value}{ls:List Lf}(hl:avL v=some ls)(h:AVC s m v x):∃ cs:List Value,x.cells=cs.toArray/\All2 (LfC s m) ls cs:=by
 cases v with
 | one l=>
  simp only [avL] at hl;injection hl with hl;subst hl
  refine ⟨[x],?_,h,trivial⟩;have:=LfC.one h;cases x<;>simp [Value.oneCell'] at this<;>rfl
 | agg l=>
  simp only [avL] at hl;injection hl with hl;subst hl
  obtain ⟨cs,rfl,h⟩:=h;exact ⟨cs,rfl,h⟩
 | tup p=>simp [avL] at hl
 | und=>simp [avL] at hl
theorem C8s{v:AV}{ls:List Lf}(h:avL v=some ls):∀ l∈ls,∀ q∈l.men,q∈v.men:=by
 cases v with
 | one l=>simp only [avL] at h;injection h with h;subst h;intro u hu q hq;rw [A6.1 hu] at hq;exact hq
 | agg l=>simp only [avL] at h;injection h with h;subst h;intro u hu q hq;exact E8.2 ⟨u,hu,hq⟩
 | tup p=>simp [avL] at h
 | und=>simp [avL] at h
def D5R{R:Type}(cfg:Cfg)(s:St)(d t:Nat)(x:Operand)(U:Ke R):Option R:=
 match M5 s x with
 | some (v,rx)=>match avL v with
  | some ls=>U ⟨rx,[(.t d,some (.t (.one (.ptr d 0)))),(.b d,some (.b ls))],[.b d]⟩
  | none=>none
 | none=>none
theorem D3r{R:Type}{P:Program}{cfg:Cfg}{s:St}{d t:Nat}{x:Operand}{U:Ke R}{r:R}(h:D5R cfg s d t x U=some r):OutE P s (.box t x) d U r:=by
 unfold D5R at h;split at h
 ·rename_i v rx ex;split at h
  ·rename_i ls el;refine ⟨_,h,C0 ex,fun n o ho hdst hd w0 Z0 s' a m hr hrd hnew next Q hn=>?_⟩
   obtain ⟨cs,hcs,hl⟩:=B3i el (E0 ex hr hrd);have hlive:=C2v ex hrd;have h1:=hr.newBox hd (hnew _ A5) t hl (All2.one hl) (fun l hm q hq=>hlive q (C8s el l hm q hq));have h2:=h1.put (v:=.one (.ptr d 0)) (x:=.pointer (some ⟨m.w.heap.size,0,none⟩)) hd ⟨rfl,fun c _=>by simp [upd_same]⟩;have hrun:(execOp a.eval o).run P m.w=.ok (.value (.pointer (some ⟨m.w.heap.size,0,none⟩))) (m.w.alloc (.cells cs.toArray t)):=by
    simp [execOp,ho,Instr.box,newVar,newRow,C3,hcs]
   simp only [Oper.wp,hrun,Oper.upon,hdst];exact hn _ _ h2
  ·cases h
 ·cases h
theorem C08:∀ (k:K) (s:St) (m:Mem),All2 (LfC s m) (zl k) (zc k)
 | .int _,_,_=>⟨rfl,trivial⟩
 | .bool,_,_=>⟨rfl,trivial⟩
 | .fnc _,_,_=>⟨rfl,trivial⟩
 | .str,_,_=>⟨rfl,trivial⟩
 | .sl _ _,_,_=>⟨rfl,trivial⟩
 | .rs _ _,_,_=>⟨rfl,trivial⟩
 | .pa _ _,_,_=>⟨.inl ⟨rfl,rfl⟩,trivial⟩
 | .pair a b,s,m=>All2.app (C08 a s m) (C08 b s m)
theorem C70:∀ (k:K),∀ l∈zl k,l.men = []
 | .int _,l,h=>by rw [A6.1 h];rfl
 | .bool,l,h=>by rw [A6.1 h];rfl
 | .fnc _,l,h=>by rw [A6.1 h];rfl
 | .str,l,h=>by rw [A6.1 h];rfl
 | .sl _ _,l,h=>by rw [A6.1 h];rfl
 | .rs _ _,l,h=>by rw [A6.1 h];rfl
 | .pa _ _,l,h=>by rw [A6.1 h];rfl
 | .pair a b,l,h=>by
  rcases C9.1 h with h | h
  ·exact C70 a l h
  ·exact C70 b l h
def C71{R:Type}(cfg:Cfg)(d t:Nat)(U:Ke R):Option R:=
 match cfg.ty t with
 | some ti=>U ⟨[],[(.t d,some (.t (.one (.ptr d 0)))),(.b d,some (.b (zl ti.k)))],[.b d]⟩
 | none=>none
theorem D03{R:Type}{P:Program}{cfg:Cfg}(hc:L3 P cfg){s:St}{d t:Nat}{U:Ke R}{r:R}(h:C71 cfg d t U=some r):OutE P s (.alloc t) d U r:=by
 unfold C71 at h;split at h
 ·rename_i ti et;refine ⟨_,h,Reads.nil _,fun n o ho hdst hd w0 Z0 s' a m hr hrd hnew next Q hn=>?_⟩
  obtain ⟨f,z,hi,hs,hb,hz,hzc,_⟩:=hc.info et;have h1:=hr.newBox hd (hnew _ A5) t (C08 ti.k s' m) (All2.one (C08 ti.k s' m)) (fun l hm q hq=>by rw [C70 _ l hm] at hq;cases hq);have h2:=h1.put (v:=.one (.ptr d 0)) (x:=.pointer (some ⟨m.w.heap.size,0,none⟩)) hd ⟨rfl,fun c _=>by simp [upd_same]⟩;have hrun:(execOp a.eval o).run P m.w=.ok (.value (.pointer (some ⟨m.w.heap.size,0,none⟩))) (m.w.alloc (.cells (zc ti.k).toArray t)):=by
   have:z.cells=(zc ti.k).toArray:=by rw [<- hzc]
   simp [execOp,ho,Instr.alloc,zeroValue,typeInfo,hi,hz,newVar,newRow,C3,this]
  simp only [Oper.wp,hrun,Oper.upon,hdst];exact hn _ _ h2
 ·cases h
theorem B71:∀ (k:K) (w:World) (Z:Col) (p:J0),Ow k w Z p (zd k) (zc k)
 | .int _,_,_,_=>rfl
 | .bool,_,_,_=>rfl
 | .fnc _,_,_,_=>rfl
 | .str,_,_,_=>rfl
 | .sl _ _,w,_,_=>⟨_,rfl,[],A3s _ _ _ _,fun g hg=>by simp [Value.ownBlock] at hg,fun i h=>by simp [zd] at h⟩
 | .rs _ _,_,_,_=>⟨none,0,rfl,C5 _,H3 _,fun h=>by simp [zd] at h⟩
 | .pa _ _,_,_,_=>.inl ⟨rfl,rfl⟩
 | .pair a b,w,Z,p=>⟨zc a,zc b,rfl,B71 a w Z _,B71 b w Z _⟩
theorem C09:∀ k:K,(zc k).length=k.sz:=fun k=>(B71 k default A50 []).len
def C3e{R:Type}(cfg:Cfg)(d t:Nat)(U:Ke R):Option R:=
 match cfg.ar t with
 | some (n,e)=>match cfg.ty e with
  | some ti=>match Nat.ble n 4096 with
   | true=>U ⟨[],[(.t d,some (.t (.one (.apt n d)))),(.r d,some (.r ⟨t,ti.k,List.replicate n (zd ti.k),0⟩))],[.r d]⟩
   | false=>none
  | none=>none
 | none=>none
def B3j:Operand->Operand->Bool
 | .tmp a,.tmp b=>Nat.beq a b
 | .const (.int _ a),.const (.int _ b)=>decide (a=b)
 | _,_=>false
def D1i{R:Type}(cfg:Cfg)(s:St)(d t:Nat)(l c:Operand)(U:Ke R):Option R:=
 match M5 s l,B3j l c,cfg.el t with
 | some (.one (.int _ i),rl),true,some e=>match cfg.ty e with
  | some ti=>bif decide (0<=i) then bif decide (i.toNat<=9223372036854775807) then bif decide (ti.bytes*i.toNat<=281474976710656) then
    U ⟨rl,[(.t d,some (.t (.one (.own d)))),(.r d,some (.r ⟨e,ti.k,List.replicate i.toNat (zd ti.k),0⟩))],[.r d]⟩ else none else none else none
  | none=>none
 | _,_,_=>none
theorem D1j{z:Value}{size m j:Nat}(hz:z.cells.size=size)(hs:0<size)(hj:j<m) :
  ((madeCells z.cells (m*size)).toList.drop (j*size)).take size=z.cells.toList:=by
 have hle:j*size+size<=m*size:=by rw [<- H8];exact E3 _ hj
 apply A5g
 ·simp [size_madeCells,hz];omega
 ·intro i h1 h2;have hi:i<size:=by rw [D6,hz] at h2;exact h2
  have hmod:(j*size+i) % size=i:=by
   rw [A7w,Nat.mul_add_mod];exact Nat.mod_eq_of_lt hi
  simp [madeCells,hz,hmod];rw [B7n z.cells i (by omega)]
theorem D1k{R:Type}{P:Program}{cfg:Cfg}(hc:L3 P cfg){s:St}{d t:Nat}{l c:Operand}{U:Ke R}{r:R}(h:D1i cfg s d t l c U=some r):OutE P s (.makeSlice t l c) d U r:=by
 unfold D1i at h;split at h
 ·rename_i kl i rl e ex esame et;split at h
  ·rename_i ti eti;obtain ⟨h0,h⟩:=H4 h;obtain ⟨h1,h⟩:=H4 h;obtain ⟨h2,h⟩:=H4 h;have h0:=B0 h0;have h1:=B0 h1;have h2:=B0 h2;refine ⟨_,h,C0 ex,fun n o ho hdst hd w0 Z0 s' a m hr hrd hnew next Q hn=>?_⟩
   obtain ⟨f,z,hi,hs,hb,hz,hzc,_⟩:=hc.info eti;have hl:a.eval l=.int kl i:=E0 ex hr hrd;have hcv:∃ kc,a.eval c=.int kc i:=by
    cases l with
    | tmp x=>
     cases c with
     | tmp y=>simp only [B3j] at esame;rw [<- A3 esame];exact ⟨_,hl⟩
     | _=>simp [B3j] at esame
    | const u=>
     cases u with
     | int k1 n1=>
      cases c with
      | const u2=>
       cases u2 with
       | int k2 n2=>
        simp only [B3j] at esame;have esame:=B0 esame;simp only [Act.eval] at hl;injection hl with _ hl
        subst hl;subst esame;exact ⟨k2,rfl⟩
       | _=>simp [B3j] at esame
      | _=>simp [B3j] at esame
     | _=>simp [B3j] at esame
    | _=>simp [B3j] at esame
   obtain ⟨kc,hcv⟩:=hcv;have hi0:((i.toNat:Nat):Int)=i:=A2g h0;have hzs:z.cells.size=ti.k.sz:=by rw [<- D6,hzc,C09]
   have hrun:(execOp a.eval o).run P m.w=.ok (.value (.slice (some ⟨m.w.heap.size,0,none⟩) i.toNat i.toNat)) (m.w.alloc (.cells (madeCells z.cells (i.toNat*ti.k.sz)) e)):=by
    have:=run_make (P:=P) m.w t e f z (hc.el et) hi hz kl kc i i h0 (A3m _) (by
     rw [hb,<- hi0,<- Int.natCast_mul];exact Int.ofNat_le.2 h2) (by omega)
    rw [hs] at this;simp [execOp,ho,hl,hcv,C3,this]
   have hlen:(List.replicate i.toNat (zd ti.k)).length=i.toNat:=A0C;have h3:=hr.newRow (d:=d) hd (hnew _ A5) (row:=⟨e,ti.k,List.replicate i.toNat (zd ti.k),0⟩) (o:=.cells (madeCells z.cells (i.toNat*ti.k.sz)) e) (v:=.slice (some ⟨m.w.heap.size,0,none⟩) i.toNat i.toNat) (by
    refine ⟨(madeCells z.cells (i.toNat*ti.k.sz)).toList,?_,fun g hg=>?_,fun j hj=>?_⟩
    ·rw [hlen];exact A9A (A4s m.w _ _ (H3 _) (by simp only [maxLen];omega) (size_madeCells _ _))
    ·simp only [Value.ownBlock] at hg;injection hg with hg;subst hg
     simp [upd_same]
    ·simp only [A0C] at hj;simp only [B3F];rw [D1j hzs ti.k.sz_pos hj,hzc];exact B71 _ _ _ _)
   have h4:=h3.put (v:=.one (.own d)) (x:=.slice (some ⟨m.w.heap.size,0,none⟩) i.toNat i.toNat) hd ⟨rfl,fun r _=>by simp [upd_same]⟩;simp only [Oper.wp,hrun,Oper.upon,hdst];exact hn _ _ h4
  ·cases h
 ·cases h
theorem C8t{c:List Value}{sz:Nat}(hc:c.length=sz):∀ {n j:Nat},j<n->((List.replicate n c).flatten.drop (j*sz)).take sz=c
 | 0,j,h=>by omega
 | n+1,0,_=>by
  simp only [W5,A9u,A16,A0l];rw [F4 (by omega),G2 (by omega)]
 | n+1,j+1,h=>by
  have e:(j+1)*sz=c.length+j*sz:=by rw [hc,L0];omega
  simp only [W5,A9u];rw [e,A5h,P8 (by omega),F5,O6];exact C8t hc (by omega)
theorem D1l{c:List Value}{sz:Nat}(hc:c.length=sz)(n:Nat):(List.replicate n c).flatten.length=n*sz:=by
 simp [List.length_flatten,hc]
theorem C72{R:Type}{P:Program}{cfg:Cfg}(hc:L3 P cfg){s:St}{d t:Nat}{U:Ke R}{r:R}(h:C3e cfg d t U=some r):OutE P s (.alloc t) d U r:=by
 unfold C3e at h;split at h
 ·rename_i n e et;split at h
  ·rename_i ti eti;split at h
   ·rename_i hn;have hn:=D7 hn;refine ⟨_,h,Reads.nil _,fun n1 o ho hdst hd w0 Z0 s' a m hr hrd hnew next Q hnx=>?_⟩
    obtain ⟨hu,f,z,hi,hz,hzc⟩:=hc.ar et;have hzc:=hzc ti eti;have hlen0:=C09 ti.k;have hsz0:z.cells.size=n*ti.k.sz:=by rw [<- D6,hzc,D1l hlen0]
    have hrun:(execOp a.eval o).run P m.w=.ok (.value (.pointer (some ⟨m.w.heap.size,0,none⟩))) (m.w.alloc (.cells z.cells t)):=by
     simp [execOp,ho,Instr.alloc,zeroValue,typeInfo,hi,hz,newVar,newRow,C3]
    have hlen:(List.replicate n (zd ti.k)).length=n:=A0C;have h3:=hr.newRow (d:=d) hd (hnew _ A5) (row:=⟨t,ti.k,List.replicate n (zd ti.k),0⟩) (o:=.cells z.cells t) (v:=.slice (some ⟨m.w.heap.size,0,none⟩) n n) (by
     refine ⟨z.cells.toList,?_,fun g hg=>?_,fun j hj=>?_⟩
     ·rw [hlen];exact A9A (A4s m.w _ _ (H3 _) (by simp only [maxLen];omega) hsz0)
     ·simp only [Value.ownBlock] at hg;injection hg with hg;subst hg
      simp [upd_same]
     ·simp only [A0C] at hj;simp only [B3F];rw [hzc,C8t hlen0 hj];exact B71 _ _ _ _)
    have h4:=h3.put (v:=.one (.apt n d)) (x:=.pointer (some ⟨m.w.heap.size,0,none⟩)) hd ⟨rfl,fun r hr=>by
     rw [St.get_cons_same] at hr;injection hr with hr;injection hr with hr;subst hr
     exact ⟨hlen,by simp [upd_same,A0t]⟩⟩
    simp only [Oper.wp,hrun,Oper.upon,hdst];exact hnx _ _ h4
   ·cases h
  ·cases h
 ·cases h
def Only(w w':World)(Z Z':Col)(r:Nat):Prop:=∀ b,b<w.heap.size->(∀ q,Z b≠some (r::q))->w'.heap[b]? = w.heap[b]?/\Z' b=Z b
theorem Only.keeps{w w':World}{Z Z':Col}{r:Nat}(h:Only w w' Z Z' r):Keeps w w' Z Z':=fun b hb hlt=>
 let ⟨e1,e2⟩:=h b hlt (fun q hq=>by rw [hb] at hq;cases hq);⟨e1,e2.trans hb⟩
theorem Only.fore{w w':World}{Z Z':Col}{r:Nat}(h:Only w w' Z Z' r):Fore w w' Z Z':=fun b hb hlt=>
 let ⟨e1,e2⟩:=h b hlt (fun q hq=>by rw [hb] at hq;cases hq);⟨e1,e2.trans hb⟩
theorem Only.moves{w w':World}{Z Z':Col}{r:Nat}(h:Only w w' Z Z' r){r':Nat}(hne:r'≠r)(p:J0):Moves w w' Z Z' (r'::p) (r'::p):=fun b q hb hlt=>by
 have hb':Z b=some (r'::(p++q)):=hb;obtain ⟨e1,e2⟩:=h b hlt (fun q' hq=>by rw [hb'] at hq;injection hq with hq;injection hq with hq _;exact hne hq);exact ⟨e1,e2.trans hb⟩
theorem A80{k:K}{e:Nat}{w:World}{Z:Col}{p:J0}{xs:List k.T}{v:Value}(h:OwL (Ow k w Z) e k.sz w Z p xs v)(hn:0<xs.length) :
  Z (A0t v).block=some p/\(A0t v).block<w.heap.size:=by
 obtain ⟨inner,ho,hc,_⟩:=h;rcases ho.2 with ⟨rfl,hn'⟩ | ⟨g,cap,cur,fz,rfl,_,hg,_⟩
 ·omega
 ·exact ⟨hc g rfl,(B2.1 hg).1⟩
theorem Rel.only{n:Nat}{w0:World}{Z0:Gh}{s:St}{a:Act}{m:Mem}(h:Rel n w0 Z0 s a m){d:Nat}(hdn:d<n)(hf:¬ Live s (.r d)){row:Row}{v:Value}{w':World}{Z':Col}
  (hO:Only m.w w' m.Z Z' (2*d)) (hs:m.w.heap.size<=w'.heap.size) (os:w'.os=m.w.os) (tp:w'.tape=m.w.tape) (ou:w'.output=m.w.output)
  (ho:OwL (Ow row.k w' Z') row.e row.k.sz w' Z' [2*d] row.xs v) :
  Rel n w0 Z0 ((.r d,some (.r row))::s) a ⟨w',Z',upd m.ρ d v,m.β⟩:=by
 have hget:∀ l,l≠.r d->St.get ((.r d,some (.r row))::s) l=s.get l:=fun l hl=>St.get_cons_ne (U5 hl) _ _
 have hX:Ext s m ((.r d,some (.r row))::s) ⟨w',Z',upd m.ρ d v,m.β⟩ (Live s):=by
  refine ⟨hO.keeps,fun id r' hL hr=>?_,fun b c' _ hc=>⟨c',by rwa [hget _ (by simp)] at hc,rfl⟩,fun q i _ hi=>by rwa [hget _ (by simp)] at hi⟩;have hid:id≠d:=fun e=>hf (e▸hL)
  rw [hget _ (by simpa using hid)] at hr;refine ⟨r',hr,upd_ne _ hid _,rfl,rfl,C5 _,fun _ hn j v hc=>?_,fun _=>hO.moves (by omega) []⟩;obtain ⟨hcol,hlt⟩:=A80 (h.rw id r' hr) hn;refine (J8 ?_).trans hc;rw [add_block];exact (hO _ hlt (fun q hq=>by rw [hcol] at hq;injection hq with hq;injection hq with hq _;omega)).1
 refine h.change (fun i=>hget _ (by simp)) hX (fun id r hr=>?_) (fun b c hc=>?_) hO.fore hs os tp ou (fun id r h1 _ hg=>by
  have hid:id≠d:=by have:=h.nn.1;omega
  exact ⟨⟨r,by rwa [hget _ (by simpa using hid)] at hg⟩,upd_ne _ hid _⟩) (fun b c hg=>.inl ⟨⟨c,by rwa [hget _ (by simp)] at hg⟩,rfl⟩)
 ·by_cases hid:id=d
  ·subst hid;rw [St.get_cons_same] at hr;injection hr with hr;injection hr with hr;subst hr
   simp only [upd_same];exact ho
  ·rw [hget _ (by simpa using hid)] at hr;simp only [upd_ne _ hid];exact (h.rw id r hr).move (hO.moves (by omega) []) hO.keeps
 ·rw [hget _ (by simp)] at hc;obtain ⟨cs',h3,h4,h5,h6⟩:=h.bx b c hc;have hlt:(m.β b).g<m.w.heap.size:=(B2.1 h6).1;obtain ⟨e1,e2⟩:=hO _ hlt (fun q hq=>by rw [h5] at hq;injection hq with hq;injection hq with hq _;omega);exact ⟨cs',All2.imp (fun l hm x hb=>hb.ext (hX.sub fun q hq=>⟨.b b,.b c,hc,E8.2 ⟨l,hm,hq⟩⟩)) h3,h4,e2.trans h5,e1.trans h6⟩
def OwEls(k:K)(w:World)(Z:Col)(p:J0):Nat->List k.T->List Value->Prop
 | _,[],cs=>cs = []
 | j,y::ys,cs=>∃ c0 c1,cs=c0++c1/\Ow k w Z (p ++ [j]) y c0/\OwEls k w Z p (j+1) ys c1
theorem OwEls.len{k:K}{w:World}{Z:Col}{p:J0}:∀ {j:Nat} {ys:List k.T} {cs:List Value},OwEls k w Z p j ys cs->cs.length=ys.length*k.sz
 | _,[],_,h=>by simp only [OwEls] at h;subst h;simp
 | _,_::ys,_,h=>by
  obtain ⟨c0,c1,rfl,h0,h1⟩:=h;rw [A4,h0.len,h1.len,H0,H8,B7o]
theorem OwEls.get{k:K}{w:World}{Z:Col}{p:J0}:∀ {j:Nat} {ys:List k.T} {cs:List Value},OwEls k w Z p j ys cs->∀ i (h:i<ys.length),Ow k w Z (p ++ [j+i]) ys[i] ((cs.drop (i*k.sz)).take k.sz)
 | _,[],_,_,i,hi=>by simp at hi
 | j,y::ys,_,h,i,hi=>by
  obtain ⟨c0,c1,rfl,h0,h1⟩:=h;cases i with
  | zero=>
   simp only [A16,A0l,K3,List.getElem_cons_zero];rw [F4 (by rw [h0.len];exact C5 _),G2 (by rw [h0.len];exact C5 _)];exact h0
  | succ i=>
   have:=OwEls.get h1 i (by simpa using hi);rw [H8,B7o (i*k.sz),<- h0.len,<- O8,A0m,h0.len];simp only [B3G];rw [Nat.add_right_comm,N7] at this;exact this
theorem OwEls.one{k:K}{w:World}{Z:Col}{p:J0}:∀ {j:Nat} {ys:List k.T} {cs:List Value},OwEls k w Z p j ys cs->∀ u∈cs,u.oneCell' = true
 | _,[],_,h=>by simp only [OwEls] at h;subst h;intro u hu;cases hu
 | _,_::ys,_,h=>by
  obtain ⟨c0,c1,rfl,h0,h1⟩:=h;intro u hu;rcases C9.1 hu with hu | hu
  ·exact h0.one u hu
  ·exact h1.one u hu
def nodupB:List Nat->Bool
 | []=>true
 | i::l=>!(l.any (Nat.beq i))&&nodupB l
theorem A9F{i:Nat}{l:List Nat}(h:nodupB (i::l)=true):i ∉ l/\nodupB l=true:=by
 simp only [nodupB,B4,Q4,T0] at h;exact ⟨fun hi=>h.1 i hi (A17 i),h.2⟩
def B9J(p0:J0)(mv:Mv):Tg:=mv.map fun v=>(v.1,fun q=>v.2.1.map fun p=>p0++p++q)
theorem C0A(p0:J0)(mv:Mv):(B9J p0 mv).map (·.1)=mv.map (·.1):=by simp [B9J]
theorem C0B{p0:J0}:∀ {mv:Mv},nodupB (mv.map (·.1))=true->∀ v∈mv,A0c (B9J p0 mv) (2*v.1)=some (fun q=>v.2.1.map fun p=>p0++p++q)
 | [],_,v,hv=>nomatch hv
 | u::mv,hn,v,hv=>by
  obtain ⟨h1,h2⟩:=A9F hn;rcases B8.1 hv with rfl | hv
  ·simp [B9J,A0c]
  ·have hne:¬ 2*u.1=2*v.1:=fun e=>h1 (D5.2 ⟨v,hv,by show v.1=u.1;omega⟩)
   simp only [B9J,G4,A0c,D8 hne];exact C0B h2 v hv
theorem C0C{w:World}{Z:Col}{p0:J0}{mv:Mv}(hn:nodupB (mv.map (·.1))=true):Does w w Z (M3 (B9J p0 mv) Z) p0 mv:=by
 intro v hv;have hl:=C0B (p0:=p0) hn v hv;cases hp:v.2.1 with
 | some p=>exact A6P hl (fun q=>by rw [hp];rfl)
 | none=>exact B3g hl (fun q=>by rw [hp];rfl)
theorem Does.then{w w':World}{Z Z1 Z':Col}{p0:J0}{mv:Mv}(h:Does w w Z Z1 p0 mv)(hw:∀ b,b<w.heap.size->w'.heap[b]? = w.heap[b]?/\Z' b=Z1 b):Does w w' Z Z' p0 mv:=by
 intro v hv;have:=h v hv;cases hp:v.2.1 with
 | some p=>
  simp only [hp] at this ⊢;exact fun b q hb hlt=>⟨(hw b hlt).1,(hw b hlt).2.trans (this b q hb hlt).2⟩
 | none=>
  simp only [hp] at this ⊢;exact fun b q hb hlt=>⟨(hw b hlt).1,(hw b hlt).2.trans (this b q hb hlt).2⟩
def B3k(s:St)(k:K):List (Nat×Operand)->Nat->Option (List k.T×Mv×Rds)
 | [],_=>some ([],[],[])
 | (i,x)::ps,j=>match Nat.beq i j,M5 s x with
  | true,some (v,rx)=>match avL v with
   | some ls=>match H9 s k ls [j] with
    | some (y,[],mv)=>match B3k s k ps (j+1) with
     | some (ys,mvs,rds)=>some (y::ys,mv++mvs,rx++rds)
     | none=>none
    | _=>none
   | none=>none
  | _,_=>none
theorem B72{s:St}{k:K}:∀ {ps:List (Nat×Operand)} {j:Nat} {ys:List k.T} {mv:Mv} {rds:Rds},B3k s k ps j=some (ys,mv,rds)->Reads s (rds++mvR mv)
 | [],_,_,_,_,h=>by simp only [B3k] at h;injection h with h;injection h with _ h;injection h with h1 h2;subst h1;subst h2;exact Reads.nil _
 | (i,x)::ps,j,ys,mv,rds,h=>by
  simp only [B3k] at h;split at h
  ·rename_i v rx _ ex;split at h
   ·rename_i ls el;split at h
    ·rename_i y mv1 eg;split at h
     ·rename_i ys' mvs rds' er;injection h with h;injection h with h1 h;injection h with h2 h3
      subst h1;subst h2;subst h3;have ih:=Reads.app.1 (B72 er);have hg:=C07 eg;simp only [mvR,A74] at *
      exact Reads.app.2 ⟨Reads.app.2 ⟨C0 ex,ih.1⟩,Reads.app.2 ⟨hg,ih.2⟩⟩
     ·cases h
    ·cases h
   ·cases h
  ·cases h
theorem B7u{s s':St}{n:Nat}{w0:World}{Z0:Gh}{a:Act}{m:Mem}(hr:Rel n w0 Z0 s' a m){w':World}{Z':Col}(hk:Keeps m.w w' m.Z Z')(p0:J0){k:K} :
  ∀ {ps:List (Nat×Operand)} {j:Nat} {ys:List k.T} {mv:Mv} {rds:Rds},B3k s k ps j=some (ys,mv,rds)->Reads s' (rds++mvR mv)->Does m.w w' m.Z Z' p0 mv->
   ∃ vs:List Value,(ps.map fun p=>(p.1,a.eval p.2))=(vs.zipIdx j).map (fun x=>(x.2,x.1))/\vs.length=ys.length/\(∀ v∈vs,v.cells.size=k.sz)/\OwEls k w' Z' p0 j ys (vs.flatMap fun v=>v.cells.toList)
 | [],j,ys,mv,rds,h,hrd,hd=>by
  simp only [B3k] at h;injection h with h;injection h with h1 h;subst h1
  exact ⟨[],rfl,rfl,fun v hv=>(nomatch hv),rfl⟩
 | (i,x)::ps,j,ys,mv,rds,h,hrd,hd=>by
  simp only [B3k] at h;split at h
  ·rename_i v rx ei ex;split at h
   ·rename_i ls el;split at h
    ·rename_i y mv1 eg;split at h
     ·rename_i ys' mvs rds' er;injection h with h;injection h with h1 h;injection h with h2 h3
      subst h1;subst h2;subst h3;simp only [mvR,A74] at hrd;have hrdA:=Reads.app.1 hrd;have hrdB:=Reads.app.1 hrdA.1;have hrdC:=Reads.app.1 hrdA.2;obtain ⟨vs,e1,e2,e3,e4⟩:=B7u hr hk p0 er (Reads.app.2 ⟨hrdB.2,hrdC.2⟩) (fun v hv=>hd v (D4 _ hv));obtain ⟨cs,hcs,hl⟩:=B3i el (E0 ex hr hrdB.1);obtain ⟨c0,c1,hcc,ho,hrest⟩:=B9f hr hk p0 eg hrdC.1 hl (fun v hv=>hd v (E4 _ hv));have hc1:c1 = []:=by cases c1 with
       | nil=>rfl
       | cons _ _=>exact hrest.elim
      subst hc1;rw [F8] at hcc;subst hcc;have hcl:(a.eval x).cells.toList=cs:=by rw [hcs]
      refine ⟨a.eval x::vs,?_,by simp [e2],fun u hu=>?_,?_⟩
      ·rw [G4,e1,List.zipIdx_cons,G4,A3 ei]
      ·rcases B8.1 hu with rfl | hu
       ·rw [hcs];simpa using ho.len
       ·exact e3 u hu
      ·rw [List.flatMap_cons,hcl];exact ⟨cs,_,rfl,ho,e4⟩
     ·cases h
    ·cases h
   ·cases h
  ·cases h
def D65(s:St)(x:Operand):Bool:=match M5 s x with
 | some (.one (.ro _ _ _),_)=>true
 | _=>false
def C73(s:St)(k:K)(ps:List (Nat×Operand)):K:=match k with
 | .sl e k0=>match ps.any fun p=>D65 s p.2 with
  | true=>.rs e k0
  | false=>.sl e k0
 | k=>k
theorem D3s(s:St)(k:K)(ps:List (Nat×Operand)):(C73 s k ps).sz=k.sz:=by
 unfold C73;split
 ·split<;>rfl
 ·rfl
def D5S{R:Type}(cfg:Cfg)(s:St)(d t len:Nat)(parts:Array (Nat×Operand))(U:Ke R):Option R:=
 match cfg.el t with
 | some e=>match cfg.ty e with
  | some ti=>match B3k s (C73 s ti.k parts.toList) parts.toList 0 with
   | some (ys,mv,rds)=>match nodupB (mv.map (·.1)),Nat.beq ys.length len,Nat.ble (len*(C73 s ti.k parts.toList).sz) 16777216 with
    | true,true,true=>U ⟨rds++mvR mv,(.t d,some (.t (.one (.own d))))::(.r d,some (.r ⟨e,C73 s ti.k parts.toList,ys,0⟩))::(mv.map (·.1)).map (fun i=>(Loc.r i,(none:Option LV))),[.r d]⟩
    | _,_,_=>none
   | none=>none
  | none=>none
 | none=>none
theorem D3t{R:Type}{P:Program}{cfg:Cfg}(hc:L3 P cfg){s:St}{d t len:Nat}{parts:Array (Nat×Operand)}{U:Ke R}{r:R}(h:D5S cfg s d t len parts U=some r):OutE P s (.buildSlice t len parts) d U r:=by
 unfold D5S at h;split at h
 ·rename_i e et;split at h
  ·rename_i ti eti;split at h
   ·rename_i ys mv rds el;split at h
    ·rename_i hnd hlen hsm;have hlen:=A3 hlen;have hsm:=D7 hsm;have hkk:(C73 s ti.k parts.toList).sz=ti.k.sz:=D3s s ti.k parts.toList;generalize C73 s ti.k parts.toList=kk at *
     refine ⟨_,h,B72 el,fun n o ho hdst hd w0 Z0 s' a m hr hrd hnew next Q hn=>?_⟩
     obtain ⟨f,z,hi,hs,hb,hz,hzc,_⟩:=hc.info eti;have hzs:z.cells.size=kk.sz:=by rw [hkk,<- D6,hzc,C09]
     have hs:f.size=kk.sz:=hs.trans hkk.symm;have hdo:=C0C (w:=m.w) (Z:=m.Z) (p0:= [2*d]) hnd;have hw:∀ (oo:Obj) (b:Nat),b<m.w.heap.size->(m.w.alloc oo).heap[b]? = m.w.heap[b]?/\upd (M3 (B9J [2*d] mv) m.Z) m.w.heap.size (some [2*d]) b=M3 (B9J [2*d] mv) m.Z b:=
      fun oo b hb=>⟨alloc_old _ _ _ hb,upd_ne _ (by omega) _⟩
     have hkeep:∀ oo,Keeps m.w (m.w.alloc oo) m.Z (upd (M3 (B9J [2*d] mv) m.Z) m.w.heap.size (some [2*d])):=
      fun oo b hb hlt=>⟨(hw oo b hlt).1,(hw oo b hlt).2.trans (R9 m.w _ _ b hb hlt).2⟩
     have hex:∃ vs:List Value,(parts.toList.map fun p=>(p.1,a.eval p.2))=(vs.zipIdx 0).map (fun x=>(x.2,x.1))/\vs.length=ys.length/\(∀ v∈vs,v.cells.size=kk.sz)/\
       ∀ oo,OwEls kk (m.w.alloc oo) (upd (M3 (B9J [2*d] mv) m.Z) m.w.heap.size (some [2*d])) [2*d] 0 ys (vs.flatMap fun v=>v.cells.toList):=by
      obtain ⟨vs,e1,e2,e3,_⟩:=B7u hr (hkeep (.cells #[] 0)) [2*d] el hrd (hdo.then (hw (.cells #[] 0)));refine ⟨vs,e1,e2,e3,fun oo=>?_⟩;obtain ⟨vs',e1',e2',e3',e4'⟩:=B7u hr (hkeep oo) [2*d] el hrd (hdo.then (hw oo));have:vs' = vs:=by
       have h1:=T5 (List.map Prod.snd) (e1'.symm.trans e1);simpa [List.map_map,Function.comp_def] using h1
      exact this▸e4'
     obtain ⟨vs,e1,e2,e3,e4⟩:=hex;have hrun:(execOp a.eval o).run P m.w=.ok (.value (.slice (some ⟨m.w.heap.size,0,none⟩) len len)) (m.w.alloc (.cells (vs.flatMap fun v=>v.cells.toList).toArray e)):=by
      by_cases hz0:len=0
      ·have hys:ys = []:=F3 (by omega);have hvs:vs = []:=F3 (by rw [e2,hys];rfl);subst hvs;have hp:parts=#[]:=by
        have:parts.toList.map (fun p=>(p.1,a.eval p.2)) = []:=e1;have:=List.map_eq_nil_iff.1 this;exact Array.toList_eq_nil_iff.1 this
       subst hz0;simp [execOp,ho,C3,Instr.buildSlice,V1 (hc.el et),A6O hi,hp,Instr.fill,newRow,Array.range_zero']
      ·have hpos:0<kk.sz:=kk.sz_pos;have hf:=Great.fill_whole hpos vs ((Array.range (len*kk.sz)).map (z.cells[· % z.cells.size]!)) e3 (by simp [e2,hlen]);have hparts:(parts.map fun (i,x)=>(i,a.eval x)).toList=(vs.zipIdx 0).map (fun x=>(x.2,x.1)):=by
        rw [<- e1];simp
       have:=run_buildSlice (P:=P) m.w t e len (parts.map fun (i,x)=>(i,a.eval x)) _ f z (hc.el et) hi hz (by rw [hs];omega) (by rw [hs];exact Nat.ne_of_gt (B9H (by omega) hpos)) (by rw [hs,hparts];exact hf);simp [execOp,ho,C3,this]
     have h1:=hr.drop (B9J [2*d] mv);rw [C0A] at h1;have hnl:¬ Live ((mv.map (·.1)).map (fun i=>(Loc.r i,(none:Option LV)))++s') (.r d):=by
      rintro ⟨l',lv,hg,hm⟩;refine hnew (.r d) A5 ⟨l',lv,?_,hm⟩;by_cases hh:∃ i∈mv.map (·.1),l' = .r i
      ·obtain ⟨i,hi',rfl⟩:=hh;rw [A5m hi'] at hg;cases hg
      ·rw [B0e fun i hi' e=>hh ⟨i,hi',e⟩] at hg;exact hg
     have h2:=h1.newRow (d:=d) hd hnl (row:=⟨e,kk,ys,0⟩) (o:=.cells (vs.flatMap fun v=>v.cells.toList).toArray e) (v:=.slice (some ⟨m.w.heap.size,0,none⟩) len len) (by
      have hE:=e4 (.cells (vs.flatMap fun v=>v.cells.toList).toArray e);have hl:=hE.len;refine ⟨vs.flatMap fun v=>v.cells.toList,?_,fun g hg=>?_,fun j hj=>?_⟩
      ·have:=A9A (A4s (e:=e) (size:=kk.sz) m.w (vs.flatMap fun v=>v.cells.toList).toArray len (H3 _) (by simp only [maxLen];have:=B1C len kk.sz_pos;omega) (by simp only [G1];rw [hl,hlen]));rw [<- hlen] at this ⊢;exact this
      ·simp only [Value.ownBlock] at hg;injection hg with hg;subst hg
       simp [upd_same]
      ·have:=hE.get j hj;rw [E1] at this;exact this)
     have h3:=h2.put (v:=.one (.own d)) (x:=.slice (some ⟨m.w.heap.size,0,none⟩) len len) hd ⟨rfl,fun r _=>by simp [upd_same]⟩;simp only [Oper.wp,hrun,Oper.upon,hdst];exact hn _ _ h3
    ·cases h
   ·cases h
  ·cases h
 ·cases h
end Go.Proofs.YthnfghmjipikhaaGreatDoor.Ev
