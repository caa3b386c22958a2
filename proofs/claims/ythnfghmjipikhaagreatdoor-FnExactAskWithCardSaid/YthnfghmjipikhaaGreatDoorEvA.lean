/- Kinds of data, what a state of the evaluator says of a machine, and the operations on numbers, rows and variables. -/
import Derived.Test.YthnfghmjipikhaaGreatDoorEvO
import Derived.Laws.AppendOwn
import Derived.Laws.AppendOwnNone
import Derived.Laws.OwnMore
import Derived.Laws.MakeOwn
import Derived.Laws.BytesArg
import Derived.Laws.Rows
import Derived.KernelRfl
import Derived.Lib.LaidTab
import Derived.Lib.ItoaNum
import Derived.Lib.Split
import Derived.Lib.Atoi
import Derived.Lib.Strings
import Derived.Test.YthnfghmjipikhaaGreatDoorProg
import Derived.WalkKit
import Derived.Laws.StructEq
import Derived.RangeFuncSeq
import Derived.RangeFuncCalls
import Derived.Great.BuildSlice
set_option linter.unusedVariables false
set_option linter.unusedSimpArgs false
set_option linter.defProp false
namespace Go.Proofs.YthnfghmjipikhaaGreatDoor.Ev
open IntKind (i64 u8 u64 u32)
def B0d:=@run_eqGuard_agg
def B1p:=@run_eql_struct
def B1q:=@run_neq_struct
def B2V:=@ByteArray.toList_eq
def B1r:=@run_sliceBound
def B3R:=@wpOps_cons
def I3:=@World.putObj_heap_other
def B0R:=@callsIn_wide
def A4e:=@wpIn_mono
def A1N:=@World.alloc_heap_new
def B2W:=@callsIn_of_wp_marks
def B1u:=@run_storeCells_cells
def A9M:=@World.cell?_setCells_in
def A08:=@World.cell?_setCells_out
def A3w:=@World.frozen?_setCells
def B0S:=@World.cell?_alloc_past
inductive K where
 | int (k:IntKind)
 | bool
 | fnc (f:Nat)
 | str
 | sl (e:Nat) (k:K)
 | rs (e:Nat) (k:K)
 | pa (n:Nat) (k:K)
 | pair (a b:K)
 deriving DecidableEq
@[reducible] def K.T:K->Type
 | .int _=>Int
 | .bool=>Bool
 | .fnc _=>Unit
 | .str=>ByteArray
 | .sl _ k=>List k.T
 | .rs _ k=>List k.T
 | .pa _ k=>List k.T
 | .pair a b=>a.T×b.T
def K.sz:K->Nat
 | .pair a b=>a.sz+b.sz
 | _=>1
theorem K.sz_pos:∀ k:K,0<k.sz
 | .int _=>T7
 | .bool=>T7
 | .fnc _=>T7
 | .str=>T7
 | .sl _ _=>T7
 | .rs _ _=>T7
 | .pa _ _=>T7
 | .pair a b=>by have:=K.sz_pos a;simp only [K.sz];omega
def fV(f:Nat):Value:=match Nat.beq f 999999999 with
 | true=>.nilIface
 | false=>.func (.func f) #[] #[]
theorem C9v{f:Nat}(h:Nat.beq f 999999999=false):fV f=.func (.func f) #[] #[]:=by unfold fV;rw [h]
theorem B9b(f:Nat):(fV f).oneCell' = true:=by unfold fV;split<;>rfl
abbrev H9:=List Nat
abbrev Col:=Nat->Option H9
def RoL{α:Type}(R:α->List Value->Prop)(sz:Nat)(w:World)(Z:Col)(xs:List α)(cs:List Value):Prop:=
 ∃ A c,cs = [.slice A xs.length c]/\xs.length<=c/\c<=maxLen/\
  (0<xs.length->∃ ad:Addr,A=some ad/\Z ad.block=none/\
   ∀ i (h:i<xs.length),∃ ds,ds.length=sz/\R xs[i] ds/\∀ j u,ds[j]? = some u->w.cell? (ad.add (i*sz+j))=some u)
def RoP{α:Type}(R:α->List Value->Prop)(n sz:Nat)(w:World)(Z:Col)(xs:List α)(cs:List Value):Prop:=
 (cs = [.pointer none]/\xs = [])\/∃ ad:Addr,cs = [.pointer (some ad)]/\xs.length=n/\Z ad.block=none/\ad.block<w.heap.size/\
   ∀ i (h:i<xs.length),∃ ds,ds.length=sz/\R xs[i] ds/\∀ j u,ds[j]? = some u->w.cell? (ad.add (i*sz+j))=some u
def Ro:(k:K)->World->Col->k.T->List Value->Prop
 | .int U,_,_,n,cs=>cs = [.int U n]
 | .bool,_,_,b,cs=>cs = [.bool b]
 | .fnc f,_,_,_,cs=>cs = [fV f]
 | .str,_,_,s,cs=>cs = [.string s]
 | .sl _ k,w,Z,xs,cs=>RoL (Ro k w Z) k.sz w Z xs cs
 | .rs _ k,w,Z,xs,cs=>RoL (Ro k w Z) k.sz w Z xs cs
 | .pa n k,w,Z,xs,cs=>RoP (Ro k w Z) n k.sz w Z xs cs
 | .pair a b,w,Z,x,cs=>∃ c0 c1,cs=c0++c1/\Ro a w Z x.1 c0/\Ro b w Z x.2 c1
def OwL{α:Type}(R:H9->α->List Value->Prop)(e sz:Nat)(w:World)(Z:Col)(p:H9)(xs:List α)(v:Value):Prop:=
 ∃ inner,owns w 0 e sz v xs.length inner/\(∀ g,v.ownBlock=some g->Z g=some p)/\
  ∀ i (h:i<xs.length),R (p ++ [i]) xs[i] ((inner.drop (i*sz)).take sz)
def Ow:(k:K)->World->Col->H9->k.T->List Value->Prop
 | .int U,_,_,_,n,cs=>cs = [.int U n]
 | .bool,_,_,_,b,cs=>cs = [.bool b]
 | .fnc f,_,_,_,_,cs=>cs = [fV f]
 | .str,_,_,_,s,cs=>cs = [.string s]
 | .sl e k,w,Z,p,xs,cs=>∃ v,cs = [v]/\OwL (Ow k w Z) e k.sz w Z p xs v
 | .rs _ k,w,Z,_,xs,cs=>RoL (Ro k w Z) k.sz w Z xs cs
 | .pa n k,w,Z,_,xs,cs=>RoP (Ro k w Z) n k.sz w Z xs cs
 | .pair a b,w,Z,p,x,cs=>∃ c0 c1,cs=c0++c1/\Ow a w Z (p ++ [0]) x.1 c0/\Ow b w Z (p ++ [1]) x.2 c1
theorem Ro.len:∀ {k:K} {w Z x cs},Ro k w Z x cs->cs.length=k.sz
 | .int _,_,_,_,_,h=>by simp only [Ro] at h;subst h;rfl
 | .bool,_,_,_,_,h=>by simp only [Ro] at h;subst h;rfl
 | .fnc _,_,_,_,_,h=>by simp only [Ro] at h;subst h;rfl
 | .str,_,_,_,_,h=>by simp only [Ro] at h;subst h;rfl
 | .sl _ _,_,_,_,_,h=>by obtain ⟨A,c,rfl,_⟩:=h;rfl
 | .rs _ _,_,_,_,_,h=>by obtain ⟨A,c,rfl,_⟩:=h;rfl
 | .pa _ _,_,_,_,_,h=>by rcases h with ⟨rfl,_⟩ | ⟨A,rfl,_⟩<;>rfl
 | .pair a b,_,_,_,_,h=>by
  obtain ⟨c0,c1,rfl,h0,h1⟩:=h;rw [A3,Ro.len h0,Ro.len h1];rfl
theorem Ow.len:∀ {k:K} {w Z p x cs},Ow k w Z p x cs->cs.length=k.sz
 | .int _,_,_,_,_,_,h=>by simp only [Ow] at h;subst h;rfl
 | .bool,_,_,_,_,_,h=>by simp only [Ow] at h;subst h;rfl
 | .fnc _,_,_,_,_,_,h=>by simp only [Ow] at h;subst h;rfl
 | .str,_,_,_,_,_,h=>by simp only [Ow] at h;subst h;rfl
 | .sl _ _,_,_,_,_,_,h=>by obtain ⟨v,rfl,_⟩:=h;rfl
 | .rs _ _,_,_,_,_,_,h=>by obtain ⟨A,c,rfl,_⟩:=h;rfl
 | .pa _ _,_,_,_,_,_,h=>by rcases h with ⟨rfl,_⟩ | ⟨A,rfl,_⟩<;>rfl
 | .pair a b,_,_,_,_,_,h=>by
  obtain ⟨c0,c1,rfl,h0,h1⟩:=h;rw [A3,Ow.len h0,Ow.len h1];rfl
theorem A5I{w:World}{b e s n:Nat}{v:Value}{xs:List Value}(h:owns w b e s v n xs):v.oneCell' = true:=by
 rcases h.2 with ⟨rfl,_⟩ | ⟨g,cap,cur,fz,rfl,_⟩<;>rfl
theorem Ro.one:∀ {k:K} {w Z x cs},Ro k w Z x cs->∀ u∈cs,u.oneCell' = true
 | .int _,_,_,_,_,h=>by simp only [Ro] at h;subst h;intro u hu;rw [A6.1 hu];rfl
 | .bool,_,_,_,_,h=>by simp only [Ro] at h;subst h;intro u hu;rw [A6.1 hu];rfl
 | .fnc f,_,_,_,_,h=>by simp only [Ro] at h;subst h;intro u hu;rw [A6.1 hu];exact B9b f
 | .str,_,_,_,_,h=>by simp only [Ro] at h;subst h;intro u hu;rw [A6.1 hu];rfl
 | .sl _ _,_,_,_,_,h=>by obtain ⟨A,c,rfl,_⟩:=h;intro u hu;rw [A6.1 hu];rfl
 | .rs _ _,_,_,_,_,h=>by obtain ⟨A,c,rfl,_⟩:=h;intro u hu;rw [A6.1 hu];rfl
 | .pa _ _,_,_,_,_,h=>by rcases h with ⟨rfl,_⟩ | ⟨A,rfl,_⟩<;>(intro u hu;rw [A6.1 hu];rfl)
 | .pair a b,_,_,_,_,h=>by
  obtain ⟨c0,c1,rfl,h0,h1⟩:=h;intro u hu;rcases C9.1 hu with hu | hu
  ·exact Ro.one h0 u hu
  ·exact Ro.one h1 u hu
theorem Ow.one:∀ {k:K} {w Z p x cs},Ow k w Z p x cs->∀ u∈cs,u.oneCell' = true
 | .int _,_,_,_,_,_,h=>by simp only [Ow] at h;subst h;intro u hu;rw [A6.1 hu];rfl
 | .bool,_,_,_,_,_,h=>by simp only [Ow] at h;subst h;intro u hu;rw [A6.1 hu];rfl
 | .fnc f,_,_,_,_,_,h=>by simp only [Ow] at h;subst h;intro u hu;rw [A6.1 hu];exact B9b f
 | .str,_,_,_,_,_,h=>by simp only [Ow] at h;subst h;intro u hu;rw [A6.1 hu];rfl
 | .sl _ _,_,_,_,_,_,h=>by
  obtain ⟨v,rfl,inner,ho,_⟩:=h;intro u hu;rw [A6.1 hu];exact A5I ho
 | .rs _ _,_,_,_,_,_,h=>by obtain ⟨A,c,rfl,_⟩:=h;intro u hu;rw [A6.1 hu];rfl
 | .pa _ _,_,_,_,_,_,h=>by rcases h with ⟨rfl,_⟩ | ⟨A,rfl,_⟩<;>(intro u hu;rw [A6.1 hu];rfl)
 | .pair a b,_,_,_,_,_,h=>by
  obtain ⟨c0,c1,rfl,h0,h1⟩:=h;intro u hu;rcases C9.1 hu with hu | hu
  ·exact Ow.one h0 u hu
  ·exact Ow.one h1 u hu
def Keeps(w w':World)(Z Z':Col):Prop:=∀ b,Z b=none->b<w.heap.size->w'.heap[b]? = w.heap[b]?/\Z' b=none
def Fore(w w':World)(Z Z':Col):Prop:=∀ b,Z b=some []->b<w.heap.size->w'.heap[b]? = w.heap[b]?/\Z' b=some []
theorem Fore.refl(w:World)(Z:Col):Fore w w Z Z:=fun _ h _=>⟨rfl,h⟩
theorem Fore.trans{w w1 w2:World}{Z Z1 Z2:Col}(h:Fore w w1 Z Z1)(h1:Fore w1 w2 Z1 Z2)(hs:w.heap.size<=w1.heap.size):Fore w w2 Z Z2:=
 fun b hb hlt=>let ⟨e,c⟩:=h b hb hlt;let ⟨e1,c1⟩:=h1 b c (A73 hlt hs);⟨e1.trans e,c1⟩
theorem Keeps.refl(w:World)(Z:Col):Keeps w w Z Z:=fun _ h _=>⟨rfl,h⟩
theorem Keeps.trans{w w1 w2:World}{Z Z1 Z2:Col}(h:Keeps w w1 Z Z1)(h1:Keeps w1 w2 Z1 Z2)(hs:w.heap.size<=w1.heap.size):Keeps w w2 Z Z2:=
 fun b hb hlt=>let ⟨e,c⟩:=h b hb hlt;let ⟨e1,c1⟩:=h1 b c (A73 hlt hs);⟨e1.trans e,c1⟩
theorem A2t{w w':World}{Z Z':Col}(hk:Keeps w w' Z Z'){a:Addr}{v:Value}(h:w.cell? a=some v)(hZ:Z a.block=none):w'.cell? a=some v:=
 (I6 (hk a.block hZ (J2 w a h)).1).trans h
theorem add_block(a:Addr)(n:Nat):(a.add n).block=a.block:=by unfold Addr.add;split<;>rfl
theorem RoL.keep{α:Type}{R R':α->List Value->Prop}{sz:Nat}{w w':World}{Z Z':Col}{xs:List α}{cs:List Value}
  (h:RoL R sz w Z xs cs) (hsz:0<sz) (hk:Keeps w w' Z Z') (hR:∀ x ds,R x ds->R' x ds):RoL R' sz w' Z' xs cs:=by
 obtain ⟨A,c,rfl,hl,hm,hc⟩:=h;refine ⟨A,c,rfl,hl,hm,fun hn=>?_⟩;obtain ⟨ad,rfl,hZ,hi⟩:=hc hn;refine ⟨ad,rfl,?_,fun i h=>?_⟩
 ·obtain ⟨ds,hd,_,hcell⟩:=hi 0 hn;have h0:0<ds.length:=by omega
  have:=hcell 0 ds[0] (by simp [h0]);have hlt:=J2 w _ this;rw [add_block] at hlt;exact (hk _ hZ hlt).2
 ·obtain ⟨ds,hd,hr,hcell⟩:=hi i h;exact ⟨ds,hd,hR _ _ hr,fun j u hu=>A2t hk (hcell j u hu) (by rw [add_block];exact hZ)⟩
theorem RoP.keep{α:Type}{R R':α->List Value->Prop}{n sz:Nat}{w w':World}{Z Z':Col}{xs:List α}{cs:List Value}
  (h:RoP R n sz w Z xs cs) (hk:Keeps w w' Z Z') (hR:∀ x ds,R x ds->R' x ds):RoP R' n sz w' Z' xs cs:=by
 rcases h with ⟨rfl,rfl⟩ | ⟨ad,rfl,hn,hZ,hlt,hi⟩
 ·exact .inl ⟨rfl,rfl⟩
 have hb:=hk _ hZ hlt;refine .inr ⟨ad,rfl,hn,hb.2,?_,fun i h=>?_⟩
 ·have h1:w'.heap[ad.block]? = some w.heap[ad.block]:=hb.1.trans (H3 hlt);exact (A9.1 h1).1
 ·obtain ⟨ds,hd,hr,hcell⟩:=hi i h;exact ⟨ds,hd,hR _ _ hr,fun j u hu=>A2t hk (hcell j u hu) (by rw [add_block];exact hZ)⟩
theorem Ro.keep:∀ {k:K} {w w':World} {Z Z':Col} {x cs},Ro k w Z x cs->Keeps w w' Z Z'->Ro k w' Z' x cs
 | .int _,_,_,_,_,_,_,h,_=>h
 | .bool,_,_,_,_,_,_,h,_=>h
 | .fnc _,_,_,_,_,_,_,h,_=>h
 | .str,_,_,_,_,_,_,h,_=>h
 | .sl _ k,_,_,_,_,_,_,h,hk=>RoL.keep h k.sz_pos hk fun _ _ hr=>Ro.keep hr hk
 | .rs _ k,_,_,_,_,_,_,h,hk=>RoL.keep h k.sz_pos hk fun _ _ hr=>Ro.keep hr hk
 | .pa _ k,_,_,_,_,_,_,h,hk=>RoP.keep h hk fun _ _ hr=>Ro.keep hr hk
 | .pair _ _,_,_,_,_,_,_,h,hk=>by
  obtain ⟨c0,c1,rfl,h0,h1⟩:=h;exact ⟨c0,c1,rfl,Ro.keep h0 hk,Ro.keep h1 hk⟩
def Moves(w w':World)(Z Z':Col)(p p':H9):Prop:=∀ b q,Z b=some (p++q)->b<w.heap.size->w'.heap[b]? = w.heap[b]?/\Z' b=some (p'++q)
theorem Moves.sub{w w':World}{Z Z':Col}{p p':H9}(h:Moves w w' Z Z' p p')(q:H9):Moves w w' Z Z' (p++q) (p'++q):=by
 intro b r hb hlt;have:=h b (q++r) (by rw [<- A7];exact hb) hlt;rw [<- A7] at this;exact this
theorem A1P{w:World}{b e s n:Nat}{v:Value}{xs:List Value}(h:owns w b e s v n xs){g:Nat}(hg:v.ownBlock=some g):g<w.heap.size:=(C8b h g hg).2
theorem A8k{w w':World}{b e s n:Nat}{v:Value}{xs:List Value}(h:owns w b e s v n xs)(hm:∀ g,v.ownBlock=some g->w'.heap[g]? = w.heap[g]?):owns w' b e s v n xs:=by
 obtain ⟨h1,h2⟩:=h;refine ⟨h1,?_⟩;rcases h2 with h2 | ⟨g,cap,cur,fz,rfl,hg,hh,r⟩
 ·exact .inl h2
 ·exact .inr ⟨g,cap,cur,fz,rfl,hg,(hm g (by simp [Value.ownBlock])).trans hh,r⟩
theorem Ow.move:∀ {k:K} {w w':World} {Z Z':Col} {p p':H9} {x cs},Ow k w Z p x cs->Moves w w' Z Z' p p'->Keeps w w' Z Z'->Ow k w' Z' p' x cs
 | .int _,_,_,_,_,_,_,_,_,h,_,_=>h
 | .bool,_,_,_,_,_,_,_,_,h,_,_=>h
 | .fnc _,_,_,_,_,_,_,_,_,h,_,_=>h
 | .str,_,_,_,_,_,_,_,_,h,_,_=>h
 | .rs _ k,_,_,_,_,_,_,_,_,h,_,hk=>RoL.keep h k.sz_pos hk fun _ _ hr=>Ro.keep hr hk
 | .pa _ k,_,_,_,_,_,_,_,_,h,_,hk=>RoP.keep h hk fun _ _ hr=>Ro.keep hr hk
 | .sl e k,w,w',Z,Z',p,p',xs,cs,h,hm,hk=>by
  obtain ⟨v,rfl,inner,ho,hc,hi⟩:=h;refine ⟨v,rfl,inner,A8k ho fun g hg=>?_,fun g hg=>?_,fun i h=>Ow.move (hi i h) (hm.sub [i]) hk⟩
  ·exact (hm g [] (by rw [F4];exact hc g hg) (A1P ho hg)).1
  ·have:=(hm g [] (by rw [F4];exact hc g hg) (A1P ho hg)).2
   rwa [F4] at this
 | .pair _ _,_,_,_,_,_,_,_,_,h,hm,hk=>by
  obtain ⟨c0,c1,rfl,h0,h1⟩:=h;exact ⟨c0,c1,rfl,Ow.move h0 (hm.sub [0]) hk,Ow.move h1 (hm.sub [1]) hk⟩
def Frees(w w':World)(Z Z':Col)(p:H9):Prop:=∀ b q,Z b=some (p++q)->b<w.heap.size->w'.heap[b]? = w.heap[b]?/\Z' b=none
theorem Frees.sub{w w':World}{Z Z':Col}{p:H9}(h:Frees w w' Z Z' p)(q:H9):Frees w w' Z Z' (p++q):=
 fun b r hb hlt=>h b (q++r) (by rw [<- A7];exact hb) hlt
theorem Ow.free:∀ {k:K} {w w':World} {Z Z':Col} {p:H9} {x cs},Ow k w Z p x cs->Frees w w' Z Z' p->Keeps w w' Z Z'->Ro k w' Z' x cs
 | .int _,_,_,_,_,_,_,_,h,_,_=>h
 | .bool,_,_,_,_,_,_,_,h,_,_=>h
 | .fnc _,_,_,_,_,_,_,_,h,_,_=>h
 | .str,_,_,_,_,_,_,_,h,_,_=>h
 | .rs _ k,_,_,_,_,_,_,_,h,_,hk=>RoL.keep h k.sz_pos hk fun _ _ hr=>Ro.keep hr hk
 | .pa _ k,_,_,_,_,_,_,_,h,_,hk=>RoP.keep h hk fun _ _ hr=>Ro.keep hr hk
 | .sl e k,w,w',Z,Z',p,xs,cs,h,hm,hk=>by
  obtain ⟨v,rfl,inner,ho,hc,hi⟩:=h;have hl:=ho.1;rcases ho.2 with ⟨rfl,hn⟩ | ⟨g,cap,cur,fz,rfl,_,hg,hfz,hn,hcap,hs,ht⟩
  ·exact ⟨none,0,by rw [hn],by rw [hn];exact C6 _,G6 _,fun h=>by omega⟩
  ·have hlt:g<w.heap.size:=A1P ho rfl;have hgb:=hm g [] (by rw [F4];exact hc g rfl) hlt;refine ⟨some ⟨g,0,none⟩,cap,rfl,hn,hcap,fun _=>⟨⟨g,0,none⟩,rfl,hgb.2,fun i h=>?_⟩⟩;have hik:=hi i h;refine ⟨_,Ow.len hik,Ow.free hik (hm.sub [i]) hk,fun j u hu=>?_⟩;have hsz:=k.sz_pos;have hj:j<k.sz:=by
    have:=(C3.1 hu).1;rw [Ow.len hik] at this;exact this
   have e1:inner[i*k.sz+j]? = some u:=by
    rw [F8 hj,F3] at hu;exact hu
   have e2:w.cell? ((⟨g,0,none⟩:Addr).add (i*k.sz+j))=some u:=S3 ho rfl _ _ e1;refine (I6 (a:=(⟨g,0,none⟩:Addr).add (i*k.sz+j)) ?_).trans e2;rw [add_block];exact hgb.1
 | .pair _ _,_,_,_,_,_,_,_,h,hm,hk=>by
  obtain ⟨c0,c1,rfl,h0,h1⟩:=h;exact ⟨c0,c1,rfl,Ow.free h0 (hm.sub [0]) hk,Ow.free h1 (hm.sub [1]) hk⟩
noncomputable def D0H:String:=(Tryz.prog.globals[0]?).elim "x" (fun g=>g.name)
def GI(w:World)(Z:Col):Prop:=(∃ m:Int,w.cell? ⟨1,0,none⟩=some (.int .i64 m))/\Z 1=none/\Lib.TabIs Tryz.prog w D0H .u64 Lib.pow10Tab/\Z 0=none
theorem tabN_at:Tryz.prog.globalNamed D0H=some 0:=by kernel_rfl
theorem GI.keep{w w':World}{Z Z':Col}(h:GI w Z)(hk:Keeps w w' Z Z'):GI w' Z':=by
 obtain ⟨⟨m,hm⟩,h1,ht,h0⟩:=h;have l1:1<w.heap.size:=J2 w _ hm;have k1:=hk 1 h1 l1;have k0:=hk 0 h0 (by omega);refine ⟨⟨m,A2t hk hm h1⟩,k1.2,?_,k0.2⟩;unfold Lib.TabIs World.var? at ht ⊢;rw [tabN_at] at ht ⊢;simp only [A9I] at ht ⊢;rw [k0.1];exact ht
def A4h(s sep:ByteArray):Option (List ByteArray×Unit):=bif decide (s.size<4294967281)&&decide (1<=sep.size) then some (Lib.splitB sep 0 (Lib.countB s sep) s,()) else none
def B6P(s sep:ByteArray):Option (ByteArray×ByteArray×Bool×Unit):=bif decide (s.size<4294967281) then some (⟨(Lib.cut s.data.toList sep.data.toList).1.toArray⟩,⟨(Lib.cut s.data.toList sep.data.toList).2.1.toArray⟩,(Lib.cut s.data.toList sep.data.toList).2.2,()) else none
def B6Q(n:Int):Option (ByteArray×Unit):=bif decide (-9223372036854775808<=n)&&decide (n<=9223372036854775807) then some (⟨(Lib.itoa n).toArray⟩,()) else none
def A9O(s:ByteArray):Option (Int×Unit×Unit):=bif decide (s.size<=18) then (match Lib.atoi s.data.toList with | some n=>some (n,(),()) | none=>none) else none
def B4R{α:Type}(xs:List α)(n:Int):Option (List α×Unit):=bif xs.isEmpty&&decide (0<=n)&&decide (n<=1000000000000) then some ([],()) else none
inductive Lf where
 | int (k:IntKind) (n:Int)
 | bool (b:Bool)
 | str (s:ByteArray)
 | nil
 | ro (e:Nat) (k:K) (xs:List k.T)
 | own (id:Nat)
 | vw (id:Nat) (lo hi:Nat)
 | sub (id q off ver:Nat)
 | ptr (b off:Nat)
 | ept (id q off:Nat)
 | rpt (k:K) (x:k.T) (off:Nat)
 | rpa (n:Nat) (k:K) (xs:List k.T)
 | apt (n id:Nat)
 | fn (f:Nat)
 | anyb
 | any
 | nilp
 | clo (f b off:Nat)
 | chk (f e:Nat) (k:K) (xs:List k.T) (n:Int)
 | ext (id q off ver:Nat) (p:List Nat) (e:Nat) (k:K) (zs:List k.T)
 | mp (es:List ((Int×Int)×Int))
 | mpb (b:Nat)
inductive AV where
 | one (v:Lf)
 | agg (vs:List Lf)
 | tup (vs:List (Bool×List Lf))
 | und
structure Row where
 e:Nat
 k:K
 xs:List k.T
 ver:Nat
inductive LV where
 | t (v:AV)
 | r (row:Row)
 | b (cells:List Lf)
 | x (i:Int)
inductive Loc where
 | t (n:Nat)
 | r (n:Nat)
 | b (n:Nat)
 | x (n:Nat)
 deriving DecidableEq
def Loc.eqb:Loc->Loc->Bool
 | .t i,.t j=>Nat.beq i j
 | .r i,.r j=>Nat.beq i j
 | .b i,.b j=>Nat.beq i j
 | .x i,.x j=>Nat.beq i j
 | _,_=>false
theorem Loc.eqb_iff{a b:Loc}:a.eqb b=true↔a=b:=by
 cases a<;>cases b<;>simp [Loc.eqb,Nat.beq_eq]
theorem Loc.eqb_false{a b:Loc}:a.eqb b=false↔a≠b:=by
 rw [Ne,<- Loc.eqb_iff];simp
abbrev St:=List (Loc×Option LV)
def St.get:St->Loc->Option LV
 | [],_=>none
 | (l,v)::s,m=>match l.eqb m with
  | true=>v
  | false=>St.get s m
theorem St.get_cons_same(l:Loc)(v:Option LV)(s:St):St.get ((l,v)::s) l=v:=by
 simp only [St.get,Loc.eqb_iff.2 rfl]
theorem St.get_cons_ne{l m:Loc}(h:l≠m)(v:Option LV)(s:St):St.get ((l,v)::s) m=St.get s m:=by
 simp only [St.get,Loc.eqb_false.2 h]
def St.getT(s:St)(d:Nat):Option AV:=match s.get (.t d) with | some (.t v)=>some v | _=>none
def St.getR(s:St)(d:Nat):Option Row:=match s.get (.r d) with | some (.r v)=>some v | _=>none
def St.getB(s:St)(d:Nat):Option (List Lf):=match s.get (.b d) with | some (.b v)=>some v | _=>none
def St.getX(s:St)(d:Nat):Option Int:=match s.get (.x d) with | some (.x v)=>some v | _=>none
theorem St.getT_some{s:St}{d:Nat}{v:AV}:s.getT d=some v↔s.get (.t d)=some (.t v):=by
 unfold St.getT;split
 ·rename_i h;rw [h];simp
 ·rename_i h;simp;intro hh;exact h _ hh
theorem St.getR_some{s:St}{d:Nat}{v:Row}:s.getR d=some v↔s.get (.r d)=some (.r v):=by
 unfold St.getR;split
 ·rename_i h;rw [h];simp
 ·rename_i h;simp;intro hh;exact h _ hh
theorem St.getB_some{s:St}{d:Nat}{v:List Lf}:s.getB d=some v↔s.get (.b d)=some (.b v):=by
 unfold St.getB;split
 ·rename_i h;rw [h];simp
 ·rename_i h;simp;intro hh;exact h _ hh
theorem St.getX_some{s:St}{d:Nat}{v:Int}:s.getX d=some v↔s.get (.x d)=some (.x v):=by
 unfold St.getX;split
 ·rename_i h;rw [h];simp
 ·rename_i h;simp;intro hh;exact h _ hh
structure Plc where
 g:Nat
 t:TypeId
 pre:List Value
 post:List Value
def A0R:Value->Addr
 | .slice (some a) _ _=>a
 | _=>⟨0,0,none⟩
def cutV(size lo hi:Nat):Value->Value
 | .slice a _ cap=>.slice (if cap=lo then a else a.map (·.add (lo*size))) (hi-lo) (cap-lo)
 | v=>v
structure Mem where
 w:World
 Z:Col
 ρ:Nat->Value
 β:Nat->Plc
def C4u(x:(Int×Int)×Int):Value×Value:=(.agg #[.int .i64 x.1.1,.int .i64 x.1.2],.int .i64 x.2)
def MpC(es:List ((Int×Int)×Int))(ents:Array MapEntry):Prop:=ents.toList.map (fun e=>(e.key,e.val))=es.map C4u
def LfC(s:St)(m:Mem):Lf->Value->Prop
 | .mp es,v=>∃ (b:Nat) (ents:Array MapEntry) (cl:Nat),v=.map (some b)/\m.Z b=none/\m.w.heap[b]? = some (.map ents cl)/\MpC es ents
 | .mpb b,v=>v=.map (some b)
 | .int k n,v=>v=.int k n
 | .bool b,v=>v=.bool b
 | .str x,v=>v=.string x
 | .nil,v=>v=.slice none 0 0
 | .ro e k xs,v=>Ro (.rs e k) m.w m.Z xs [v]
 | .own id,v=>v.oneCell' = true/\∀ r,s.get (.r id)=some (.r r)->v=m.ρ id
 | .vw id lo hi,v=>v.oneCell' = true/\∀ r,s.get (.r id)=some (.r r)->lo<=hi/\hi<=r.xs.length/\v=cutV r.k.sz lo hi (m.ρ id)
 | .sub id q off ver,v=>v.oneCell' = true/\∀ r i,s.get (.r id)=some (.r r)->s.get (.x q)=some (.x i)->ver<=r.ver/\(r.ver=ver->
   0<=i/\i.toNat<r.xs.length/\off<r.k.sz/\m.w.cell? ((A0R (m.ρ id)).add (i.toNat*r.k.sz+off))=some v)
 | .ptr b off,v=>v.oneCell' = true/\∀ c,s.get (.b b)=some (.b c)->v=.pointer (some ⟨(m.β b).g,(m.β b).pre.length+off,none⟩)
 | .ept id q off,v=>v.oneCell' = true/\∀ r i,s.get (.r id)=some (.r r)->s.get (.x q)=some (.x i)->
   0<=i/\i.toNat<r.xs.length/\v=.pointer (some ((A0R (m.ρ id)).add (i.toNat*r.k.sz+off)))
 | .rpt k x off,v=>∃ (ad:Addr) (ds:List Value),Ro k m.w m.Z x ds/\m.Z ad.block=none/\(∀ j u,ds[j]? = some u->m.w.cell? (ad.add j)=some u)/\v=.pointer (some (ad.add off))
 | .rpa n k xs,v=>Ro (.pa n k) m.w m.Z xs [v]
 | .apt n id,v=>v.oneCell' = true/\∀ r,s.get (.r id)=some (.r r)->r.xs.length=n/\v=.pointer (some (A0R (m.ρ id)))
 | .fn f,v=>v=fV f
 | .anyb,v=>∃ b,v=.bool b
 | .any,v=>v.oneCell' = true
 | .nilp,v=>v=.pointer none
 | .clo f b off,v=>∃ p,v=.func (.func f) #[] #[p]/\p.oneCell' = true/\∀ c,s.get (.b b)=some (.b c)->p=.pointer (some ⟨(m.β b).g,(m.β b).pre.length+off,none⟩)
 | .chk f e k xs n,v=>∃ (b1 b2:Nat) (v1:Value),v=.func (.func f) #[] #[.pointer (some ⟨b1,0,none⟩),.pointer (some ⟨b2,0,none⟩)]/\m.Z b1=none/\m.Z b2=none/\
   m.w.cell? ⟨b1,0,none⟩=some v1/\m.w.cell? ⟨b2,0,none⟩=some (.int .i64 n)/\Ro (.rs e k) m.w m.Z xs [v1]
 | .ext id q _ ver p e k zs,v=>v.oneCell' = true/\∀ r i,s.get (.r id)=some (.r r)->s.get (.x q)=some (.x i)->ver<=r.ver/\(r.ver=ver->
   0<=i/\i.toNat<r.xs.length/\OwL (Ow k m.w m.Z) e k.sz m.w m.Z ([2*id]++(i.toNat::p)) zs v)
def All2{α β:Type}(R:α->β->Prop):List α->List β->Prop
 | [],[]=>True
 | a::aas,b::bs=>R a b/\All2 R aas bs
 | _,_=>False
theorem All2.len{α β:Type}{R:α->β->Prop}:∀ {aas:List α} {bs:List β},All2 R aas bs->aas.length=bs.length
 | [],[],_=>rfl
 | _::_,_::_,h=>by simp only [G9,All2.len h.2]
theorem All2.imp{α β:Type}{R R':α->β->Prop}:∀ {aas:List α} {bs:List β},(∀ a∈aas,∀ b,R a b->R' a b)->All2 R aas bs->All2 R' aas bs
 | [],[],_,_=>trivial
 | a::aas,b::bs,hi,h=>⟨hi a A5 b h.1,All2.imp (fun a ha b=>hi a (B5 _ ha) b) h.2⟩
theorem All2.get{α β:Type}{R:α->β->Prop}:∀ {aas:List α} {bs:List β} {i:Nat} {a:α},All2 R aas bs->aas[i]? = some a->∃ b,bs[i]? = some b/\R a b
 | a::aas,b::bs,0,x,h,hi=>by simp at hi;subst hi;exact ⟨b,rfl,h.1⟩
 | a::aas,b::bs,i+1,x,h,hi=>by simp at hi;simpa using All2.get h.2 hi
theorem All2.app{α β:Type}{R:α->β->Prop}:∀ {aas:List α} {bs:List β} {cs:List α} {ds:List β},All2 R aas bs->All2 R cs ds->All2 R (aas++cs) (bs++ds)
 | [],[],_,_,_,h=>h
 | _::_,_::_,_,_,h,h'=>⟨h.1,All2.app h.2 h'⟩
theorem All2.take{α β:Type}{R:α->β->Prop}:∀ {aas:List α} {bs:List β} (n:Nat),All2 R aas bs->All2 R (aas.take n) (bs.take n)
 | _,_,0,_=>by simp [All2]
 | [],[],_+1,_=>by simp [All2]
 | _::_,_::_,n+1,h=>⟨h.1,All2.take n h.2⟩
theorem All2.drop{α β:Type}{R:α->β->Prop}:∀ {aas:List α} {bs:List β} (n:Nat),All2 R aas bs->All2 R (aas.drop n) (bs.drop n)
 | _,_,0,h=>h
 | [],[],_+1,_=>by simp [All2]
 | _::_,_::_,n+1,h=>All2.drop n h.2
def C6F(s:St)(m:Mem)(p:Bool×List Lf)(v:Value):Prop:=
 match p.1 with
 | true=>∃ cs:List Value,v=.agg cs.toArray/\All2 (LfC s m) p.2 cs
 | false=>∃ l,p.2 = [l]/\LfC s m l v
def AVC(s:St)(m:Mem):AV->Value->Prop
 | .one l,v=>LfC s m l v
 | .agg ls,v=>∃ cs:List Value,v=.agg cs.toArray/\All2 (LfC s m) ls cs
 | .tup ps,v=>∃ vs:List Value,v=.tuple vs.toArray/\All2 (C6F s m) ps vs
 | .und,v=>v=undef
def Lf.men:Lf->List Loc
 | .own id=> [.r id]
 | .apt _ id=> [.r id]
 | .vw id _ _=> [.r id]
 | .sub id q _ _=> [.r id,.x q]
 | .ptr b _=> [.b b]
 | .clo _ b _=> [.b b]
 | .ept id q _=> [.r id,.x q]
 | .ext id q _ _ _ _ _ _=> [.r id,.x q]
 | _=> []
def AV.men:AV->List Loc
 | .one l=>l.men
 | .agg ls=>ls.flatMap Lf.men
 | .tup ps=>ps.flatMap fun p=>p.2.flatMap Lf.men
 | .und=> []
def LV.men:LV->List Loc
 | .t v=>v.men
 | .b c=>c.flatMap Lf.men
 | _=> []
theorem Moves.refl(w:World)(Z:Col)(p:H9):Moves w w Z Z p p:=fun b q hb _=>⟨rfl,hb⟩
structure Ext (s:St) (m:Mem) (s':St) (m':Mem) (L:Loc->Prop):Prop where
 keep:Keeps m.w m'.w m.Z m'.Z
 row:∀ id r',L (.r id)->s'.get (.r id)=some (.r r')->∃ r,s.get (.r id)=some (.r r)/\m'.ρ id=m.ρ id/\r'.k.sz=r.k.sz/\r'.xs.length=r.xs.length/\r.ver<=r'.ver/\
  (r'.ver=r.ver->0<r.xs.length->∀ j v,m.w.cell? ((A0R (m.ρ id)).add j)=some v->m'.w.cell? ((A0R (m.ρ id)).add j)=some v)/\
  (r'.ver=r.ver->Moves m.w m'.w m.Z m'.Z [2*id] [2*id])
 box:∀ b c',L (.b b)->s'.get (.b b)=some (.b c')->∃ c,s.get (.b b)=some (.b c)/\m'.β b=m.β b
 ix:∀ q i,L (.x q)->s'.get (.x q)=some (.x i)->s.get (.x q)=some (.x i)
theorem Ext.sub{s:St}{m:Mem}{s':St}{m':Mem}{L L':Loc->Prop}(h:Ext s m s' m' L)(hl:∀ l,L' l->L l):Ext s m s' m' L':=
 ⟨h.keep,fun id r' hL=>h.row id r' (hl _ hL),fun b c' hL=>h.box b c' (hl _ hL),fun q i hL=>h.ix q i (hl _ hL)⟩
theorem LfC.ext{s:St}{m:Mem}{s':St}{m':Mem}{l:Lf}{v:Value}(h:LfC s m l v)(hx:Ext s m s' m' (·∈l.men)):LfC s' m' l v:=by
 cases l with
 | int k n=>exact h
 | bool b=>exact h
 | str x=>exact h
 | nil=>exact h
 | fn f=>exact h
 | anyb=>exact h
 | any=>exact h
 | nilp=>exact h
 | mpb b=>exact h
 | mp es=>
  obtain ⟨b,ents,cl,e,h1,h2,h3⟩:=h;have h4:=hx.keep b h1 (A9.1 h2).1;exact ⟨b,ents,cl,e,h4.2,h4.1.trans h2,h3⟩
 | chk f e k xs n=>
  obtain ⟨b1,b2,v1,e1,g1,g2,c1,c2,hr⟩:=h;have l1:=J2 m.w _ c1;have l2:=J2 m.w _ c2;exact ⟨b1,b2,v1,e1,(hx.keep _ g1 l1).2,(hx.keep _ g2 l2).2,A2t hx.keep c1 g1,A2t hx.keep c2 g2,Ro.keep (k:=.rs e k) hr hx.keep⟩
 | ext id q off ver p e k zs=>
  refine ⟨h.1,fun r' i hr' hi'=>?_⟩;obtain ⟨r,hr,hρ,hk,hl,hle,hc,hm⟩:=hx.row id r' (by simp [Lf.men]) hr';have hi:=hx.ix q i (by simp [Lf.men]) hi';obtain ⟨h0,h5⟩:=h.2 r i hr hi;refine ⟨A00 h0 hle,fun hv=>?_⟩;have hvv:r.ver=ver:=by omega
  obtain ⟨h1,h2,h3⟩:=h5 hvv;refine ⟨h1,hl▸h2,?_⟩;obtain ⟨v0,e0,h4⟩:=Ow.move (k:=.sl e k) (cs:= [v]) ⟨v,rfl,h3⟩ ((hm (hv.trans hvv.symm)).sub (i.toNat::p)) hx.keep;injection e0 with e0;subst e0
  exact h4
 | ro e k xs=>exact Ro.keep (k:=.rs e k) h hx.keep
 | rpa n k xs=>exact Ro.keep (k:=.pa n k) h hx.keep
 | own id=>
  refine ⟨h.1,fun r' hr'=>?_⟩;obtain ⟨r,hr,hρ,_⟩:=hx.row id r' (by simp [Lf.men]) hr';rw [hρ];exact h.2 r hr
 | apt n id=>
  refine ⟨h.1,fun r' hr'=>?_⟩;obtain ⟨r,hr,hρ,hk,hl,_⟩:=hx.row id r' (by simp [Lf.men]) hr';obtain ⟨h1,h3⟩:=h.2 r hr;exact ⟨hl.trans h1,by rw [hρ];exact h3⟩
 | vw id lo hi=>
  refine ⟨h.1,fun r' hr'=>?_⟩;obtain ⟨r,hr,hρ,hk,hl,_⟩:=hx.row id r' (by simp [Lf.men]) hr';obtain ⟨h1,h2,h3⟩:=h.2 r hr;exact ⟨h1,hl▸h2,by rw [hρ,hk];exact h3⟩
 | sub id q off ver=>
  refine ⟨h.1,fun r' i hr' hi'=>?_⟩;obtain ⟨r,hr,hρ,hk,hl,hle,hc,_⟩:=hx.row id r' (by simp [Lf.men]) hr';have hi:=hx.ix q i (by simp [Lf.men]) hi';obtain ⟨h0,h5⟩:=h.2 r i hr hi;refine ⟨A00 h0 hle,fun hv=>?_⟩;have hvv:r.ver=ver:=by omega
  obtain ⟨h1,h2,h3,h4⟩:=h5 hvv;exact ⟨h1,hl▸h2,hk▸h3,by rw [hρ,hk];exact hc (hv.trans hvv.symm) (by omega) _ _ h4⟩
 | ptr b off=>
  refine ⟨h.1,fun c' hc'=>?_⟩;obtain ⟨c,hc,hβ⟩:=hx.box b c' (by simp [Lf.men]) hc';rw [hβ];exact h.2 c hc
 | clo f b off=>
  obtain ⟨p,e,h1,h2⟩:=h;refine ⟨p,e,h1,fun c' hc'=>?_⟩;obtain ⟨c,hc,hβ⟩:=hx.box b c' (by simp [Lf.men]) hc';rw [hβ];exact h2 c hc
 | ept id q off=>
  refine ⟨h.1,fun r' i hr' hi'=>?_⟩;obtain ⟨r,hr,hρ,hk,hl,_⟩:=hx.row id r' (by simp [Lf.men]) hr';have hi:=hx.ix q i (by simp [Lf.men]) hi';obtain ⟨h1,h2,h3⟩:=h.2 r i hr hi;exact ⟨h1,hl▸h2,by rw [hρ,hk];exact h3⟩
 | rpt k x off=>
  obtain ⟨ad,ds,hr,hZ,hc,hv⟩:=h;have hlen:=hr.len;have hpos:=k.sz_pos;have hlt:ad.block<m.w.heap.size:=by
   have:=J2 m.w _ (hc 0 ds[0] (by simp [show 0<ds.length by omega]))
   rwa [add_block] at this
  exact ⟨ad,ds,hr.keep hx.keep,(hx.keep _ hZ hlt).2,fun j u hu=>A2t hx.keep (hc j u hu) (by rw [add_block];exact hZ),hv⟩
def BxC(s:St)(m:Mem)(pl:Plc)(b:Nat)(c:List Lf):Prop:=
 ∃ cs:List Value,All2 (LfC s m) c cs/\(∀ u∈cs,u.oneCell' = true)/\m.Z pl.g=some [2*b+1]/\m.w.heap[pl.g]? = some (.cells (pl.pre++cs++pl.post).toArray pl.t (0,0))
structure Gh where
 Z:Col
 ρ:Nat->Value
 β:Nat->Plc
 al:List (Nat×Obj):= []
def D1b(Z0:Gh)(b:Nat)(pl:Plc):Prop:=(1000<=b->b<4096->pl=Z0.β b)/\(¬ (1000<=b/\b<4096)->pl.pre = []/\pl.post = [])
def B6R(D:Nat):Deferred:={target:=.collected D,args:=#[]}
def DfOk(w0:World)(al:List (Nat×Obj))(ds:List Deferred)(w:World)(Z:Col):Prop:=
 (ds.Nodup/\∀ d∈ds,∃ D,d=B6R D/\w0.heap.size<=D/\Z D=some []/\w.heap[D]? = some (.deferred (some [])))/\
 ∀ p∈al,w0.heap.size<=p.1/\Z p.1=some []/\w.heap[p.1]? = some p.2
theorem DfOk.nil(w0 w:World)(Z:Col):DfOk w0 [] [] w Z:=⟨⟨A3p,fun d hd=>by cases hd⟩,fun p hp=>by cases hp⟩
theorem DfOk.fore{w0:World}{al:List (Nat×Obj)}{ds:List Deferred}{w w':World}{Z Z':Col}(h:DfOk w0 al ds w Z)(hf:Fore w w' Z Z'):DfOk w0 al ds w' Z':=by
 refine ⟨⟨h.1.1,fun d hd=>?_⟩,fun p hp=>?_⟩
 ·obtain ⟨D,e,h1,h2,h3⟩:=h.1.2 d hd;obtain ⟨g1,g2⟩:=hf D h2 (A9.1 h3).1;exact ⟨D,e,h1,g2,g1.trans h3⟩
 ·obtain ⟨h1,h2,h3⟩:=h.2 p hp;obtain ⟨g1,g2⟩:=hf p.1 h2 (A9.1 h3).1;exact ⟨h1,g2,g1.trans h3⟩
structure Rel (n:Nat) (w0:World) (Z0:Gh) (s:St) (a:Act) (m:Mem):Prop where
 sz:a.tmps.size=n
 df:DfOk w0 Z0.al a.defers m.w m.Z
 tm:∀ d v,s.get (.t d)=some (.t v)->AVC s m v (a.tmps.getD d undef)
 rw:∀ id r,s.get (.r id)=some (.r r)->OwL (Ow r.k m.w m.Z) r.e r.k.sz m.w m.Z [2*id] r.xs (m.ρ id)
 bx:∀ b c,s.get (.b b)=some (.b c)->BxC s m (m.β b) b c
 kp:Keeps w0 m.w Z0.Z m.Z
 fo:Fore w0 m.w Z0.Z m.Z
 nn:n<=1000/\GI w0 Z0.Z
 gr:∀ id r,1000<=id->id<4096->s.get (.r id)=some (.r r)->m.ρ id=Z0.ρ id
 gb:∀ b c,s.get (.b b)=some (.b c)->D1b Z0 b (m.β b)
 hs:w0.heap.size<=m.w.heap.size
 os:m.w.os=w0.os
 tp:m.w.tape=w0.tape
 ou:m.w.output=w0.output
theorem Rel.gi{n:Nat}{w0:World}{Z0:Gh}{s:St}{a:Act}{m:Mem}(h:Rel n w0 Z0 s a m):GI m.w m.Z:=h.nn.2.keep h.kp
def Live(s:St)(l:Loc):Prop:=∃ l' lv,s.get l' = some lv/\l∈lv.men
def fresh(s:St)(l:Loc):Bool:=s.all fun p=>match p.2 with | some lv=>!(lv.men.any (Loc.eqb l)) | none=>true
theorem get_mem:∀ {s:St} {l:Loc} {lv:LV},s.get l=some lv->(l,some lv)∈s
 | [],_,_,h=>by simp [St.get] at h
 | (l',v)::s,l,lv,h=>by
  by_cases hl:l' = l
  ·subst hl;rw [St.get_cons_same] at h;subst h;exact A5
  ·rw [St.get_cons_ne hl] at h;exact B5 _ (get_mem h)
theorem A6a{s:St}{l:Loc}(h:fresh s l=true):¬ Live s l:=by
 rintro ⟨l',lv,hg,hm⟩;have h1:=(C8.1 h) _ (get_mem hg);simp only [P9,Q0] at h1;exact h1 l hm (Loc.eqb_iff.2 rfl)
theorem AVC.ext{s:St}{m:Mem}{s':St}{m':Mem}{v:AV}{x:Value}(h:AVC s m v x)(hx:Ext s m s' m' (·∈v.men)):AVC s' m' v x:=by
 cases v with
 | one l=>exact LfC.ext h hx
 | agg ls=>
  obtain ⟨cs,rfl,h⟩:=h;exact ⟨cs,rfl,All2.imp (fun l hl b hb=>LfC.ext hb (hx.sub fun q hq=>E6.2 ⟨l,hl,hq⟩)) h⟩
 | tup ps=>
  obtain ⟨vs,rfl,h⟩:=h;refine ⟨vs,rfl,All2.imp (fun p hp b hb=>?_) h⟩;have hsub:∀ l∈p.2,Ext s m s' m' (·∈l.men):=fun l hl=>hx.sub fun q hq=>E6.2 ⟨p,hp,E6.2 ⟨l,hl,hq⟩⟩
  obtain ⟨f,ls⟩:=p;cases f with
  | true=>obtain ⟨cs,rfl,h⟩:=hb;exact ⟨cs,rfl,All2.imp (fun l hl b hb=>LfC.ext hb (hsub l hl)) h⟩
  | false=>obtain ⟨l,rfl,h⟩:=hb;exact ⟨l,rfl,LfC.ext h (hsub l (by simp))⟩
 | und=>exact h
theorem Rel.change{n:Nat}{w0:World}{Z0:Gh}{s s1:St}{a:Act}{m m1:Mem}(h:Rel n w0 Z0 s a m)
  (hT:∀ d,s1.get (.t d)=s.get (.t d)) (hX:Ext s m s1 m1 (Live s))
  (hR:∀ id r,s1.get (.r id)=some (.r r)->OwL (Ow r.k m1.w m1.Z) r.e r.k.sz m1.w m1.Z [2*id] r.xs (m1.ρ id))
  (hB:∀ b c,s1.get (.b b)=some (.b c)->BxC s1 m1 (m1.β b) b c)
  (hF:Fore m.w m1.w m.Z m1.Z) (hs:m.w.heap.size<=m1.w.heap.size) (os:m1.w.os=m.w.os) (tp:m1.w.tape=m.w.tape) (ou:m1.w.output=m.w.output)
  (hG:∀ id r,1000<=id->id<4096->s1.get (.r id)=some (.r r)->(∃ r',s.get (.r id)=some (.r r'))/\m1.ρ id=m.ρ id)
  (hGb:∀ b c,s1.get (.b b)=some (.b c)->((∃ c',s.get (.b b)=some (.b c'))/\m1.β b=m.β b)\/(¬ (1000<=b/\b<4096)/\(m1.β b).pre = []/\(m1.β b).post = [])):Rel n w0 Z0 s1 a m1 where
 sz:=h.sz
 df:=h.df.fore hF
 tm:=fun d v hd=>(h.tm d v (by rw [<- hT];exact hd)).ext (hX.sub fun l hl=>⟨.t d,.t v,by rw [<- hT];exact hd,hl⟩)
 rw:=hR
 bx:=hB
 kp:=h.kp.trans hX.keep h.hs
 fo:=h.fo.trans hF h.hs
 nn:=h.nn
 gr:=fun id r h1 h2 h3=>let ⟨⟨r',h4⟩,h5⟩:=hG id r h1 h2 h3;h5.trans (h.gr id r' h1 h2 h4)
 gb:=fun b c h3=>by
  rcases hGb b c h3 with ⟨⟨c',h4⟩,h5⟩ | ⟨h1,h2⟩
  ·rw [h5];exact h.gb b c' h4
  ·exact ⟨fun g1 g2=>absurd ⟨g1,g2⟩ h1,fun _=>h2⟩
 hs:=A00 h.hs hs
 os:=os.trans h.os
 tp:=tp.trans h.tp
 ou:=ou.trans h.ou
theorem Ext.same{s s1:St}{m:Mem}(h:∀ l,(∀ d,l≠.t d)->s1.get l=s.get l)(L:Loc->Prop):Ext s m s1 m L where
 keep:=Keeps.refl _ _
 row:=fun id r' _ hr=>⟨r',by rw [<- h _ (by simp)];exact hr,rfl,rfl,rfl,C6 _,fun _ _ _ _ hc=>hc,fun _=>Moves.refl _ _ _⟩
 box:=fun b c' _ hc=>⟨c',by rw [<- h _ (by simp)];exact hc,rfl⟩
 ix:=fun q i _ hi=>by rw [<- h _ (by simp)];exact hi
theorem B6S{a:Act}{d:Nat}{v:Value}(h:d<a.tmps.size)(i:Nat):(a.put (some d) v).tmps.getD i undef=if i=d then v else a.tmps.getD i undef:=by
 simp only [Act.put,I4,A5v];by_cases e:i=d
 ·subst e;simp [h]
 ·have e':d≠i:=fun hh=>e hh.symm
  simp [e,e']
theorem Rel.put{n:Nat}{w0:World}{Z0:Gh}{s:St}{a:Act}{m:Mem}(h:Rel n w0 Z0 s a m){d:Nat}{v:AV}{x:Value}(hd:d<n)(hv:AVC s m v x) :
  Rel n w0 Z0 ((.t d,some (.t v))::s) (a.put (some d) x) m:=by
 have hsame:∀ l,(∀ d,l≠.t d)->St.get ((.t d,some (.t v))::s) l=s.get l:=fun l hl=>St.get_cons_ne (hl d).symm _ _
 have hE:∀ L,Ext s m ((.t d,some (.t v))::s) m L:=Ext.same hsame;refine ⟨?_,h.df,fun i u hi=>?_,fun id r hr=>h.rw id r (by rw [<- hsame _ (by simp)];exact hr),fun b c hc=>?_,h.kp,h.fo,h.nn,fun id r h1 h2 hr=>h.gr id r h1 h2 (by rw [<- hsame _ (by simp)];exact hr),fun b c hc=>h.gb b c (by rw [<- hsame _ (by simp)];exact hc),h.hs,h.os,h.tp,h.ou⟩
 ·simp [Act.put,h.sz]
 ·rw [B6S (by rw [h.sz];exact hd)];by_cases e:i=d
  ·subst e;rw [St.get_cons_same] at hi;injection hi with hi;injection hi with hi
   rw [G0 rfl,<- hi];exact hv.ext (hE _)
  ·rw [D6 e];rw [St.get_cons_ne (by intro hh;injection hh with hh;exact e hh.symm)] at hi;exact (h.tm i u hi).ext (hE _)
 ·obtain ⟨cs,h1,h2,h3,h4⟩:=h.bx b c (by rw [<- hsame _ (by simp)];exact hc);exact ⟨cs,All2.imp (fun l hl b hb=>hb.ext (hE _)) h1,h2,h3,h4⟩
theorem Rel.putNone{n:Nat}{w0:World}{Z0:Gh}{s:St}{a:Act}{m:Mem}(h:Rel n w0 Z0 s a m)(d:Option Nat)(x:Value)(hg:∀ i,d=some i->s.get (.t i)=none) :
  Rel n w0 Z0 s (a.put d x) m:=by
 refine ⟨?_,?_,fun i u hi=>?_,h.rw,h.bx,h.kp,h.fo,h.nn,h.gr,h.gb,h.hs,h.os,h.tp,h.ou⟩
 ·cases d<;>simp [Act.put,h.sz]
 ·cases d<;>exact h.df
 ·cases d with
  | none=>exact h.tm i u hi
  | some d=>
   by_cases hd:d<n
   ·rw [B6S (by rw [h.sz];exact hd)];by_cases e:i=d
    ·subst e;rw [hg _ rfl] at hi;cases hi
    ·rw [D6 e];exact h.tm i u hi
   ·have:(a.put (some d) x).tmps=a.tmps:=by
     simp only [Act.put];exact Array.setIfInBounds_eq_of_size_le (by rw [h.sz];omega)
    rw [this];exact h.tm i u hi
structure O where
 rd:List (Loc×LV)
 wr:List (Loc×Option LV)
 new:List Loc
def Reads(s:St)(rd:List (Loc×LV)):Prop:=∀ p∈rd,s.get p.1=some p.2
def Good(P:Program)(n:Nat)(o:Oper)(δ:O):Prop:=
 ∀ w0 Z0 s a m,Rel n w0 Z0 s a m->Reads s δ.rd->(∀ l∈δ.new,¬ Live s l)->
  ∀ (next:Act->World->Prop) (Q:Exit->Act->World->Prop),(∀ a' m',Rel n w0 Z0 (δ.wr++s) a' m'->next a' m'.w)->o.wp P a m.w next Q
def Pure1(P:Program)(n:Nat)(o:Oper)(rd:List (Loc×LV))(xw:List (Nat×Int))(v:AV):Prop:=
 ∀ w0 Z0 s a m,Rel n w0 Z0 s a m->Reads s rd->(∀ q∈xw,¬ Live s (.x q.1))->∃ val,(execOp a.eval o).run P m.w=.ok (.value val) m.w/\
  AVC (xw.map (fun q=>(Loc.x q.1,some (LV.x q.2)))++s) m v val
theorem A82{xw:List (Nat×Int)}{s:St}{l:Loc}(hl:∀ q,l≠.x q):St.get (xw.map (fun q=>(Loc.x q.1,some (LV.x q.2)))++s) l=s.get l:=by
 induction xw with
 | nil=>rfl
 | cons q xw ih=>rw [G3,C7,St.get_cons_ne (hl _).symm];exact ih
theorem C6G{xw:List (Nat×Int)}{s:St}{q:Nat}{i:Int}(h:St.get (xw.map (fun q=>(Loc.x q.1,some (LV.x q.2)))++s) (.x q)=some (.x i)):(∃ p∈xw,p.1=q)\/s.get (.x q)=some (.x i):=by
 induction xw with
 | nil=>exact .inr h
 | cons p xw ih=>
  rw [G3,C7] at h;by_cases e:p.1=q
  ·exact .inl ⟨p,A5,e⟩
  ·rw [St.get_cons_ne (by intro hh;injection hh with hh;exact e hh)] at h;rcases ih h with ⟨p',hp,e'⟩ | h
   ·exact .inl ⟨p',B5 _ hp,e'⟩
   ·exact .inr h
theorem Rel.xw{n:Nat}{w0:World}{Z0:Gh}{s:St}{a:Act}{m:Mem}(h:Rel n w0 Z0 s a m)(xw:List (Nat×Int))(hf:∀ q∈xw,¬ Live s (.x q.1)) :
  Rel n w0 Z0 (xw.map (fun q=>(Loc.x q.1,some (LV.x q.2)))++s) a m:=by
 have hE:Ext s m (xw.map (fun q=>(Loc.x q.1,some (LV.x q.2)))++s) m (Live s):=by
  refine ⟨Keeps.refl _ _,fun id r' _ hr=>⟨r',by rwa [A82 (by simp)] at hr,rfl,rfl,rfl,C6 _,fun _ _ _ _ hc=>hc,fun _=>Moves.refl _ _ _⟩,fun b c' _ hc=>⟨c',by rwa [A82 (by simp)] at hc,rfl⟩,fun q i hL hi=>?_⟩;rcases C6G hi with ⟨p,hp,e⟩ | hi
  ·exact absurd (e▸hL) (hf p hp)
  ·exact hi
 refine h.change (fun d=>A82 (by simp)) hE (fun id r hr=>h.rw id r (by rwa [A82 (by simp)] at hr)) (fun b c hc=>?_) (Fore.refl _ _) (C6 _) rfl rfl rfl (fun id r _ _ hg=>⟨⟨r,by rwa [A82 (by simp)] at hg⟩,rfl⟩) (fun b c hg=>.inl ⟨⟨c,by rwa [A82 (by simp)] at hg⟩,rfl⟩);rw [A82 (by simp)] at hc;obtain ⟨cs,h1,h2,h3,h4⟩:=h.bx b c hc;exact ⟨cs,All2.imp (fun l hl b' hb=>hb.ext (hE.sub fun q hq=>⟨.b b,.b c,hc,E6.2 ⟨l,hl,hq⟩⟩)) h1,h2,h3,h4⟩
theorem Pure1.good{P:Program}{n:Nat}{o:Oper}{rd:List (Loc×LV)}{xw:List (Nat×Int)}{v:AV}{d:Nat}(h:Pure1 P n o rd xw v)(ho:o.dst=some d)(hd:d<n) :
  Good P n o ⟨rd,(.t d,some (.t v))::xw.map (fun q=>(Loc.x q.1,some (LV.x q.2))),xw.map (fun q=>Loc.x q.1)⟩:=by
 intro w0 Z0 s a m hr hrd hnew next Q hn
 have hf:∀ q∈xw,¬ Live s (.x q.1):=fun q hq=>hnew _ (D0.2 ⟨q,hq,rfl⟩)
 obtain ⟨val,hrun,hv⟩:=h w0 Z0 s a m hr hrd hf;simp only [Oper.wp,hrun,Oper.upon,ho];exact hn _ m ((hr.xw xw hf).put hd hv)
def eqI:List Int->List Int->Bool
 | x::xs,y::ys=>decide (x=y)&&eqI xs ys
 | _,_=>true
def A63(a:List Int):Array Value:=(a.map (Value.int .i64)).toArray
theorem B6T:∀ {a b:List Int} (c d:List Int),a.length=b.length->eqI (a++c) (b++d)=(eqI a b&&eqI c d)
 | [],[],c,d,_=>by simp [eqI]
 | x::a,y::b,c,d,h=>by
  simp only [C7,eqI,B6T (a:=a) (b:=b) c d (by simpa using h),Bool.and_assoc]
 | [],_::_,_,_,h=>by cases h
 | _::_,[],_,_,h=>by cases h
def EqD(P:Program)(t n d:Nat):Prop:=
 0<d/\(∃ fs,P.underlying t=some (.struct fs))/\(∃ f,P.info? t=some f/\f.size=n)/\
 ∀ (a b:List Int) (w:World) (e:Nat),a.length=n->b.length=n->(Op.equalIn (d+e) t (.agg (A63 a)) (.agg (A63 b))).run P w=.ok (eqI a b) w
def C6H(P:Program)(d:Nat):List Field->Nat->Nat->Prop
 | [],off,n=>off=n
 | f::fs,off,n=>f.name≠ "_"/\f.offset=off/\((P.underlying f.type=some (.int .i64)/\C6H P d fs (off+1) n)\/∃ m,EqD P f.type m d/\C6H P d fs (off+m) n)
theorem B63{P:Program}{d:Nat}:∀ {fs:List Field} {off n:Nat},C6H P d fs off n->off<=n
 | [],off,n,h=>Nat.le_of_eq h
 | f::fs,off,n,h=>by
  rcases h.2.2 with ⟨_,h⟩ | ⟨m,_,h⟩
  ·have:=B63 h;omega
  ·have:=B63 h;omega
theorem B9c{P:Program}{d:Nat}(hd:0<d):∀ {fs:List Field} {off n:Nat},C6H P d fs off n->∀ (a b:List Int) (w:World) (e:Nat),a.length=n->b.length=n->
  (Op.eqFields (d+e) (A63 a) (A63 b) fs).run P w=.ok (eqI (a.drop off) (b.drop off)) w
 | [],off,n,h,a,b,w,e,ha,hb=>by
  rw [A0b (by have:off=n:=h;omega),A0b (by have:off=n:=h;omega)];rfl
 | f::fs,off,n,h,a,b,w,e,ha,hb=>by
  obtain ⟨h1,h2,h3⟩:=h;obtain ⟨d',rfl⟩:∃ d',d=d'+1:=⟨d-1,by omega⟩;simp only [Op.eqFields,G0 h1,C4,h2];rcases h3 with ⟨hi,h3⟩ | ⟨m,hm,h3⟩
  ·have hle:=B63 h3;have pa:∀ x:List Int,x.length=n->∃ hx:off<x.length,(part f.type (A63 x) off).run P w=.ok (.int .i64 x[off]) w:=fun x hx=>by
    refine ⟨by omega,?_⟩;have hg:(A63 x)[off]? = some (.int .i64 (x[off]'(by omega))):=by simp [A63,C0 (show off<x.length by omega)]
    simp [part,isAgg,F9 hi,hg]
   obtain ⟨la,ea⟩:=pa a ha;obtain ⟨lb,eb⟩:=pa b hb;have he:(Op.equalIn (d'+1+e) f.type (.int .i64 a[off]) (.int .i64 b[off])).run P w=.ok (a[off] == b[off]) w:=by
    rw [show d'+1+e=(d'+e)+1 by omega];exact run_equalIn_int w _ _ _ _ _ _ hi
   have ih:=B9c hd h3 a b w e ha hb;rw [ea];simp only [H2,eb,he];rw [I0 la,I0 lb];simp only [eqI];by_cases hx:a[off]=b[off]
   ·have hbq:(a[off] == b[off])=true:=by simp [hx]
    rw [hbq,A0I hx];simp only [H4,A0c,A0J,A2c];exact ih
   ·have hbq:(a[off] == b[off])=false:=by simp [hx]
    rw [hbq,Q5 hx];simp
  ·have hle:=B63 h3;obtain ⟨_,⟨gs,hu⟩,⟨inf,hin,hsz⟩,hrec⟩:=hm;have pa:∀ x:List Int,x.length=n->(part f.type (A63 x) off).run P w=.ok (.agg (A63 ((x.drop off).take m))) w:=fun x hx=>by
    have:(A63 x).extract off (off+m)=A63 ((x.drop off).take m):=by
     simp [A63,List.extract_toArray,List.extract,List.map_take,List.map_drop]
    simp [part,isAgg,F9 hu,sizeOf,typeInfo,hin,hsz,this]
   have he:=hrec ((a.drop off).take m) ((b.drop off).take m) w e (by simp;omega) (by simp;omega);have ih:=B9c hd h3 a b w e ha hb;rw [pa a ha];simp only [H2,pa b hb,he];have sp:∀ x:List Int,x.drop off=(x.drop off).take m++x.drop (off+m):=fun x=>by
    rw [<- L6,M2]
   have spe:eqI (a.drop off) (b.drop off)=(eqI ((a.drop off).take m) ((b.drop off).take m)&&eqI (a.drop (off+m)) (b.drop (off+m))):=by
    conv=>lhs;rw [sp a,sp b]
    exact B6T _ _ (by simp;omega)
   rw [spe];cases eqI ((a.drop off).take m) ((b.drop off).take m) with
   | true=>
    simp only [H4,A0c,A0J,A2c];exact ih
   | false=>simp
theorem D1c{P:Program}{t n d:Nat}{fs:Array Field}{f:TypeInfo}(hd:0<d)(hu:P.underlying t=some (.struct fs))(hp:P.stoodInHeld t=false)(hi:P.info? t=some f)(hs:f.size=n)(h:C6H P d fs.toList 0 n):EqD P t n (d+1):=by
 refine ⟨by omega,⟨fs,hu⟩,⟨f,hi,hs⟩,fun a b w e ha hb=>?_⟩;have hf:P.fieldsOf t=fs:=by simp [Program.fieldsOf,hu]
 rw [show d+1+e=(d+e)+1 by omega,run_equalIn_agg w _ t _ _ (by rw [hf];exact hu) hp,hf];exact B9c hd h a b w e ha hb
def D14(P:Program)(t n:Nat):Prop:=P.eqGuardType P.depth t=false/\∃ d,d<=10000/\EqD P t n d
theorem C6I{P:Program}{t n:Nat}(h:D14 P t n){a b:List Int}(ha:a.length=n)(hb:b.length=n)(w:World) :
  (∀ op X Y,(eqGuard op t X Y (.agg (A63 a)) (.agg (A63 b))).run P w=.ok () w)/\
  (binOp .eql t (.agg (A63 a)) (.agg (A63 b))).run P w=.ok (.bool (eqI a b)) w/\(binOp .neq t (.agg (A63 a)) (.agg (A63 b))).run P w=.ok (.bool (!eqI a b)) w:=by
 obtain ⟨h1,d,hd,_,_,_,h2⟩:=h;have e:=h2 a b w (10000-d) ha hb;rw [show d+(10000-d)=10000 by omega] at e;refine ⟨fun op X Y=>B0d w op t X Y _ _ h1,?_,?_⟩
 ·rw [B1p,e];rfl
 ·rw [B1q,e];rfl
def eqB:List ByteArray->List ByteArray->Bool
 | x::xs,y::ys=>decide (x=y)&&eqB xs ys
 | _,_=>true
def A9P(a:List ByteArray):Array Value:=(a.map Value.string).toArray
def C40(P:Program):List Field->Nat->Nat->Prop
 | [],off,n=>off=n
 | f::fs,off,n=>f.name≠ "_"/\f.offset=off/\P.underlying f.type=some .string/\C40 P fs (off+1) n
theorem C0k{P:Program}:∀ {fs:List Field} {off n:Nat},C40 P fs off n->off<=n
 | [],off,n,h=>Nat.le_of_eq h
 | f::fs,off,n,h=>by have:=C0k h.2.2.2;omega
theorem bytes_beq(a b:ByteArray):(a.toList == b.toList)=decide (a=b):=by
 rw [B2V,B2V];obtain ⟨⟨x⟩⟩:=a;obtain ⟨⟨y⟩⟩:=b;by_cases h:x=y
 ·subst h;simp
 ·have h2:¬ ((⟨⟨x⟩⟩:ByteArray)=⟨⟨y⟩⟩):=fun e=>h (by injection e with e;injection e)
  rw [Q5 h2];simpa using h
theorem C0l{P:Program}{d:Nat}:∀ {fs:List Field} {off n:Nat},C40 P fs off n->∀ (a b:List ByteArray) (w:World),a.length=n->b.length=n->
  (Op.eqFields (d+1) (A9P a) (A9P b) fs).run P w=.ok (eqB (a.drop off) (b.drop off)) w
 | [],off,n,h,a,b,w,ha,hb=>by
  rw [A0b (by have:off=n:=h;omega),A0b (by have:off=n:=h;omega)];rfl
 | f::fs,off,n,h,a,b,w,ha,hb=>by
  obtain ⟨h1,h2,hi,h3⟩:=h;simp only [Op.eqFields,G0 h1,C4,h2];have hle:=C0k h3;have pa:∀ x:List ByteArray,x.length=n->∃ hx:off<x.length,(part f.type (A9P x) off).run P w=.ok (.string x[off]) w:=fun x hx=>by
   refine ⟨by omega,?_⟩;have hg:(A9P x)[off]? = some (.string (x[off]'(by omega))):=by simp [A9P,C0 (show off<x.length by omega)]
   simp [part,isAgg,F9 hi,hg]
  obtain ⟨la,ea⟩:=pa a ha;obtain ⟨lb,eb⟩:=pa b hb;have he:(Op.equalIn (d+1) f.type (.string a[off]) (.string b[off])).run P w=.ok (decide (a[off]=b[off])) w:=by
   rw [run_equalIn_string w _ _ _ _ hi,bytes_beq]
  have ih:=C0l (d:=d) h3 a b w ha hb;rw [ea];simp only [H2,eb,he];rw [I0 la,I0 lb];simp only [eqB];by_cases hx:a[off]=b[off]
  ·rw [A0I hx];simp only [H4,A0c,A0J,A2c];exact ih
  ·rw [Q5 hx];simp
def C41(P:Program)(t n:Nat):Prop:=P.eqGuardType P.depth t=false/\∀ (a b:List ByteArray) (w:World),a.length=n->b.length=n->(Op.equalIn 10000 t (.agg (A9P a)) (.agg (A9P b))).run P w=.ok (eqB a b) w
theorem C6J{P:Program}{t n:Nat}{fs:Array Field}(hg:P.eqGuardType P.depth t=false)(hu:P.underlying t=some (.struct fs))(hp:P.stoodInHeld t=false)(h:C40 P fs.toList 0 n):C41 P t n:=by
 refine ⟨hg,fun a b w ha hb=>?_⟩;have hf:P.fieldsOf t=fs:=by simp [Program.fieldsOf,hu]
 rw [show 10000=9998+1+1 by omega,run_equalIn_agg w _ t _ _ (by rw [hf];exact hu) hp,hf];exact C0l h a b w ha hb
theorem C4v{P:Program}{t n:Nat}(h:C41 P t n){a b:List ByteArray}(ha:a.length=n)(hb:b.length=n)(w:World) :
  (∀ op X Y,(eqGuard op t X Y (.agg (A9P a)) (.agg (A9P b))).run P w=.ok () w)/\
  (binOp .eql t (.agg (A9P a)) (.agg (A9P b))).run P w=.ok (.bool (eqB a b)) w/\(binOp .neq t (.agg (A9P a)) (.agg (A9P b))).run P w=.ok (.bool (!eqB a b)) w:=by
 obtain ⟨h1,h2⟩:=h;have e:=h2 a b w ha hb;refine ⟨fun op X Y=>B0d w op t X Y _ _ h1,?_,?_⟩
 ·rw [B1p,e];rfl
 ·rw [B1q,e];rfl
def eqM:List (Int⊕ByteArray)->List (Int⊕ByteArray)->Bool
 | .inl x::xs,.inl y::ys=>decide (x=y)&&eqM xs ys
 | .inr x::xs,.inr y::ys=>decide (x=y)&&eqM xs ys
 | _,_=>true
def pvM:Int⊕ByteArray->Value
 | .inl n=>.int .i64 n
 | .inr b=>.string b
def B3S(a:List (Int⊕ByteArray)):Array Value:=(a.map pvM).toArray
def B5J:List (Int⊕ByteArray)->Nat
 | []=>1
 | .inl _::l=>2*B5J l
 | .inr _::l=>2*B5J l+1
def C9w(P:Program)(t n:Nat):Prop:=P.eqGuardType P.depth t=false/\∀ (a b:List (Int⊕ByteArray)) (w:World),B5J a=n->B5J b=n->(Op.equalIn 10000 t (.agg (B3S a)) (.agg (B3S b))).run P w=.ok (eqM a b) w
theorem C4w{P:Program}{t n:Nat}(h:C9w P t n){a b:List (Int⊕ByteArray)}(ha:B5J a=n)(hb:B5J b=n)(w:World) :
  (∀ op X Y,(eqGuard op t X Y (.agg (B3S a)) (.agg (B3S b))).run P w=.ok () w)/\
  (binOp .eql t (.agg (B3S a)) (.agg (B3S b))).run P w=.ok (.bool (eqM a b)) w/\(binOp .neq t (.agg (B3S a)) (.agg (B3S b))).run P w=.ok (.bool (!eqM a b)) w:=by
 obtain ⟨h1,h2⟩:=h;have e:=h2 a b w ha hb;refine ⟨fun op X Y=>B0d w op t X Y _ _ h1,?_,?_⟩
 ·rw [B1p,e];rfl
 ·rw [B1q,e];rfl
def B91(P:Program)(t n:Nat):Prop:=match Nat.blt n 1000,Nat.blt n 2000 with
 | true,_=>D14 P t n
 | false,true=>C41 P t (n-1000)
 | false,false=>C9w P t (n-2000)
def C6K(P:Program):List (Nat×Nat)->Prop
 | []=>True
 | p::l=>B91 P p.1 p.2/\C6K P l
def B2p:TypeDesc->Bool
 | .struct _ | .array _ _=>true
 | _=>false
structure TyI where
 agg:Bool
 k:K
 bytes:Nat
 flds:List (Nat×Nat×Bool)
structure C8c where
 k:K
 l:Nat
 fn:List k.T->ByteArray->Option Int
structure Cfg where
 ty:Nat->Option TyI
 el:Nat->Option Nat
 pk:Nat->Option C8c
 ck:Option (Nat×Nat)
 pt:List Nat
 eq:Nat->Option Nat
 ar:Nat->Option (Nat×Nat):=fun _=>none
def zc:K->List Value
 | .int U=> [.int U 0]
 | .bool=> [.bool false]
 | .fnc f=> [fV f]
 | .str=> [.string ⟨#[]⟩]
 | .sl _ _=> [.slice none 0 0]
 | .rs _ _=> [.slice none 0 0]
 | .pa _ _=> [.pointer none]
 | .pair a b=>zc a++zc b
def zd:(k:K)->k.T
 | .int _=>(0:Int)
 | .bool=>false
 | .fnc _=>()
 | .str=>(⟨#[]⟩:ByteArray)
 | .sl _ k=>([]:List k.T)
 | .rs _ k=>([]:List k.T)
 | .pa _ k=>([]:List k.T)
 | .pair a b=>(zd a,zd b)
def zl:K->List Lf
 | .int U=> [.int U 0]
 | .bool=> [.bool false]
 | .fnc f=> [.fn f]
 | .str=> [.str ⟨#[]⟩]
 | .sl _ _=> [.nil]
 | .rs _ _=> [.nil]
 | .pa n k=> [.rpa n k []]
 | .pair a b=>zl a++zl b
structure B6U (P:Program) (fd:Field) (f:Nat×Nat×Bool):Prop where
 off:fd.offset=f.1
 info:∃ i,P.info? fd.type=some i/\i.size=f.2.1
 pos:0<f.2.1
 agg:∃ d,P.underlying fd.type=some d/\B2p d=f.2.2
def B92(P:Program)(f:Nat)(F:C8c):Prop:=
 ∀ xs id i,F.fn xs id=some i->∀ (w:World) (g o:Nat) (v:Value),w.cell? ⟨g,o+F.l,none⟩=some v->RoL (Ro F.k w (fun _=>none)) F.k.sz w (fun _=>none) xs [v]->
  Calls P f #[.pointer (some ⟨g,o,none⟩),.string id] w fun e w'=>∃ cs:List Value,e=.returned (.tuple #[.agg cs.toArray,.bool (decide (0<=i))])/\
   (w.heap.size<=w'.heap.size/\w'.os=w.os/\w'.tape=w.tape/\w'.output=w.output)/\(∀ b,b<w.heap.size->w'.heap[b]? = w.heap[b]?)/\(i<0->cs=zc F.k)/\
   (0<=i->i.toNat<xs.length/\cs.length=F.k.sz/\∀ A n c,v=.slice (some A) n c->∀ j u,cs[j]? = some u->w.cell? (A.add (i.toNat*F.k.sz+j))=some u)
def C0m(lo hi:Nat):Value->Value
 | .slice a _ _=>.slice (a.map (·.add lo)) (hi-lo) (hi-lo)
 | v=>v
def B64(P:Program)(f:Nat):Prop:=(∀ args w,(callFunc f args).run P w=.ok (.enter f args) w)/\
 ∀ (N l b1 b2 e:Nat) (xs:List Int) (n:Nat),0<n->n<=1048576->xs.length<=1152921504606846976->∀ (J:Nat->World->Prop),(∀ i W,J i W->J i W.drew)->
  (∀ i W,J i W->∃ v1 Z,W.cell? ⟨b1,0,none⟩=some v1/\W.cell? ⟨b2,0,none⟩=some (.int .i64 n)/\Ro (.rs e (.int .u8)) W Z xs [v1])->
  (∀ i W v1,i*n<xs.length->J i W->W.cell? ⟨b1,0,none⟩=some v1->
   YieldAt Fence.wide N P l #[C0m (i*n) (min (i*n+n) xs.length) v1] W (fun e W'=>e=.returned (.bool true)/\J (i+1) W'))->
  ∀ W,J 0 W->CallsIn Fence.wide (N+1) P f (#[.func (.yield l) #[] #[]]++#[.pointer (some ⟨b1,0,none⟩),.pointer (some ⟨b2,0,none⟩)]) W fun e W'=>(∃ v,e=.returned v)/\J ((xs.length+n-1) / n) W'
def B65(P:Program)(f g:Nat):Prop:=B64 P g/\
 ∀ (w:World) (A:Option Addr) (len cap:Nat) (n:Int),0<n->Calls P f #[.slice A len cap,.int .i64 n] w fun e w'=>∃ b1 b2,e=.returned (.func (.func g) #[] #[.pointer (some ⟨b1,0,none⟩),.pointer (some ⟨b2,0,none⟩)])/\
  (w.heap.size<=w'.heap.size/\w'.os=w.os/\w'.tape=w.tape/\w'.output=w.output)/\(∀ b,b<w.heap.size->w'.heap[b]? = w.heap[b]?)/\
  w.heap.size<=b1/\w.heap.size<=b2/\w'.cell? ⟨b1,0,none⟩=some (.slice A len cap)/\w'.cell? ⟨b2,0,none⟩=some (.int .i64 n)
def C6L(P:Program)(ty:Nat->Option TyI)(t n e:Nat):Prop:=P.underlying t=some (.array n e)/\∃ f z,P.info? t=some f/\f.zero=some z/\∀ ti,ty e=some ti->z.cells.toList=(List.replicate n (zc ti.k)).flatten
structure J9 (P:Program) (c:Cfg):Prop where
 ck:∀ {f g},c.ck=some (f,g)->(∀ args w,(callFunc f args).run P w=.ok (.enter f args) w)/\B65 P f g
 pk:∀ {f F},c.pk f=some F->(∀ args w,(callFunc f args).run P w=.ok (.enter f args) w)/\B92 P f F
 info:∀ {t i},c.ty t=some i->∃ f z,P.info? t=some f/\f.size=i.k.sz/\f.bytes=i.bytes/\f.zero=some z/\z.cells.toList=zc i.k/\(i.agg=true->z=.agg z.cells)
 agg:∀ {t i},c.ty t=some i->∃ d,P.underlying t=some d/\B2p d=i.agg
 st:∀ {t i},c.ty t=some i->i.agg=true->∃ fs,P.underlying t=some (.struct fs)/\fs.size=i.flds.length/\∀ (j:Nat) f,i.flds[j]? = some f->∃ fd,fs[j]? = some fd/\B6U P fd f
 int:∀ {t i U},c.ty t=some i->i.k=.int U->P.underlying t=some (.int U)
 bool:∀ {t i},c.ty t=some i->i.k=.bool->P.underlying t=some .bool
 str:∀ {t i},c.ty t=some i->i.k=.str->P.underlying t=some .string
 el:∀ {t e},c.el t=some e->P.underlying t=some (.slice e)
 pt:∀ {t},c.pt.any (Nat.beq t)=true->∃ d,P.underlying t=some d/\B2p d=false
 eq:∀ {t n},c.eq t=some n->B91 P t n
 ar:∀ {t n e},c.ar t=some (n,e)->C6L P c.ty t n e
def B66:Value->Option AV
 | .int k n=>some (.one (.int k n))
 | .bool b=>some (.one (.bool b))
 | .string s=>some (.one (.str s))
 | .slice none 0 0=>some (.one .nil)
 | .pointer none=>some (.one .nilp)
 | .nilIface=>some (.one (.fn 999999999))
 | _=>none
def L1(s:St):Operand->Option (AV×List (Loc×LV))
 | .tmp d=>match s.getT d with
  | some v=>some (v,[(.t d,.t v)])
  | none=>none
 | .const c=>match B66 c with
  | some v=>some (v,[])
  | none=>none
 | .func f=>match Nat.beq f 999999999 with
  | false=>some (.one (.fn f),[])
  | true=>none
 | .global _=>none
theorem C2U{c:Value}{v:AV}(h:B66 c=some v)(s:St)(m:Mem):AVC s m v c:=by
 unfold B66 at h;split at h<;>first | (injection h with h;subst h;rfl) | cases h
theorem D8{s s':St}{x:Operand}{v:AV}{rd:List (Loc×LV)}(h:L1 s x=some (v,rd)){n:Nat}{w0:World}{Z0:Gh}{a:Act}{m:Mem}
  (hr:Rel n w0 Z0 s' a m) (hrd:Reads s' rd):AVC s' m v (a.eval x):=by
 cases x with
 | tmp d=>
  simp only [L1] at h;split at h
  ·rename_i u hu;injection h with h;injection h with h1 h2;subst h1;subst h2
   exact hr.tm d u (hrd _ A5)
  ·cases h
 | const c=>
  simp only [L1] at h;split at h
  ·rename_i u hu;injection h with h;injection h with h1 h2;subst h1;subst h2
   exact C2U hu s' m
  ·cases h
 | func f=>
  simp only [L1] at h;split at h
  ·rename_i hf;injection h with h;injection h with h1 h2;subst h1
   exact (C9v hf).symm
  ·cases h
 | global g=>simp [L1] at h
theorem B9{s:St}{x:Operand}{v:AV}{rd:List (Loc×LV)}(h:L1 s x=some (v,rd)):Reads s rd:=by
 cases x with
 | tmp d=>
  simp only [L1] at h;split at h
  ·rename_i u hu;injection h with h;injection h with h1 h2;subst h1;subst h2
   intro p hp;rw [A6.1 hp];exact St.getT_some.1 hu
  ·cases h
 | const c=>
  simp only [L1] at h;split at h
  ·injection h with h;injection h with h1 h2;subst h2;intro p hp;cases hp
  ·cases h
 | func f=>
  simp only [L1] at h;split at h
  ·injection h with h;injection h with h1 h2;subst h2;intro p hp;cases hp
  ·cases h
 | global g=>simp [L1] at h
theorem Reads.app{s:St}{a b:List (Loc×LV)}:Reads s (a++b)↔Reads s a/\Reads s b:=
 ⟨fun h=>⟨fun p hp=>h p (E2 _ hp),fun p hp=>h p (D3 _ hp)⟩,
  fun h p hp=>(C9.1 hp).elim (h.1 p) (h.2 p)⟩
def lfV:Lf->Option Value
 | .int k n=>some (.int k n)
 | .bool b=>some (.bool b)
 | .str s=>some (.string s)
 | _=>none
def ofV:Value->Option Lf
 | .int k n=>some (.int k n)
 | .bool b=>some (.bool b)
 | .string s=>some (.str s)
 | _=>none
theorem B9d{l:Lf}{v:Value}(h:lfV l=some v){s:St}{m:Mem}{x:Value}(hx:LfC s m l x):x=v:=by
 cases l<;>simp [lfV] at h<;>subst h<;>exact hx
theorem C6M{l:Lf}{v:Value}(h:ofV v=some l)(s:St)(m:Mem):LfC s m l v:=by
 unfold ofV at h;split at h<;>first | (injection h with h;subst h;rfl) | cases h
def C42(op:BinOp)(t:Nat)(x y:Lf):Option Lf:=
 match lfV x,lfV y with
 | some a,some b=>match binOp op t a b with
  | .pure v=>ofV v
  | _=>none
 | _,_=>none
theorem C6N{op:BinOp}{t:Nat}{x y l:Lf}(h:C42 op t x y=some l){s:St}{m:Mem}{a b:Value}(ha:LfC s m x a)(hb:LfC s m y b)(P:Program) :
  ∃ v,(binOp op t a b).run P m.w=.ok v m.w/\LfC s m l v:=by
 unfold C42 at h;split at h
 ·rename_i va vb e1 e2;rw [B9d e1 ha,B9d e2 hb];split at h
  ·rename_i v e;exact ⟨v,by rw [e];rfl,C6M h s m⟩
  ·cases h
 ·cases h
theorem C2V{op:BinOp}{t:Nat}{x y:Operand}{s:St}{m:Mem}{l:Lf}{a b va:Value}(e:lfV l=some va)(ha:LfC s m l a)(P:Program) :
  (eqGuard op t x y a b).run P m.w=.ok () m.w:=by
 rw [B9d e ha];unfold eqGuard;cases l<;>simp [lfV] at e<;>subst e<;>(split<;>simp)
abbrev A40:Col:=fun _=>none
theorem Keeps.no(w:World)(Z:Col):Keeps w w Z A40:=fun _ _ _=>⟨rfl,rfl⟩
theorem Ro.no{k:K}{w:World}{Z:Col}{x:k.T}{cs:List Value}(h:Ro k w Z x cs):Ro k w A40 x cs:=h.keep (Keeps.no w Z)
theorem Ow.no{k:K}{w:World}{Z:Col}{p:H9}{x:k.T}{cs:List Value}(h:Ow k w Z p x cs):Ro k w A40 x cs:=h.free (fun _ _ _ _=>⟨rfl,rfl⟩) (Keeps.no w Z)
theorem OwL.no{k:K}{e:Nat}{w:World}{Z:Col}{p:H9}{xs:List k.T}{v:Value}(h:OwL (Ow k w Z) e k.sz w Z p xs v):Ro (.rs e k) w A40 xs [v]:=
 Ow.no (k:=.sl e k) (p:=p) ⟨v,rfl,h⟩
structure SL where
 e:Nat
 k:K
 xs:List k.T
def S4:(k:K)->k.T->Nat->Option SL
 | .sl e k,xs,0=>some ⟨e,k,xs⟩
 | .rs e k,xs,0=>some ⟨e,k,xs⟩
 | .pair a b,x,j=>match Nat.blt j a.sz with
  | true=>S4 a x.1 j
  | false=>S4 b x.2 (j-a.sz)
 | _,_,_=>none
theorem A0S{a b:Nat}:Nat.blt a b=true↔a<b:=by simp [L4]
theorem B1w{a b:Nat}:Nat.blt a b=false↔¬ a<b:=by rw [<- A0S];cases Nat.blt a b<;>simp
theorem B20:∀ {k:K} {w:World} {Z:Col} {x:k.T} {cs:List Value} {off:Nat} {sl:SL} {v:Value},
  Ro k w Z x cs->S4 k x off=some sl->cs[off]? = some v->Ro (.rs sl.e sl.k) w Z sl.xs [v]
 | .int _,_,_,_,_,_,_,_,_,h,_=>by simp [S4] at h
 | .bool,_,_,_,_,_,_,_,_,h,_=>by simp [S4] at h
 | .fnc _,_,_,_,_,_,_,_,_,h,_=>by simp [S4] at h
 | .str,_,_,_,_,_,_,_,_,h,_=>by simp [S4] at h
 | .pa _ _,_,_,_,_,_,_,_,_,h,_=>by simp [S4] at h
 | .sl e k,_,_,_,cs,off,sl,v,hr,h,hv=>by
  cases off with
  | zero=>
   simp only [S4] at h;injection h with h;subst h
   have hr':=hr;obtain ⟨A,c,rfl,_⟩:=hr';simp at hv;subst hv;exact hr
  | succ j=>simp [S4] at h
 | .rs e k,_,_,_,cs,off,sl,v,hr,h,hv=>by
  cases off with
  | zero=>
   simp only [S4] at h;injection h with h;subst h
   have hr':=hr;obtain ⟨A,c,rfl,_⟩:=hr';simp at hv;subst hv;exact hr
  | succ j=>simp [S4] at h
 | .pair a b,_,_,_,cs,off,sl,v,hr,h,hv=>by
  obtain ⟨c0,c1,rfl,h0,h1⟩:=hr;simp only [S4] at h;split at h
  ·rename_i e;have hlt:=A0S.1 e;rw [E3 (by rw [h0.len];exact hlt)] at hv;exact B20 h0 h hv
  ·rename_i e;have hge:=B1w.1 e;rw [E5 (by rw [h0.len];omega),h0.len] at hv;exact B20 h1 h hv
theorem B4S{e:Nat}{k:K}{w:World}{Z:Col}{xs:List k.T}{v:Value}(h:Ro (.rs e k) w Z xs [v]){lo hi:Nat}(h1:lo<=hi)(h2:hi<=xs.length) :
  Ro (.rs e k) w Z ((xs.take hi).drop lo) [cutV k.sz lo hi v]:=by
 obtain ⟨A,c,e1,hl,hm,hc⟩:=h;injection e1 with e1 _
 subst e1;have hlen:((xs.take hi).drop lo).length=hi-lo:=by rw [C5,B2];omega
 refine ⟨if c=lo then A else A.map (·.add (lo*k.sz)),c-lo,by rw [hlen];rfl,by rw [hlen];omega,by omega,fun hn=>?_⟩;rw [hlen] at hn;obtain ⟨ad,rfl,hZ,hi'⟩:=hc (by omega);rw [D6 (by omega)];refine ⟨ad.add (lo*k.sz),rfl,by rw [add_block];exact hZ,fun i hli=>?_⟩;have hlt:lo+i<xs.length:=by rw [hlen] at hli;omega
 obtain ⟨ds,hd,hr,hcell⟩:=hi' (lo+i) hlt;refine ⟨ds,hd,?_,fun j u hu=>?_⟩
 ·have:((xs.take hi).drop lo)[i]=xs[lo+i]:=by simp
  rw [this];exact hr
 ·have h3:=hcell j u hu;have hsp:ad.spot=none:=by
   obtain ⟨ds0,hd0,hr0,hcell0⟩:=hi' 0 (by omega);have h0:0<ds0.length:=by rw [hd0];exact k.sz_pos
   have:=hcell0 0 ds0[0] (by simp [h0]);simp only [A0d,D9,Addr.add,Q7] at this;unfold World.cell? at this;split at this
   ·split at this
    ·cases this
    ·rename_i hh;simpa using hh
   ·cases this
  have e4:(ad.add (lo*k.sz)).add (i*k.sz+j)=ad.add ((lo+i)*k.sz+j):=by
   obtain ⟨ab,ao,asp⟩:=ad;simp only at hsp;subst hsp;simp only [Addr.add,J7];split<;>split<;>split<;>simp_all<;>omega
  rw [e4];exact h3
def rd(k:K)(xs:List k.T)(i:Int):k.T:=xs.getD i.toNat (zd k)
theorem A8l{k:K}{xs:List k.T}{i:Int}(h:i.toNat<xs.length):rd k xs i=xs[i.toNat]:=by
 simp [rd,C2,h]
theorem B67{e:Nat}{k:K}{w:World}{Z:Col}{xs:List k.T}{v:Value}(h:Ro (.rs e k) w Z xs [v]){i:Nat}(hi:i<xs.length) :
  ∃ (c:Nat) (ad:Addr) (ds:List Value),v=.slice (some ad) xs.length c/\Z ad.block=none/\Ro k w Z xs[i] ds/\∀ j u,ds[j]? = some u->w.cell? (ad.add (i*k.sz+j))=some u:=by
 obtain ⟨A,c,e1,hl,hm,hc⟩:=h;injection e1 with e1 _
 subst e1;obtain ⟨ad,rfl,hZ,hh⟩:=hc (by omega);obtain ⟨ds,hd,hr,hcell⟩:=hh i hi;exact ⟨c,ad,ds,rfl,hZ,hr,hcell⟩
def E9(cfg:Cfg)(s:St)(t:Nat):Lf->Option (SL×List (Loc×LV))
 | .nil=>match cfg.el t with
  | some e=>match cfg.ty e with
   | some i=>some (⟨e,i.k,[]⟩,[])
   | none=>none
  | none=>none
 | .ro e k xs=>some (⟨e,k,xs⟩,[])
 | .own id=>match s.getR id with
  | some r=>some (⟨r.e,r.k,r.xs⟩,[(.r id,.r r)])
  | none=>none
 | .vw id lo hi=>match s.getR id with
  | some r=>some (⟨r.e,r.k,(r.xs.take hi).drop lo⟩,[(.r id,.r r)])
  | none=>none
 | .sub id q off ver=>match s.getR id,s.getX q with
  | some r,some i=>match Nat.beq r.ver ver with
   | true=>match S4 r.k (rd r.k r.xs i) off with
    | some sl=>some (sl,[(.r id,.r r),(.x q,.x i)])
    | none=>none
   | false=>none
  | _,_=>none
 | _=>none
theorem O2(ad:Addr)(n c:Nat):A0R (.slice (some ad) n c)=ad:=rfl
theorem B2q{cfg:Cfg}{s s':St}{t:Nat}{l:Lf}{sl:SL}{rds:List (Loc×LV)}(h:E9 cfg s t l=some (sl,rds)){n:Nat}{w0:World}{Z0:Gh}{a:Act}{m:Mem}
  (hr:Rel n w0 Z0 s' a m) (hrd:Reads s' rds) {v:Value} (hv:LfC s' m l v):Ro (.rs sl.e sl.k) m.w A40 sl.xs [v]:=by
 cases l with
 | nil=>
  simp only [E9] at h;split at h
  ·split at h
   ·injection h with h;injection h with h _;subst h
    simp only [LfC] at hv;subst hv;exact ⟨none,0,rfl,C6 _,G6 _,fun h=>by simp at h⟩
   ·cases h
  ·cases h
 | ro e k xs=>
  simp only [E9] at h;injection h with h;injection h with h _;subst h
  exact Ro.no (k:=.rs e k) hv
 | own id=>
  simp only [E9] at h;split at h
  ·rename_i r hrow;injection h with h;injection h with h1 h2;subst h1;subst h2
   have hg:=hrd _ A5;rw [hv.2 r hg];exact (hr.rw id r hg).no
  ·cases h
 | vw id lo hi=>
  simp only [E9] at h;split at h
  ·rename_i r hrow;injection h with h;injection h with h1 h2;subst h1;subst h2
   have hg:=hrd _ A5;obtain ⟨h1,h2,h3⟩:=hv.2 r hg;rw [h3];exact B4S (hr.rw id r hg).no h1 h2
  ·cases h
 | sub id q off ver=>
  simp only [E9] at h;split at h
  ·rename_i r i hrow hix;split at h
   ·rename_i hver;split at h
    ·rename_i sl' hsl;injection h with h;injection h with h1 h2;subst h1;subst h2
     have hg:=hrd (.r id,.r r) (by simp);have hq:=hrd (.x q,.x i) (by simp);obtain ⟨h0,h5⟩:=hv.2 r i hg hq;obtain ⟨h1,h2,h3,h4⟩:=h5 (A0 hver);have hno:=(hr.rw id r hg).no;obtain ⟨c,ad,ds,e1,_,hro,hcell⟩:=B67 hno h2;rw [A8l h2] at hsl;have hlen:=hro.len;have hd:ds[off]? = some ds[off]:=by simp [show off<ds.length by omega]
     have:=hcell off _ hd;rw [e1,O2] at h4;rw [this] at h4;injection h4 with h4
     exact B20 hro hsl (h4▸hd)
    ·cases h
   ·cases h
  ·cases h
 | int k n=>simp [E9] at h
 | bool b=>simp [E9] at h
 | str x=>simp [E9] at h
 | ptr b off=>simp [E9] at h
 | ept id q off=>simp [E9] at h
 | rpt k x off=>simp [E9] at h
 | rpa n k x=>simp [E9] at h
 | mp _=>simp [E9] at h
 | mpb _=>simp [E9] at h
 | apt n id=>simp [E9] at h
 | fn f=>simp [E9] at h
 | anyb=>simp [E9] at h
 | chk _ _ _ _ _=>simp [E9] at h
 | clo _ _ _=>simp [E9] at h
 | any=>simp [E9] at h
 | nilp=>simp [E9] at h
 | ext id q off ver p e k zs=>simp [E9] at h
theorem A0k{cfg:Cfg}{s:St}{t:Nat}{l:Lf}{sl:SL}{rds:List (Loc×LV)}(h:E9 cfg s t l=some (sl,rds)):Reads s rds:=by
 unfold E9 at h;split at h
 ·split at h
  ·split at h
   ·injection h with h;injection h with _ h;subst h;intro p hp;cases hp
   ·cases h
  ·cases h
 ·injection h with h;injection h with _ h;subst h;intro p hp;cases hp
 ·split at h
  ·rename_i r hr;injection h with h;injection h with _ h;subst h
   intro p hp;rw [A6.1 hp];exact St.getR_some.1 hr
  ·cases h
 ·split at h
  ·rename_i r hr;injection h with h;injection h with _ h;subst h
   intro p hp;rw [A6.1 hp];exact St.getR_some.1 hr
  ·cases h
 ·split at h
  ·rename_i r i hr hi;split at h
   ·split at h
    ·injection h with h;injection h with _ h;subst h
     intro p hp;simp only [B4,N7,A3q] at hp;rcases hp with rfl | rfl
     ·exact St.getR_some.1 hr
     ·exact St.getX_some.1 hi
    ·cases h
   ·cases h
  ·cases h
 ·cases h
abbrev Rds:=List (Loc×LV)
abbrev Kp(R:Type):=Rds->List (Nat×Int)->AV->Option R
def OutP{R:Type}(P:Program)(s:St)(op:Op)(U:Kp R)(r:R):Prop:=
 ∃ rds xw v,U rds xw v=some r/\Reads s rds/\∀ n (o:Oper),o.op=op->Pure1 P n o rds xw v
theorem Reads.nil(s:St):Reads s []:=fun _ h=>nomatch h
theorem OutP.mk'{R:Type}{P:Program}{s:St}{op:Op}{U:Kp R}{r:R}(rds:Rds)(v:AV)(hU:U rds [] v=some r)(hrd:Reads s rds)
  (h:∀ n w0 Z0 s a m (o:Oper),o.op=op->Rel n w0 Z0 s a m->Reads s rds->∃ val,(execOp a.eval o).run P m.w=.ok (.value val) m.w/\AVC s m v val):OutP P s op U r:=
 ⟨rds,[],v,hU,hrd,fun n o ho w0 Z0 s a m hr hrd _=>h n w0 Z0 s a m o ho hr hrd⟩
def C43{R:Type}(s:St)(x:Operand)(U:Kp R):Option R:=
 match L1 s x with
 | some (v,rds)=>U rds [] v
 | none=>none
theorem C0n{R:Type}{P:Program}{s:St}{x:Operand}{U:Kp R}{r:R}(h:C43 s x U=some r){op:Op}(hop:op=.move x\/op=.assign x):OutP P s op U r:=by
 unfold C43 at h;split at h
 ·rename_i v rds e;refine .mk' rds v h (B9 e) fun n w0 Z0 s' a m o ho hr hrd=>⟨a.eval x,?_,D8 e hr hrd⟩
  rcases hop with rfl | rfl<;>simp [execOp,ho]
 ·cases h
def C6O{R:Type}(s:St)(c x y:Operand)(U:Kp R):Option R:=
 match L1 s c with
 | some (.one (.bool b),rc)=>bif b then (match L1 s x with | some (v,rds)=>U (rc++rds) [] v | none=>none) else (match L1 s y with | some (v,rds)=>U (rc++rds) [] v | none=>none)
 | _=>none
theorem C6P{R:Type}{P:Program}{s:St}{c x y:Operand}{U:Kp R}{r:R}(h:C6O s c x y U=some r):OutP P s (.pick c x y) U r:=by
 unfold C6O at h;split at h
 ·rename_i b rc ec;cases b with
  | true=>
   simp only [B6] at h;split at h
   ·rename_i v rds e;refine .mk' (rc++rds) v h (Reads.app.2 ⟨B9 ec,B9 e⟩) fun n w0 Z0 s' a m o ho hr hrd=>⟨a.eval x,?_,D8 e hr (Reads.app.1 hrd).2⟩
    have hb:a.eval c=.bool true:=D8 ec hr (Reads.app.1 hrd).1;simp [execOp,ho,hb,asBool]
   ·cases h
  | false=>
   simp only [B0] at h;split at h
   ·rename_i v rds e;refine .mk' (rc++rds) v h (Reads.app.2 ⟨B9 ec,B9 e⟩) fun n w0 Z0 s' a m o ho hr hrd=>⟨a.eval y,?_,D8 e hr (Reads.app.1 hrd).2⟩
    have hb:a.eval c=.bool false:=D8 ec hr (Reads.app.1 hrd).1;simp [execOp,ho,hb,asBool]
   ·cases h
 ·cases h
def D0I{R:Type}(cfg:Cfg)(op:BinOp)(t:Nat)(x y:Lf)(U:Lf->Option R):Option R:=
 match op,x,y with
 | .quo,.int k a,.int k' b=>match decide (k=k') with
  | true=>bif b == 0 then none else U (.int k (k.wrap (a.tdiv b)))
  | false=>none
 | .rem,.int k a,.int k' b=>match decide (k=k') with
  | true=>bif b == 0 then none else U (.int k (a.tmod b))
  | false=>none
 | .shl,.int k a,.int _ b=>bif decide (b<0) then none else U (.int k (k.wrap (a*2 ^ (min b.toNat k.bits))))
 | .shr,.int k a,.int _ b=>bif decide (b<0) then none else U (.int k (a.fdiv (2 ^ (min b.toNat k.bits))))
 | .add,.str a,.str b=>bif decide (((a.size+b.size:Nat):Int)>i64.max) then none else U (.str (a++b))
 | .eql,.bool a,.bool b=>match cfg.ty t with
  | some ⟨_,.bool,_,_⟩=>U (.bool (a == b))
  | _=>none
 | .neq,.bool a,.bool b=>match cfg.ty t with
  | some ⟨_,.bool,_,_⟩=>U (.bool (!(a == b)))
  | _=>none
 | op,x,y=>match C42 op t x y with
  | some l=>U l
  | none=>none
theorem C8d{R:Type}{P:Program}{cfg:Cfg}(hc:J9 P cfg){op:BinOp}{t:Nat}{x y:Lf}{U:Lf->Option R}{r:R}(h:D0I cfg op t x y U=some r) :
  ∃ l,U l=some r/\∀ (s:St) (m:Mem) (a b:Value) (X Y:Operand),LfC s m x a->LfC s m y b->
   (eqGuard op t X Y a b).run P m.w=.ok () m.w/\∃ v,(binOp op t a b).run P m.w=.ok v m.w/\LfC s m l v:=by
 unfold D0I at h;split at h
 ·split at h
  ·rename_i k a k' b _ hk;have hk:=A8 hk;subst hk;cases hb:(b == 0) with
   | true=>rw [hb] at h;cases h
   | false=>
    rw [hb] at h;have hb':b≠0:=by simpa using hb
    refine ⟨_,h,fun s m u v X Y hu hv=>?_⟩;simp only [LfC] at hu hv;subst hu;subst hv;exact ⟨by simp [eqGuard],_,by simp [binOp,Op.intDiv,hb'],rfl⟩
  ·cases h
 ·split at h
  ·rename_i k a k' b _ hk;have hk:=A8 hk;subst hk;cases hb:(b == 0) with
   | true=>rw [hb] at h;cases h
   | false=>
    rw [hb] at h;have hb':b≠0:=by simpa using hb
    refine ⟨_,h,fun s m u v X Y hu hv=>?_⟩;simp only [LfC] at hu hv;subst hu;subst hv;exact ⟨by simp [eqGuard],_,by simp [binOp,Op.intDiv,hb'],rfl⟩
  ·cases h
 ·rename_i k a k' b;cases hb:decide (b<0) with
  | true=>rw [hb] at h;cases h
  | false=>
   rw [hb] at h;have hb':¬ b<0:=by simpa using hb
   refine ⟨_,h,fun s m u v X Y hu hv=>?_⟩;simp only [LfC] at hu hv;subst hu;subst hv;exact ⟨by simp [eqGuard],_,by simp [binOp,Op.shift,hb'],rfl⟩
 ·rename_i k a k' b;cases hb:decide (b<0) with
  | true=>rw [hb] at h;cases h
  | false=>
   rw [hb] at h;have hb':¬ b<0:=by simpa using hb
   refine ⟨_,h,fun s m u v X Y hu hv=>?_⟩;simp only [LfC] at hu hv;subst hu;subst hv;exact ⟨by simp [eqGuard],_,by simp [binOp,Op.shift,hb'],rfl⟩
 ·rename_i a b;cases hb:decide (((a.size+b.size:Nat):Int)>i64.max) with
  | true=>rw [hb] at h;cases h
  | false=>
   rw [hb] at h;have hb':¬ ((a.size+b.size:Nat):Int)>i64.max:=A74 hb;refine ⟨_,h,fun s m u v X Y hu hv=>?_⟩;simp only [LfC] at hu hv;subst hu;subst hv;refine ⟨by simp [eqGuard],_,?_,rfl⟩;simp only [binOp,Op.stringOp];rw [D6 hb'];rfl
 ·split at h
  ·rename_i a b _ _ _ _ e;refine ⟨_,h,fun s m u v X Y hu hv=>?_⟩;simp only [LfC] at hu hv;subst hu;subst hv;exact ⟨by simp [eqGuard],_,run_eql_bool m.w t a b (hc.bool e rfl),rfl⟩
  ·cases h
 ·split at h
  ·rename_i a b _ _ _ _ e;refine ⟨_,h,fun s m u v X Y hu hv=>?_⟩;simp only [LfC] at hu hv;subst hu;subst hv;exact ⟨by simp [eqGuard],_,run_neq_bool m.w t a b (hc.bool e rfl),rfl⟩
  ·cases h
 ·split at h
  ·rename_i l e;refine ⟨l,h,fun s m u v X Y hu hv=>⟨?_,C6N e hu hv P⟩⟩;unfold C42 at e;split at e
   ·rename_i va vb e1 e2;exact C2V e1 hu P
   ·cases e
  ·cases h
def ints:List Lf->Option (List Int)
 | []=>some []
 | .int .i64 n::l=>match ints l with
  | some a=>some (n::a)
  | none=>none
 | _::_=>none
theorem B9e{s:St}{m:Mem}:∀ {la:List Lf} {a:List Int} {cs:List Value},ints la=some a->All2 (LfC s m) la cs->cs=a.map (Value.int .i64)
 | [],a,[],h,_=>by simp only [ints] at h;injection h with h;subst h;rfl
 | [],a,_::_,h,h2=>by cases h2
 | l::la,a,[],h,h2=>by cases h2
 | l::la,a,c::cs,h,h2=>by
  obtain ⟨g1,g2⟩:=h2;unfold ints at h;split at h
  ·rename_i e;cases e
  ·rename_i n l' e;injection e with e1 e2
   subst e1;subst e2;split at h
   ·rename_i a' ea;injection h with h
    subst h;rw [B9e ea g2];simp only [LfC] at g1;rw [g1];rfl
   ·cases h
  ·cases h
def D0J{R:Type}(cfg:Cfg)(op:BinOp)(t:Nat)(a b:List Int)(U:Lf->Option R):Option R:=
 match cfg.eq t with
 | some n=>match Nat.blt n 1000,Nat.beq a.length n,Nat.beq b.length n with
  | true,true,true=>match op with
   | .eql=>U (.bool (eqI a b))
   | .neq=>U (.bool (!eqI a b))
   | _=>none
  | _,_,_=>none
 | none=>none
def strs:List Lf->Option (List ByteArray)
 | []=>some []
 | .str n::l=>match strs l with
  | some a=>some (n::a)
  | none=>none
 | _::_=>none
theorem B68{s:St}{m:Mem}:∀ {la:List Lf} {a:List ByteArray} {cs:List Value},strs la=some a->All2 (LfC s m) la cs->cs=a.map Value.string
 | [],a,[],h,_=>by simp only [strs] at h;injection h with h;subst h;rfl
 | [],a,_::_,h,h2=>by cases h2
 | l::la,a,[],h,h2=>by cases h2
 | l::la,a,c::cs,h,h2=>by
  obtain ⟨g1,g2⟩:=h2;unfold strs at h;split at h
  ·rename_i e;cases e
  ·rename_i n l' e;injection e with e1 e2
   subst e1;subst e2;split at h
   ·rename_i a' ea;injection h with h
    subst h;rw [B68 ea g2];simp only [LfC] at g1;rw [g1];rfl
   ·cases h
  ·cases h
def D0K{R:Type}(cfg:Cfg)(op:BinOp)(t:Nat)(a b:List ByteArray)(U:Lf->Option R):Option R:=
 match cfg.eq t with
 | some n=>match Nat.blt n 1000,Nat.blt n 2000,Nat.beq a.length (n-1000),Nat.beq b.length (n-1000) with
  | false,true,true,true=>match op with
   | .eql=>U (.bool (eqB a b))
   | .neq=>U (.bool (!eqB a b))
   | _=>none
  | _,_,_,_=>none
 | none=>none
def C2W:List Lf->Option (List (Int⊕ByteArray))
 | []=>some []
 | .str n::l=>match C2W l with
  | some a=>some (.inr n::a)
  | none=>none
 | .int .i64 n::l=>match C2W l with
  | some a=>some (.inl n::a)
  | none=>none
 | _::_=>none
theorem B69{s:St}{m:Mem}:∀ {la:List Lf} {a:List (Int⊕ByteArray)} {cs:List Value},C2W la=some a->All2 (LfC s m) la cs->cs=a.map pvM
 | [],a,[],h,_=>by simp only [C2W] at h;injection h with h;subst h;rfl
 | [],a,_::_,h,h2=>by cases h2
 | l::la,a,[],h,h2=>by cases h2
 | l::la,a,c::cs,h,h2=>by
  obtain ⟨g1,g2⟩:=h2;unfold C2W at h;split at h
  ·rename_i e;cases e
  ·rename_i n l' e;injection e with e1 e2
   subst e1;subst e2;split at h
   ·rename_i a' ea;injection h with h
    subst h;rw [B69 ea g2];simp only [LfC] at g1;rw [g1];rfl
   ·cases h
  ·rename_i n l' e;injection e with e1 e2
   subst e1;subst e2;split at h
   ·rename_i a' ea;injection h with h
    subst h;rw [B69 ea g2];simp only [LfC] at g1;rw [g1];rfl
   ·cases h
  ·cases h
def D0L{R:Type}(cfg:Cfg)(op:BinOp)(t:Nat)(a b:List (Int⊕ByteArray))(U:Lf->Option R):Option R:=
 match cfg.eq t with
 | some n=>match Nat.blt n 1000,Nat.blt n 2000,Nat.beq (B5J a) (n-2000),Nat.beq (B5J b) (n-2000) with
  | false,false,true,true=>match op with
   | .eql=>U (.bool (eqM a b))
   | .neq=>U (.bool (!eqM a b))
   | _=>none
  | _,_,_,_=>none
 | none=>none
theorem C8e{R:Type}{P:Program}{cfg:Cfg}(hc:J9 P cfg){op:BinOp}{t:Nat}{a b:List (Int⊕ByteArray)}{U:Lf->Option R}{r:R}(h:D0L cfg op t a b U=some r) :
  ∃ l,U l=some r/\∀ (s:St) (m:Mem) (X Y:Operand),(eqGuard op t X Y (.agg (B3S a)) (.agg (B3S b))).run P m.w=.ok () m.w/\∃ v,(binOp op t (.agg (B3S a)) (.agg (B3S b))).run P m.w=.ok v m.w/\LfC s m l v:=by
 unfold D0L at h;split at h
 ·rename_i n en;split at h
  ·rename_i hn hn2 ha hb;have ha:=A0 ha;have hb:=A0 hb;have he:=hc.eq en;unfold B91 at he;rw [hn,hn2] at he;have ht:=fun w=>C4w he ha hb w
   split at h
   ·exact ⟨_,h,fun s m X Y=>⟨(ht m.w).1 _ _ _,_,(ht m.w).2.1,rfl⟩⟩
   ·exact ⟨_,h,fun s m X Y=>⟨(ht m.w).1 _ _ _,_,(ht m.w).2.2,rfl⟩⟩
   ·cases h
  ·cases h
 ·cases h
theorem C8f{R:Type}{P:Program}{cfg:Cfg}(hc:J9 P cfg){op:BinOp}{t:Nat}{a b:List ByteArray}{U:Lf->Option R}{r:R}(h:D0K cfg op t a b U=some r) :
  ∃ l,U l=some r/\∀ (s:St) (m:Mem) (X Y:Operand),(eqGuard op t X Y (.agg (A9P a)) (.agg (A9P b))).run P m.w=.ok () m.w/\∃ v,(binOp op t (.agg (A9P a)) (.agg (A9P b))).run P m.w=.ok v m.w/\LfC s m l v:=by
 unfold D0K at h;split at h
 ·rename_i n en;split at h
  ·rename_i hn hn2 ha hb;have ha:=A0 ha;have hb:=A0 hb;have he:=hc.eq en;unfold B91 at he;rw [hn,hn2] at he;have ht:=fun w=>C4v he ha hb w
   split at h
   ·exact ⟨_,h,fun s m X Y=>⟨(ht m.w).1 _ _ _,_,(ht m.w).2.1,rfl⟩⟩
   ·exact ⟨_,h,fun s m X Y=>⟨(ht m.w).1 _ _ _,_,(ht m.w).2.2,rfl⟩⟩
   ·cases h
  ·cases h
 ·cases h
theorem C8g{R:Type}{P:Program}{cfg:Cfg}(hc:J9 P cfg){op:BinOp}{t:Nat}{a b:List Int}{U:Lf->Option R}{r:R}(h:D0J cfg op t a b U=some r) :
  ∃ l,U l=some r/\∀ (s:St) (m:Mem) (X Y:Operand),(eqGuard op t X Y (.agg (A63 a)) (.agg (A63 b))).run P m.w=.ok () m.w/\∃ v,(binOp op t (.agg (A63 a)) (.agg (A63 b))).run P m.w=.ok v m.w/\LfC s m l v:=by
 unfold D0J at h;split at h
 ·rename_i n en;split at h
  ·rename_i hn ha hb;have ha:=A0 ha;have hb:=A0 hb;have he:=hc.eq en;unfold B91 at he;rw [hn] at he;have ht:=fun w=>C6I he ha hb w
   split at h
   ·exact ⟨_,h,fun s m X Y=>⟨(ht m.w).1 _ _ _,_,(ht m.w).2.1,rfl⟩⟩
   ·exact ⟨_,h,fun s m X Y=>⟨(ht m.w).1 _ _ _,_,(ht m.w).2.2,rfl⟩⟩
   ·cases h
  ·cases h
 ·cases h
def D0M{R:Type}(cfg:Cfg)(s:St)(op:BinOp)(t:Nat)(x y:Operand)(U:Kp R):Option R:=
 match L1 s x,L1 s y with
 | some (.one lx,rx),some (.one ly,ry)=>D0I cfg op t lx ly fun l=>U (rx++ry) [] (.one l)
 | some (.agg la,rx),some (.agg lb,ry)=>match ints la,ints lb with
  | some a,some b=>D0J cfg op t a b fun l=>U (rx++ry) [] (.one l)
  | _,_=>match strs la,strs lb with
   | some a,some b=>D0K cfg op t a b fun l=>U (rx++ry) [] (.one l)
   | _,_=>match C2W la,C2W lb with
    | some a,some b=>D0L cfg op t a b fun l=>U (rx++ry) [] (.one l)
    | _,_=>none
 | _,_=>none
theorem C8h{R:Type}{P:Program}{cfg:Cfg}(hc:J9 P cfg){s:St}{op:BinOp}{t:Nat}{x y:Operand}{U:Kp R}{r:R}(h:D0M cfg s op t x y U=some r)(yt:Nat) :
  OutP P s (.binOp op t x y yt) U r:=by
 unfold D0M at h;split at h
 ·rename_i lx rx ly ry ex ey;obtain ⟨l,hU,hl⟩:=C8d hc h;refine .mk' (rx++ry) (.one l) hU (Reads.app.2 ⟨B9 ex,B9 ey⟩) fun n w0 Z0 s' a m o ho hr hrd=>?_
  obtain ⟨hg,v,hrun,hv⟩:=hl s' m (a.eval x) (a.eval y) x y (D8 ex hr (Reads.app.1 hrd).1) (D8 ey hr (Reads.app.1 hrd).2);exact ⟨v,by simp [execOp,ho,C4,hg,hrun],hv⟩
 ·rename_i la rx lb ry ex ey;split at h
  ·rename_i va vb ea eb;obtain ⟨l,hU,hl⟩:=C8g hc h;refine .mk' (rx++ry) (.one l) hU (Reads.app.2 ⟨B9 ex,B9 ey⟩) fun n w0 Z0 s' a m o ho hr hrd=>?_
   obtain ⟨ca,e1,h1⟩:=D8 ex hr (Reads.app.1 hrd).1;obtain ⟨cb,e2,h2⟩:=D8 ey hr (Reads.app.1 hrd).2;obtain ⟨hg,v,hrun,hv⟩:=hl s' m x y;rw [B9e ea h1] at e1;rw [B9e eb h2] at e2;exact ⟨v,by rw [execOp,ho];simp only [C4];rw [show a.eval x=.agg (A63 va) from e1,show a.eval y=.agg (A63 vb) from e2,hg];simp [hrun],hv⟩
  ·split at h
   ·rename_i va vb ea eb;obtain ⟨l,hU,hl⟩:=C8f hc h;refine .mk' (rx++ry) (.one l) hU (Reads.app.2 ⟨B9 ex,B9 ey⟩) fun n w0 Z0 s' a m o ho hr hrd=>?_
    obtain ⟨ca,e1,h1⟩:=D8 ex hr (Reads.app.1 hrd).1;obtain ⟨cb,e2,h2⟩:=D8 ey hr (Reads.app.1 hrd).2;obtain ⟨hg,v,hrun,hv⟩:=hl s' m x y;rw [B68 ea h1] at e1;rw [B68 eb h2] at e2;exact ⟨v,by rw [execOp,ho];simp only [C4];rw [show a.eval x=.agg (A9P va) from e1,show a.eval y=.agg (A9P vb) from e2,hg];simp [hrun],hv⟩
   ·split at h
    ·rename_i va vb ea eb;obtain ⟨l,hU,hl⟩:=C8e hc h;refine .mk' (rx++ry) (.one l) hU (Reads.app.2 ⟨B9 ex,B9 ey⟩) fun n w0 Z0 s' a m o ho hr hrd=>?_
     obtain ⟨ca,e1,h1⟩:=D8 ex hr (Reads.app.1 hrd).1;obtain ⟨cb,e2,h2⟩:=D8 ey hr (Reads.app.1 hrd).2;obtain ⟨hg,v,hrun,hv⟩:=hl s' m x y;rw [B69 ea h1] at e1;rw [B69 eb h2] at e2;exact ⟨v,by rw [execOp,ho];simp only [C4];rw [show a.eval x=.agg (B3S va) from e1,show a.eval y=.agg (B3S vb) from e2,hg];simp [hrun],hv⟩
    ·cases h
 ·cases h
def pUn{R:Type}(s:St)(op:UnOp)(x:Operand)(U:Kp R):Option R:=
 match L1 s x with
 | some (.one lx,rx)=>match lfV lx with
  | some v=>match Op.unary op v with
   | .pure u=>match ofV u with
    | some l=>U rx [] (.one l)
    | none=>none
   | _=>none
  | none=>none
 | _=>none
theorem D0N{R:Type}{P:Program}{s:St}{op:UnOp}{x:Operand}{U:Kp R}{r:R}(h:pUn s op x U=some r)(t:Nat):OutP P s (.unOp op t x) U r:=by
 unfold pUn at h;split at h
 ·rename_i lx rx ex;split at h
  ·rename_i v ev;split at h
   ·rename_i u eu;split at h
    ·rename_i l el;refine .mk' rx (.one l) h (B9 ex) fun n w0 Z0 s' a m o ho hr hrd=>⟨u,?_,C6M el s' m⟩
     have hx:a.eval x=v:=B9d ev (D8 ex hr hrd);simp [execOp,ho,hx,eu]
    ·cases h
   ·cases h
  ·cases h
 ·cases h
theorem R9{P:Program}{t:Nat}{d:TypeDesc}(h:P.underlying t=some d)(w:World):(underlying t).run P w=.ok d w:=F9 h w
def C2a(cfg:Cfg)(t:Nat):Option IntKind:=match cfg.ty t with | some ⟨_,.int U,_,_⟩=>some U | _=>none
def A47(cfg:Cfg)(t:Nat):Bool:=match cfg.ty t with | some ⟨_,.str,_,_⟩=>true | _=>false
theorem B6A{P:Program}{cfg:Cfg}(hc:J9 P cfg){t:Nat}{U:IntKind}(h:C2a cfg t=some U):P.underlying t=some (.int U):=by
 unfold C2a at h;split at h
 ·rename_i e;injection h with h;subst h;exact hc.int e rfl
 ·cases h
theorem A34{P:Program}{cfg:Cfg}(hc:J9 P cfg){t:Nat}(h:A47 cfg t=true):P.underlying t=some .string:=by
 unfold A47 at h;split at h
 ·rename_i e;exact hc.str e rfl
 ·cases h
def strOf(xs:List Int):ByteArray:=strOfNums xs
def C6Q{R:Type}(cfg:Cfg)(s:St)(src dst:Nat)(x:Operand)(U:Kp R):Option R:=
 match L1 s x with
 | some (.one (.int k n),rx)=>match cfg.ty src,C2a cfg dst with
  | some _,some U'=>U rx [] (.one (.int U' (U'.wrap n)))
  | _,_=>none
 | some (.one (.str b),rx)=>match cfg.ty src,A47 cfg dst with
  | some _,true=>U rx [] (.one (.str b))
  | _,_=>none
 | some (.one l,rx)=>match cfg.el src,A47 cfg dst with
  | some e,true=>match C2a cfg e with
   | some .u8=>match E9 cfg s src l with
    | some (⟨_,.int .u8,xs⟩,rl)=>U (rx++rl) [] (.one (.str (strOf xs)))
    | _=>none
   | _=>none
  | _,_=>none
 | _=>none
theorem cell_spot{w:World}{a:Addr}{v:Value}(h:w.cell? a=some v):a.spot=none:=by
 unfold World.cell? at h;split at h
 ·split at h
  ·cases h
  ·rename_i hh;simpa using hh
 ·cases h
theorem add_plain(g o n:Nat):(⟨g,o,none⟩:Addr).add n=⟨g,o+n,none⟩:=by unfold Addr.add;split<;>simp_all
theorem C50{P:Program}{w:World}{Z:Col}{e e' src dst:Nat}{xs:List Int}{v:Value}(h:Ro (.rs e' (.int .u8)) w Z xs [v])
  (hs:P.underlying src=some (.slice e)) (he:P.underlying e=some (.int .u8)) (hd:P.underlying dst=some .string) :
  (convert src dst v).run P w=.ok (.string (strOf xs)) w:=by
 obtain ⟨A,c,e1,hl,hm,hc⟩:=h;injection e1 with e1 _
 subst e1;cases A with
 | none=>
  have hn:xs = []:=by
   cases xs with
   | nil=>rfl
   | cons x xs=>obtain ⟨ad,h,_⟩:=hc (by simp);cases h
  subst hn;rw [run_convert_bytes_nil w src e hs he _ _ dst hd];rfl
 | some ad=>
  by_cases hn:0<xs.length
  ·obtain ⟨ad',e2,hZ,hi⟩:=hc hn;injection e2 with e2;subst e2
   obtain ⟨ds,hd0,hr,hcell⟩:=hi 0 hn;have hsp:ad.spot=none:=by
    have h1:0<ds.length:=by rw [hd0];exact T7
    have:=cell_spot (hcell 0 ds[0] (by simp [h1]));simpa [Addr.add] using this
   obtain ⟨b,off,sp⟩:=ad;simp only at hsp;subst hsp;refine run_convert_bytes_arg w src e hs he b off _ c xs rfl (fun i hi'=>?_) dst hd;obtain ⟨ds,hd,hr,hcell⟩:=hi i hi';simp only [Ro] at hr;subst hr;have:=hcell 0 (.int .u8 xs[i]) (by simp);simp only [K.sz,A0P,J0,add_plain] at this;rw [this];simp [C2,hi']
  ·have hn:xs = []:=F0 (by omega);subst hn;have hl0:(loadCells ad 0).run P w=.ok (([]:List Int).map (Value.int .u8)).toArray w:=rfl;rw [show ([]:List Int).length=0 from rfl,run_convert_bytes_string w src dst e _ _ _ hs he hd,run_bytesToString w ad 0 c [] hl0];rfl
theorem C6R{R:Type}{P:Program}{cfg:Cfg}(hc:J9 P cfg){s:St}{src dst:Nat}{x:Operand}{U:Kp R}{r:R}(h:C6Q cfg s src dst x U=some r) :
  OutP P s (.convert src dst x) U r:=by
 unfold C6Q at h;split at h
 ·rename_i k n rx ex;split at h
  ·rename_i ti U' e1 e2;refine .mk' rx _ h (B9 ex) fun n0 w0 Z0 s' a m o ho hr hrd=>⟨_,?_,rfl⟩
   have hx:a.eval x=.int k n:=D8 ex hr hrd;obtain ⟨d,hd,_⟩:=hc.agg e1;have h2:=R9 (B6A hc e2) m.w;have h1:=R9 hd m.w;simp [execOp,ho,hx,convert,h1,h2,Conv.intToInt]
  ·cases h
 ·rename_i b rx ex;split at h
  ·rename_i ti e1 e2;refine .mk' rx _ h (B9 ex) fun n0 w0 Z0 s' a m o ho hr hrd=>⟨_,?_,rfl⟩
   have hx:a.eval x=.string b:=D8 ex hr hrd;obtain ⟨d,hd,_⟩:=hc.agg e1;have h2:=R9 (A34 hc e2) m.w;have h1:=R9 hd m.w;simp [execOp,ho,hx,convert,h1,h2]
  ·cases h
 ·rename_i l rx _ _ ex;split at h
  ·rename_i e e1 e2;split at h
   ·rename_i e3;split at h
    ·rename_i xs rl e4;refine .mk' (rx++rl) _ h (Reads.app.2 ⟨B9 ex,A0k e4⟩) fun n0 w0 Z0 s' a m o ho hr hrd=>⟨_,?_,rfl⟩
     have hro:=B2q e4 hr (Reads.app.1 hrd).2 (D8 ex hr (Reads.app.1 hrd).1);have:=C50 (P:=P) hro (hc.el e1) (B6A hc e3) (A34 hc e2);simp [execOp,ho,C4,this]
    ·cases h
   ·cases h
  ·cases h
 ·cases h
def A5j(agg:Bool)(ls:List Lf):Option AV:=
 match agg with
 | true=>some (.agg ls)
 | false=>match ls with
  | [l]=>some (.one l)
  | _=>none
theorem B21{agg:Bool}{ls:List Lf}{v:AV}(h:A5j agg ls=some v){s:St}{m:Mem}{cs:List Value}(hc:All2 (LfC s m) ls cs) :
  (agg=true->AVC s m v (.agg cs.toArray))/\(agg=false->∃ c,cs = [c]/\AVC s m v c):=by
 unfold A5j at h;split at h
 ·injection h with h;subst h
  exact ⟨fun _=>⟨cs,rfl,hc⟩,fun h=>nomatch h⟩
 ·split at h
  ·injection h with h;subst h
   refine ⟨fun h=>(nomatch h),fun _=>?_⟩
   match cs,hc with
   | [c],hc=>exact ⟨c,rfl,hc.1⟩
  ·cases h
theorem A8m{P:Program}{t:Nat}{d:TypeDesc}(h:P.underlying t=some d)(w:World):(isAgg t).run P w=.ok (B2p d) w:=by
 unfold isAgg;rw [C4,F9 h w];cases d<;>rfl
theorem A5J{P:Program}{t:Nat}{i:TypeInfo}(h:P.info? t=some i)(w:World):(sizeOf t).run P w=.ok i.size w:=by
 simp [sizeOf,typeInfo,h]
theorem extract_toList(cs:List Value)(a b:Nat):cs.toArray.extract a b=((cs.drop a).take (b-a)).toArray:=by
 apply Array.ext';simp [List.extract_eq_take_drop]
theorem C6S{P:Program}{fd:Field}{f:Nat×Nat×Bool}(hf:B6U P fd f){cs:List Value}{v:AV}{s:St}{m:Mem}{ls:List Lf}
  (hp:A5j f.2.2 ((ls.drop f.1).take f.2.1)=some v) (hc:All2 (LfC s m) ls cs):∃ x,(part fd.type cs.toArray fd.offset).run P m.w=.ok x m.w/\AVC s m v x:=by
 obtain ⟨h1,h2⟩:=B21 hp ((hc.drop f.1).take f.2.1);obtain ⟨d,hd,hagg⟩:=hf.agg;obtain ⟨i,hi,hs⟩:=hf.info;unfold part;cases hf2:f.2.2 with
 | true=>
  refine ⟨_,?_,h1 hf2⟩;simp [C4,A8m hd,hagg,hf2,A5J hi,hs,hf.off,extract_toList]
 | false=>
  obtain ⟨c,hc1,hv⟩:=h2 hf2;refine ⟨c,?_,hv⟩;have hcell:cs[f.1]? = some c:=by
   have:((cs.drop f.1).take f.2.1)[0]? = some c:=by rw [hc1];rfl
   rw [F8 hf.pos,F3] at this;simpa using this
  simp [C4,A8m hd,hagg,hf2,hf.off,hcell]
def C2b{R:Type}(cfg:Cfg)(s:St)(t:Nat)(x:Operand)(f:Nat)(U:Kp R):Option R:=
 match L1 s x,cfg.ty t with
 | some (.agg ls,rx),some ⟨true,_,_,fl⟩=>match fl[f]? with
  | some (o,n,b)=>match A5j b ((ls.drop o).take n) with
   | some v=>U rx [] v
   | none=>none
  | none=>none
 | _,_=>none
theorem C51{R:Type}{P:Program}{cfg:Cfg}(hc:J9 P cfg){s:St}{t:Nat}{x:Operand}{f:Nat}{U:Kp R}{r:R}(h:C2b cfg s t x f U=some r):OutP P s (.field t x f) U r:=by
 unfold C2b at h;split at h
 ·rename_i ls rx k by_ fl ex et;split at h
  ·rename_i o n b ef;split at h
   ·rename_i v ev;refine .mk' rx v h (B9 ex) fun n0 w0 Z0 s' a m oo ho hr hrd=>?_
    obtain ⟨cs,hx,hcs⟩:=D8 ex hr hrd;obtain ⟨fs,hu,_,hfs⟩:=hc.st et rfl;obtain ⟨fd,hfd,hok⟩:=hfs f _ ef;obtain ⟨y,hrun,hv⟩:=C6S hok ev hcs;refine ⟨y,?_,hv⟩;simp [execOp,ho,hx,Instr.field,C4,R9 hu,hfd,asAgg,hrun]
   ·cases h
  ·cases h
 ·cases h
def B6V{R:Type}(s:St)(x:Operand)(i:Nat)(U:Kp R):Option R:=
 match L1 s x with
 | some (.tup ps,rx)=>match ps[i]? with
  | some (b,ls)=>match A5j b ls with
   | some v=>U rx [] v
   | none=>none
  | none=>none
 | _=>none
def D0O{R:Type}(s:St)(g:Nat)(fs cs:Array Operand)(U:Kp R):Option R:=
 match fs.toList,cs.toList with
 | [],[x]=>match L1 s x with
  | some (.one (.ptr b off),rx)=>U rx [] (.one (.clo g b off))
  | _=>none
 | _,_=>none
theorem C8i{R:Type}{P:Program}{s:St}{g:Nat}{fs cs:Array Operand}{U:Kp R}{r:R}(h:D0O s g fs cs U=some r):OutP P s (.makeFunc (.func g) fs cs) U r:=by
 unfold D0O at h;split at h
 ·rename_i x e1 e2;have e1:fs=#[]:=by rw [<- R6 (xs:=fs),e1]
  have e2:cs=#[x]:=by rw [<- R6 (xs:=cs),e2]
  subst e1;subst e2;split at h
  ·rename_i b off rx ex;refine .mk' rx _ h (B9 ex) fun n0 w0 Z0 s' a m oo ho hr hrd=>?_
   obtain ⟨h1,h2⟩:=D8 ex hr hrd;exact ⟨.func (.func g) #[] #[a.eval x],by simp [execOp,ho,Instr.makeFunc],_,rfl,h1,h2⟩
  ·cases h
 ·cases h
theorem C0o{R:Type}{P:Program}{s:St}{x:Operand}{i:Nat}{U:Kp R}{r:R}(h:B6V s x i U=some r):OutP P s (.extract x i) U r:=by
 unfold B6V at h;split at h
 ·rename_i ps rx ex;split at h
  ·rename_i b ls ep;split at h
   ·rename_i v ev;refine .mk' rx v h (B9 ex) fun n0 w0 Z0 s' a m oo ho hr hrd=>?_
    obtain ⟨vs,hx,hvs⟩:=D8 ex hr hrd;obtain ⟨y,hy,hpc⟩:=hvs.get ep;refine ⟨y,?_,?_⟩
    ·simp [execOp,ho,hx,Instr.extract,hy]
    ·cases b with
     | true=>
      obtain ⟨cs,rfl,hcs⟩:=hpc;exact (B21 ev hcs).1 rfl
     | false=>
      obtain ⟨l,rfl,hl⟩:=hpc;simp only [A5j] at ev;injection ev with ev;subst ev;exact hl
   ·cases h
  ·cases h
 ·cases h
theorem add_add(ad:Addr)(h:ad.spot=none)(a b:Nat):(ad.add a).add b=ad.add (a+b):=by
 obtain ⟨ab,ao,asp⟩:=ad;simp only at h;subst h;simp only [add_plain];rw [L9]
def B2r{R:Type}(cfg:Cfg)(s:St)(t:Nat)(x:Operand)(f:Nat)(U:Kp R):Option R:=
 match L1 s x,cfg.ty t with
 | some (.one l,rx),some ⟨true,_,_,fl⟩=>match fl[f]? with
  | some (o,_,_)=>match l with
   | .ptr b off=>match s.getB b with
    | some c=>U (rx ++ [(.b b,.b c)]) [] (.one (.ptr b (off+o)))
    | none=>none
   | .ept id q off=>match s.getR id,s.getX q with
    | some r,some i=>U (rx ++ [(.r id,.r r),(.x q,.x i)]) [] (.one (.ept id q (off+o)))
    | _,_=>none
   | .rpt k y off=>U rx [] (.one (.rpt k y (off+o)))
   | _=>none
  | none=>none
 | _,_=>none
theorem C6T{k:K}{e:Nat}{w:World}{Z:Col}{p:H9}{xs:List k.T}{v:Value}(h:OwL (Ow k w Z) e k.sz w Z p xs v):(A0R v).spot=none:=by
 obtain ⟨inner,ho,_⟩:=h;rcases ho.2 with ⟨rfl,_⟩ | ⟨g,cap,cur,fz,rfl,_⟩<;>rfl
theorem B8H{R:Type}{P:Program}{cfg:Cfg}(hc:J9 P cfg){s:St}{t:Nat}{x:Operand}{f:Nat}{U:Kp R}{r:R}(h:B2r cfg s t x f U=some r):OutP P s (.fieldAddr t x f) U r:=by
 unfold B2r at h;split at h
 ·rename_i l rx k by_ fl ex et;split at h
  ·rename_i o n b ef;have hplace:∀ (w:World) (ad:Addr),∃ fs,P.underlying t=some (.struct fs)/\∃ fd,fs[f]? = some fd/\(fieldPlace ad fd).run P w=.ok (ad.add o) w:=by
    intro w ad;obtain ⟨fs,hu,_,hfs⟩:=hc.st et rfl;obtain ⟨fd,hfd,hok⟩:=hfs f _ ef;refine ⟨fs,hu,fd,hfd,?_⟩;obtain ⟨i,hi,hs⟩:=hok.info;have hpos:=hok.pos;have hne:i.size≠0:=by rw [hs];omega
    have hoff:fd.offset=o:=hok.off;simp [fieldPlace,C4,A5J hi,hne,hoff]
   have hrun:∀ (a:Act) (w:World) (oo:Oper) (ad:Addr),oo.op=.fieldAddr t x f->a.eval x=.pointer (some ad)->(execOp a.eval oo).run P w=.ok (.value (.pointer (some (ad.add o)))) w:=by
    intro a w oo ad ho hx;obtain ⟨fs,hu,fd,hfd,hp⟩:=hplace w ad;simp [execOp,ho,hx,Instr.fieldAt,C4,R9 hu,hfd,Instr.sureAddr,hp]
   split at h
   ·rename_i b' off;split at h
    ·rename_i c ec;refine .mk' _ _ h (Reads.app.2 ⟨B9 ex,fun p hp=>by rw [A6.1 hp];exact St.getB_some.1 ec⟩) fun n0 w0 Z0 s' a m oo ho hr hrd=>?_
     have hx:=(D8 ex hr (Reads.app.1 hrd).1).2 c ((Reads.app.1 hrd).2 _ A5);refine ⟨_,hrun a m.w oo _ ho hx,rfl,fun c' hc'=>?_⟩;rw [add_plain,L9]
    ·cases h
   ·rename_i id q off;split at h
    ·rename_i row i er ei;refine .mk' _ _ h (Reads.app.2 ⟨B9 ex,fun p hp=>?_⟩) fun n0 w0 Z0 s' a m oo ho hr hrd=>?_
     ·simp only [B4,N7,A3q] at hp;rcases hp with rfl | rfl
      ·exact St.getR_some.1 er
      ·exact St.getX_some.1 ei
     ·have h1:=(Reads.app.1 hrd).2 (.r id,.r row) (by simp);have h2:=(Reads.app.1 hrd).2 (.x q,.x i) (by simp);obtain ⟨hx1,hx2,hx⟩:=(D8 ex hr (Reads.app.1 hrd).1).2 row i h1 h2;refine ⟨_,hrun a m.w oo _ ho hx,rfl,fun r' i' hr' hi'=>?_⟩;rw [h1] at hr';rw [h2] at hi';injection hr' with hr';injection hr' with hr';subst hr'
      injection hi' with hi';injection hi' with hi';subst hi'
      refine ⟨hx1,hx2,?_⟩;rw [add_add _ (C6T (hr.rw id row h1)),L9]
    ·cases h
   ·rename_i k' y off;refine .mk' _ _ h (B9 ex) fun n0 w0 Z0 s' a m oo ho hr hrd=>?_
    obtain ⟨ad,ds,hro,hZ,hcell,hx⟩:=D8 ex hr hrd;refine ⟨_,hrun a m.w oo _ ho hx,ad,ds,hro,hZ,hcell,?_⟩;have hsp:ad.spot=none:=by
     have h0:0<ds.length:=by rw [hro.len];exact k'.sz_pos
     have:=cell_spot (hcell 0 ds[0] (by simp [h0]));simpa [Addr.add] using this
    rw [add_add _ hsp]
   ·cases h
  ·cases h
 ·cases h
def D0P{R:Type}(s:St)(x:Operand)(U:Kp R):Option R:=
 match L1 s x with
 | some (.one l,rx)=>match l with
  | .ptr b off=>match s.getB b with
   | some c=>U (rx ++ [(.b b,.b c)]) [] (.one (.ptr b off))
   | none=>none
  | .ept id q off=>match s.getR id,s.getX q with
   | some r,some i=>U (rx ++ [(.r id,.r r),(.x q,.x i)]) [] (.one (.ept id q off))
   | _,_=>none
  | .rpt k y off=>U rx [] (.one (.rpt k y off))
  | .rpa n k xs=>bif decide (0<xs.length) then U rx [] (.one (.rpa n k xs)) else none
  | .apt n id=>match s.getR id with
   | some r=>U (rx ++ [(.r id,.r r)]) [] (.one (.apt n id))
   | none=>none
  | _=>none
 | _=>none
theorem C8j{R:Type}{P:Program}{s:St}{x:Operand}{U:Kp R}{r:R}(h:D0P s x U=some r):OutP P s (.nilCheck x) U r:=by
 unfold D0P at h;have hrun:∀ (a:Act) (w:World) (oo:Oper) (ad:Addr),oo.op=.nilCheck x->a.eval x=.pointer (some ad)->(execOp a.eval oo).run P w=.ok (.value (.pointer (some ad))) w:=by
  intro a w oo ad ho hx;simp [execOp,ho,hx]
 split at h
 ·rename_i l rx ex;split at h
  ·rename_i b' off;split at h
   ·rename_i c ec;refine .mk' _ _ h (Reads.app.2 ⟨B9 ex,fun p hp=>by rw [A6.1 hp];exact St.getB_some.1 ec⟩) fun n0 w0 Z0 s' a m oo ho hr hrd=>?_
    have hx0:=D8 ex hr (Reads.app.1 hrd).1;have hx:=hx0.2 c ((Reads.app.1 hrd).2 _ A5);exact ⟨_,hrun a m.w oo _ ho hx,hx▸hx0⟩
   ·cases h
  ·rename_i id q off;split at h
   ·rename_i row i er ei;refine .mk' _ _ h (Reads.app.2 ⟨B9 ex,fun p hp=>?_⟩) fun n0 w0 Z0 s' a m oo ho hr hrd=>?_
    ·simp only [B4,N7,A3q] at hp;rcases hp with rfl | rfl
     ·exact St.getR_some.1 er
     ·exact St.getX_some.1 ei
    ·have h1:=(Reads.app.1 hrd).2 (.r id,.r row) (by simp);have h2:=(Reads.app.1 hrd).2 (.x q,.x i) (by simp);have hx0:=D8 ex hr (Reads.app.1 hrd).1;obtain ⟨hx1,hx2,hx⟩:=hx0.2 row i h1 h2;exact ⟨_,hrun a m.w oo _ ho hx,hx▸hx0⟩
   ·cases h
  ·rename_i k' y off;refine .mk' _ _ h (B9 ex) fun n0 w0 Z0 s' a m oo ho hr hrd=>?_
   have hx0:=D8 ex hr hrd;have hx0':=hx0;obtain ⟨ad,ds,hro,hZ,hcell,hx⟩:=hx0;exact ⟨_,hrun a m.w oo _ ho hx,hx▸hx0'⟩
  ·rename_i n k' xs;cases hd:decide (0<xs.length) with
   | false=>rw [hd] at h;cases h
   | true=>
    rw [hd] at h;have hd:=A8 hd;refine .mk' _ _ h (B9 ex) fun n0 w0 Z0 s' a m oo ho hr hrd=>?_
    have hx0:Ro (.pa n k') m.w m.Z xs [a.eval x]:=D8 ex hr hrd;have hx0':=hx0;rcases hx0 with ⟨_,e⟩ | ⟨ad,e,_⟩
    ·rw [e] at hd;simp at hd
    ·injection e with e
     exact ⟨_,hrun a m.w oo _ ho e,e▸hx0'⟩
  ·rename_i n id;split at h
   ·rename_i row er;refine .mk' _ _ h (Reads.app.2 ⟨B9 ex,fun p hp=>by rw [A6.1 hp];exact St.getR_some.1 er⟩) fun n0 w0 Z0 s' a m oo ho hr hrd=>?_
    have hx0:=D8 ex hr (Reads.app.1 hrd).1;have hx:=(hx0.2 row ((Reads.app.1 hrd).2 _ A5)).2;exact ⟨_,hrun a m.w oo _ ho hx,hx▸hx0⟩
   ·cases h
  ·cases h
 ·cases h
def leaves:(k:K)->k.T->(Nat->Lf)->Nat->List Lf
 | .int U,n,_,_=> [.int U n]
 | .bool,b,_,_=> [.bool b]
 | .fnc f,_,_,_=> [.fn f]
 | .str,s,_,_=> [.str s]
 | .sl _ _,_,mk,j=> [mk j]
 | .rs e k,xs,_,_=> [.ro e k xs]
 | .pa n k,xs,_,_=> [.rpa n k xs]
 | .pair a b,x,mk,j=>leaves a x.1 mk j++leaves b x.2 mk (j+a.sz)
def B0k:(k:K)->k.T->List Lf
 | .int U,n=> [.int U n]
 | .bool,b=> [.bool b]
 | .fnc f,_=> [.fn f]
 | .str,s=> [.str s]
 | .sl e k,xs=> [.ro e k xs]
 | .rs e k,xs=> [.ro e k xs]
 | .pa n k,xs=> [.rpa n k xs]
 | .pair a b,x=>B0k a x.1++B0k b x.2
theorem B22:∀ {k:K} {s:St} {m:Mem} {p:H9} {x:k.T} {cs:List Value} {mk:Nat->Lf} {j:Nat},Ow k m.w m.Z p x cs->
  (∀ i v,cs[i]? = some v->LfC s m (mk (j+i)) v)->All2 (LfC s m) (leaves k x mk j) cs
 | .int _,_,_,_,_,_,_,_,h,_=>by simp only [Ow] at h;subst h;exact ⟨rfl,trivial⟩
 | .bool,_,_,_,_,_,_,_,h,_=>by simp only [Ow] at h;subst h;exact ⟨rfl,trivial⟩
 | .fnc _,_,_,_,_,_,_,_,h,_=>by simp only [Ow] at h;subst h;exact ⟨rfl,trivial⟩
 | .str,_,_,_,_,_,_,_,h,_=>by simp only [Ow] at h;subst h;exact ⟨rfl,trivial⟩
 | .sl _ _,_,_,_,_,_,_,_,h,hm=>by obtain ⟨v,rfl,_⟩:=h;exact ⟨hm 0 v rfl,trivial⟩
 | .rs _ _,_,_,_,_,_,_,_,h,hm=>by
  have h':=h;obtain ⟨A,c,rfl,_⟩:=h;exact ⟨h',trivial⟩
 | .pa _ _,_,_,_,_,_,_,_,h,hm=>by
  have h':=h;rcases h with ⟨rfl,_⟩ | ⟨A,rfl,_⟩<;>exact ⟨h',trivial⟩
 | .pair a b,s,m,p,x,cs,mk,j,h,hm=>by
  obtain ⟨c0,c1,rfl,h0,h1⟩:=h;refine All2.app (B22 h0 fun i v hv=>?_) (B22 h1 fun i v hv=>?_)
  ·refine hm i v ?_;rw [E3 (C3.1 hv).1];exact hv
  ·have:=hm (c0.length+i) v (by rw [E5 (by omega)];simpa using hv);rw [h0.len] at this;rw [L9];exact this
theorem B0l:∀ {k:K} {s:St} {m:Mem} {x:k.T} {cs:List Value},Ro k m.w m.Z x cs->All2 (LfC s m) (B0k k x) cs
 | .int _,_,_,_,_,h=>by simp only [Ro] at h;subst h;exact ⟨rfl,trivial⟩
 | .bool,_,_,_,_,h=>by simp only [Ro] at h;subst h;exact ⟨rfl,trivial⟩
 | .fnc _,_,_,_,_,h=>by simp only [Ro] at h;subst h;exact ⟨rfl,trivial⟩
 | .str,_,_,_,_,h=>by simp only [Ro] at h;subst h;exact ⟨rfl,trivial⟩
 | .sl _ _,_,_,_,_,h=>by
  have h':=h;obtain ⟨A,c,rfl,_⟩:=h;exact ⟨h',trivial⟩
 | .rs _ _,_,_,_,_,h=>by
  have h':=h;obtain ⟨A,c,rfl,_⟩:=h;exact ⟨h',trivial⟩
 | .pa _ _,_,_,_,_,h=>by
  have h':=h;rcases h with ⟨rfl,_⟩ | ⟨A,rfl,_⟩<;>exact ⟨h',trivial⟩
 | .pair a b,s,m,x,cs,h=>by
  obtain ⟨c0,c1,rfl,h0,h1⟩:=h;exact All2.app (B0l h0) (B0l h1)
theorem A7F{P:Program}{cfg:Cfg}(hc:J9 P cfg){t:Nat}{ti:TyI}(ht:cfg.ty t=some ti){s:St}{m:Mem}{ls:List Lf}{ds:List Value}{v:AV}{ad:Addr}
  (hp:A5j ti.agg ls=some v) (hl:ls.length=ti.k.sz) (hd:All2 (LfC s m) ls ds) (hcell:∀ j u,ds[j]? = some u->m.w.cell? (ad.add j)=some u) :
  ∃ x,(loadVar t ad).run P m.w=.ok x m.w/\AVC s m v x:=by
 obtain ⟨f,z,hi,hs,_⟩:=hc.info ht;obtain ⟨d,hu,hagg⟩:=hc.agg ht;have hlen:ds.length=ti.k.sz:=by rw [<- hl,hd.len]
 obtain ⟨h1,h2⟩:=B21 hp hd;cases ha:ti.agg with
 | true=>
  refine ⟨_,?_,h1 ha⟩;have hld:=B3Q (P:=P) m.w ad ds hcell;rw [hlen] at hld;simp [loadVar,C4,A8m hu,hagg,ha,A5J hi,hs,hld]
 | false=>
  obtain ⟨c,rfl,hv⟩:=h2 ha;refine ⟨c,?_,hv⟩;have:=hcell 0 c rfl;simp only [Addr.add,Q7] at this;simp [loadVar,C4,A8m hu,hagg,ha,this]
def C6U{R:Type}(cfg:Cfg)(s:St)(t:Nat)(x:Operand)(U:Kp R):Option R:=
 match L1 s x,cfg.ty t with
 | some (.one l,rx),some ti=>match l with
  | .ptr b off=>match s.getB b with
   | some c=>match Nat.beq ((c.drop off).take ti.k.sz).length ti.k.sz,A5j ti.agg ((c.drop off).take ti.k.sz) with
    | true,some v=>U (rx ++ [(.b b,.b c)]) [] v
    | _,_=>none
   | none=>none
  | .ept id q off=>match s.getR id,s.getX q with
   | some r,some i=>match Nat.beq (((leaves r.k (rd r.k r.xs i) (fun j=>.sub id q j r.ver) 0).drop off).take ti.k.sz).length ti.k.sz,A5j ti.agg (((leaves r.k (rd r.k r.xs i) (fun j=>.sub id q j r.ver) 0).drop off).take ti.k.sz) with
    | true,some v=>U (rx ++ [(.r id,.r r),(.x q,.x i)]) [] v
    | _,_=>none
   | _,_=>none
  | .rpt k y off=>match Nat.beq (((B0k k y).drop off).take ti.k.sz).length ti.k.sz,A5j ti.agg (((B0k k y).drop off).take ti.k.sz) with
   | true,some v=>U rx [] v
   | _,_=>none
  | _=>none
 | _,_=>none
theorem B23{k:K}{e:Nat}{w:World}{Z:Col}{p:H9}{xs:List k.T}{v:Value}(h:OwL (Ow k w Z) e k.sz w Z p xs v){i:Nat}(hi:i<xs.length) :
  ∃ (g cap:Nat) (ds:List Value),v=.slice (some ⟨g,0,none⟩) xs.length cap/\Z g=some p/\Ow k w Z (p ++ [i]) xs[i] ds/\∀ j u,ds[j]? = some u->w.cell? ⟨g,i*k.sz+j,none⟩=some u:=by
 obtain ⟨inner,ho,hc,hh⟩:=h;rcases ho.2 with ⟨rfl,hn⟩ | ⟨g,cap,cur,fz,rfl,_,hg,hfz,hn,hcap,hs,ht⟩
 ·omega
 ·refine ⟨g,cap,_,rfl,hc g rfl,hh i hi,fun j u hu=>?_⟩;have hj:j<k.sz:=by
   have:=(C3.1 hu).1;rw [(hh i hi).len] at this;exact this
  rw [F8 hj,F3] at hu;have:=S3 ho (g:=g) rfl _ _ hu
  rwa [add_plain,D9] at this
theorem C6V{R:Type}{P:Program}{cfg:Cfg}(hc:J9 P cfg){s:St}{t:Nat}{x:Operand}{U:Kp R}{r:R}(h:C6U cfg s t x U=some r):OutP P s (.load t x) U r:=by
 unfold C6U at h;have hrun:∀ (a:Act) (w:World) (oo:Oper) (ad:Addr) (y:Value),oo.op=.load t x->a.eval x=.pointer (some ad)->(loadVar t ad).run P w=.ok y w->(execOp a.eval oo).run P w=.ok (.value y) w:=by
  intro a w oo ad y ho hx hy;simp [execOp,ho,hx,Instr.loadAt,Instr.sureAddr,C4,hy]
 split at h
 ·rename_i l rx ti ex et;split at h
  ·rename_i b' off;split at h
   ·rename_i c ec;split at h
    ·rename_i v e1 e2;refine .mk' _ _ h (Reads.app.2 ⟨B9 ex,fun p hp=>by rw [A6.1 hp];exact St.getB_some.1 ec⟩) fun n0 w0 Z0 s' a m oo ho hr hrd=>?_
     have hb:=(Reads.app.1 hrd).2 _ A5;have hx:=(D8 ex hr (Reads.app.1 hrd).1).2 c hb;obtain ⟨cs,hcs,_,_,hg⟩:=hr.bx b' c hb;obtain ⟨y,hy,hv⟩:=A7F (P:=P) hc et e2 (A0 e1) ((hcs.drop off).take ti.k.sz) (ad:=⟨(m.β b').g,(m.β b').pre.length+off,none⟩) (fun j u hu=>by
      have hj:=(C3.1 hu).1;have hj':j<ti.k.sz:=by rw [B2] at hj;omega
      rw [F8 hj',F3] at hu;rw [add_plain,A1J m.w _ _ _ _ _ hg];have hlt:=(C3.1 hu).1;rw [A0u,A7,E5 (by omega),E3 (by omega)];rw [<- hu];congr 1;omega)
     exact ⟨y,hrun a m.w oo _ y ho hx hy,hv⟩
    ·cases h
   ·cases h
  ·rename_i id q off;split at h
   ·rename_i row i er ei;split at h
    ·rename_i v e1 e2;refine .mk' _ _ h (Reads.app.2 ⟨B9 ex,fun p hp=>?_⟩) fun n0 w0 Z0 s' a m oo ho hr hrd=>?_
     ·simp only [B4,N7,A3q] at hp;rcases hp with rfl | rfl
      ·exact St.getR_some.1 er
      ·exact St.getX_some.1 ei
     ·have h1:=(Reads.app.1 hrd).2 (.r id,.r row) (by simp);have h2:=(Reads.app.1 hrd).2 (.x q,.x i) (by simp);obtain ⟨hx1,hx2,hx⟩:=(D8 ex hr (Reads.app.1 hrd).1).2 row i h1 h2;obtain ⟨g,cap,ds,hv0,_,how,hcell⟩:=B23 (hr.rw id row h1) hx2;have hls:All2 (LfC s' m) (leaves row.k (rd row.k row.xs i) (fun j=>.sub id q j row.ver) 0) ds:=by
       rw [A8l hx2];refine B22 how fun j v hj=>⟨how.one v (I7 hj),fun r' i' hr' hi'=>?_⟩
       rw [h1] at hr';rw [h2] at hi';injection hr' with hr';injection hr' with hr';subst hr'
       injection hi' with hi';injection hi' with hi';subst hi'
       have hjl:=(C3.1 hj).1;rw [how.len] at hjl;refine ⟨C6 _,fun _=>⟨hx1,hx2,by omega,?_⟩⟩;rw [hv0,O2,add_plain,D9,D9];exact hcell j v hj
      rw [hv0,O2,add_plain,D9] at hx;obtain ⟨y,hy,hv⟩:=A7F (P:=P) hc et e2 (A0 e1) ((hls.drop off).take ti.k.sz) (ad:=⟨g,i.toNat*row.k.sz+off,none⟩) (fun j u hu=>by
       have hj:=(C3.1 hu).1;have hj':j<ti.k.sz:=by rw [B2] at hj;omega
       rw [F8 hj',F3] at hu;have:=hcell (off+j) u hu;rw [add_plain,L9];exact this)
      exact ⟨y,hrun a m.w oo _ y ho hx hy,hv⟩
    ·cases h
   ·cases h
  ·rename_i k y off;split at h
   ·rename_i v e1 e2;refine .mk' _ _ h (B9 ex) fun n0 w0 Z0 s' a m oo ho hr hrd=>?_
    obtain ⟨ad,ds,hro,hZ,hcell,hx⟩:=D8 ex hr hrd;have hsp:ad.spot=none:=by
     have h0:0<ds.length:=by rw [hro.len];exact k.sz_pos
     have:=cell_spot (hcell 0 ds[0] (by simp [h0]));simpa [Addr.add] using this
    obtain ⟨y,hy,hv⟩:=A7F (P:=P) hc et e2 (A0 e1) (((B0l (s:=s') hro).drop off).take ti.k.sz) (ad:=ad.add off) (fun j u hu=>by
      have hj:=(C3.1 hu).1;have hj':j<ti.k.sz:=by rw [B2] at hj;omega
      rw [F8 hj',F3] at hu;rw [add_add _ hsp];exact hcell (off+j) u hu)
    exact ⟨y,hrun a m.w oo _ y ho hx hy,hv⟩
   ·cases h
  ·cases h
 ·cases h
def bt(s:ByteArray)(i:Int):Int:=(((s.data.toList.getD i.toNat 0).toNat:Nat):Int)
def C2c{R:Type}(cfg:Cfg)(s:St)(t:Nat)(x i:Operand)(U:Kp R):Option R:=
 match L1 s x,L1 s i,A47 cfg t with
 | some (.one (.str b),rx),some (.one (.int _ j),ri),true=>bif decide (0<=j) then bif decide (j<(b.size:Int)) then U (rx++ri) [] (.one (.int .u8 (bt b j))) else none else none
 | _,_,_=>none
theorem G7{R:Type}{c:Bool}{x:Option R}{r:R}(h:(bif c then x else none)=some r):c=true/\x=some r:=by
 cases c with
 | true=>exact ⟨rfl,h⟩
 | false=>cases h
theorem C52{R:Type}{P:Program}{cfg:Cfg}(hc:J9 P cfg){s:St}{t:Nat}{x i:Operand}{U:Kp R}{r:R}(h:C2c cfg s t x i U=some r):OutP P s (.index t x i) U r:=by
 unfold C2c at h;split at h
 ·rename_i b rx Ui j ri ex ei et;obtain ⟨h0,h⟩:=G7 h;obtain ⟨h1,h⟩:=G7 h;have h0:=A8 h0;have h1:=A8 h1;refine .mk' _ _ h (Reads.app.2 ⟨B9 ex,B9 ei⟩) fun n0 w0 Z0 s' a m oo ho hr hrd=>⟨_,?_,rfl⟩
  have hx:a.eval x=.string b:=D8 ex hr (Reads.app.1 hrd).1;have hi:a.eval i=.int Ui j:=D8 ei hr (Reads.app.1 hrd).2;have hlt:j.toNat<b.size:=by omega
  have hlt':j.toNat<b.data.toList.length:=by rw [D4];exact hlt
  have hr1:(Instr.index t (.string b) (.int Ui j)).run P m.w=.ok (.int .u8 ((b[j.toNat]'hlt).toNat:Nat)) m.w:=by
   simp only [Instr.index,asIntOf,C4,A3r,H2,R9 (A34 hc et)];rw [G0 h0,getElem?_pos b j.toNat hlt];rfl
  have hbt:bt b j=((b[j.toNat]'hlt).toNat:Int):=by
   simp only [bt,C2,C0 hlt',T8];rfl
  rw [hbt];simp only [execOp,ho,hx,hi,C4,hr1,H2,A3r]
 ·cases h
def B4T{R:Type}(cfg:Cfg)(s:St)(d:Nat)(t:Nat)(x i:Operand)(U:Kp R):Option R:=
 match L1 s x,L1 s i,cfg.ar t with
 | some (.one l,rx),some (.one (.int _ j),ri),some (n,e)=>match cfg.ty e with
  | some ti=>match l with
   | .rpa n' k xs=>match Nat.beq n n'&&Nat.beq ti.k.sz k.sz with
    | true=>bif decide (0<=j) then bif decide (j<(xs.length:Int)) then U (rx++ri) [] (.one (.rpt k (rd k xs j) 0)) else none else none
    | false=>none
   | .apt n' id=>match s.getR id with
    | some r=>match Nat.beq n n'&&Nat.beq ti.k.sz r.k.sz with
     | true=>bif decide (0<=j) then bif decide (j<(n:Int)) then U (rx++ri ++ [(.r id,.r r)]) [(d,j)] (.one (.ept id d 0)) else none else none
     | false=>none
    | none=>none
   | _=>none
  | none=>none
 | _,_,_=>none
def B2s{R:Type}(cfg:Cfg)(s:St)(d:Nat)(t:Nat)(x i:Operand)(U:Kp R):Option R:=
 match L1 s x,L1 s i,cfg.el t with
 | some (.one l,rx),some (.one (.int _ j),ri),some e=>match cfg.ty e with
  | some ti=>match l with
   | .ro _ k xs=>match Nat.beq ti.k.sz k.sz with
    | true=>bif decide (0<=j) then bif decide (j<(xs.length:Int)) then U (rx++ri) [] (.one (.rpt k (rd k xs j) 0)) else none else none
    | false=>none
   | .own id=>match s.getR id with
    | some r=>match Nat.beq ti.k.sz r.k.sz with
     | true=>bif decide (0<=j) then bif decide (j<(r.xs.length:Int)) then U (rx++ri ++ [(.r id,.r r)]) [(d,j)] (.one (.ept id d 0)) else none else none
     | false=>none
    | none=>none
   | .vw id lo hi=>match s.getR id with
    | some r=>match Nat.beq ti.k.sz r.k.sz with
     | true=>bif decide (0<=j) then bif decide (j<(hi:Int)-(lo:Int)) then U (rx++ri ++ [(.r id,.r r)]) [(d,(lo:Int)+j)] (.one (.ept id d 0)) else none else none
     | false=>none
    | none=>none
   | _=>none
  | none=>none
 | _,_,_=>none
theorem run_indexAt{P:Program}{cfg:Cfg}(hc:J9 P cfg){t e:Nat}{ti:TyI}(het:cfg.el t=some e)(het':cfg.ty e=some ti){Ui:IntKind}{j:Int}{ad:Addr}{n c:Nat}(h0:0<=j)(h1:j<n)(w:World) :
  (Instr.indexAt t (.slice (some ad) n c) (.int Ui j)).run P w=.ok (.pointer (some (ad.add (j.toNat*ti.k.sz)))) w:=by
 obtain ⟨f,z,hi,hs,_⟩:=hc.info het';simp [Instr.indexAt,asIntOf,C4,R9 (hc.el het),h0,h1,A5J hi,hs]
theorem B3T{P:Program}{cfg:Cfg}(hc:J9 P cfg){t e n:Nat}{ti:TyI}(het:cfg.ar t=some (n,e))(het':cfg.ty e=some ti){Ui:IntKind}{j:Int}{ad:Addr}(h0:0<=j)(h1:j<n)(w:World) :
  (Instr.indexAt t (.pointer (some ad)) (.int Ui j)).run P w=.ok (.pointer (some (ad.add (j.toNat*ti.k.sz)))) w:=by
 obtain ⟨f,z,hi,hs,_⟩:=hc.info het';simp [Instr.indexAt,asIntOf,C4,R9 (hc.ar het).1,Instr.sureAddr,h0,h1,A5J hi,hs]
theorem B9f{R:Type}{P:Program}{cfg:Cfg}(hc:J9 P cfg){s:St}{d t:Nat}{x i:Operand}{U:Kp R}{r:R}(h:B4T cfg s d t x i U=some r):OutP P s (.indexAddr t x i) U r:=by
 unfold B4T at h;split at h
 ·rename_i l rx Ui j ri n e ex ei et;split at h
  ·rename_i ti eti;have hrun:∀ (a:Act) (w:World) (oo:Oper) (y:Value),oo.op=.indexAddr t x i->(Instr.indexAt t (a.eval x) (.int Ui j)).run P w=.ok y w->a.eval i=.int Ui j->(execOp a.eval oo).run P w=.ok (.value y) w:=by
    intro a w oo y ho hy hi;simp [execOp,ho,hi,C4,hy]
   split at h
   ·rename_i n' k xs;split at h
    ·rename_i hsz;simp only [B3] at hsz;obtain ⟨hn,hsz⟩:=hsz;have hn:=A0 hn
     replace hsz:=A0 hsz
     subst hn;obtain ⟨h0,h⟩:=G7 h;obtain ⟨h1,h⟩:=G7 h;have h0:=A8 h0;have h1:=A8 h1;refine .mk' _ _ h (Reads.app.2 ⟨B9 ex,B9 ei⟩) fun n0 w0 Z0 s' a m oo ho hr hrd=>?_
     have hx:Ro (.pa n k) m.w m.Z xs [a.eval x]:=D8 ex hr (Reads.app.1 hrd).1;have hi:a.eval i=.int Ui j:=D8 ei hr (Reads.app.1 hrd).2;have hlt:j.toNat<xs.length:=by omega
     rcases hx with ⟨_,e1⟩ | ⟨ad,e1,hn,hZ,_,hel⟩
     ·rw [e1] at hlt;simp at hlt
     injection e1 with e1
     obtain ⟨ds,hd,hro,hcell⟩:=hel j.toNat hlt;refine ⟨.pointer (some (ad.add (j.toNat*k.sz))),hrun a m.w oo _ ho (by rw [e1,B3T hc et eti h0 (by omega),hsz]) hi,ad.add (j.toNat*k.sz),ds,by rw [A8l hlt];exact hro,by rw [add_block];exact hZ,fun jj u hu=>?_,by simp [Addr.add]⟩;have hsp:ad.spot=none:=by
      obtain ⟨ds2,hd2,_,hcell2⟩:=hel 0 (by omega);have hpos:=k.sz_pos;have:=cell_spot (hcell2 0 ds2[0] (by simp [show 0<ds2.length by omega]));simpa [Addr.add] using this
     rw [add_add _ hsp];exact hcell jj u hu
    ·cases h
   ·rename_i n' id;split at h
    ·rename_i row er;split at h
     ·rename_i hsz;simp only [B3] at hsz;obtain ⟨hn,hsz⟩:=hsz;have hn:=A0 hn
      replace hsz:=A0 hsz
      subst hn;obtain ⟨h0,h⟩:=G7 h;obtain ⟨h1,h⟩:=G7 h;have h0:=A8 h0;have h1:=A8 h1;refine ⟨_,_,_,h,Reads.app.2 ⟨Reads.app.2 ⟨B9 ex,B9 ei⟩,fun p hp=>by rw [A6.1 hp];exact St.getR_some.1 er⟩,fun n0 oo ho w0 Z0 s' a m hr hrd hnew=>?_⟩;have hrd1:=(Reads.app.1 hrd).1;have hrow:=(Reads.app.1 hrd).2 (.r id,.r row) (by simp);obtain ⟨hlen,hx⟩:=(D8 ex hr (Reads.app.1 hrd1).1).2 row hrow;have hi:a.eval i=.int Ui j:=D8 ei hr (Reads.app.1 hrd1).2;have hlt:j.toNat<row.xs.length:=by omega
      obtain ⟨g,cap,ds,hv0,_,how,hcell⟩:=B23 (hr.rw id row hrow) hlt;refine ⟨_,hrun a m.w oo _ ho (by rw [hx,B3T hc et eti h0 h1,hsz]) hi,rfl,fun r' i' hr' hi'=>?_⟩;rw [A82 (by simp),hrow] at hr';injection hr' with hr';injection hr' with hr';subst hr'
      rw [G3,C7,St.get_cons_same] at hi';injection hi' with hi';injection hi' with hi';subst hi'
      exact ⟨h0,hlt,rfl⟩
     ·cases h
    ·cases h
   ·cases h
  ·cases h
 ·cases h
theorem B8I{R:Type}{P:Program}{cfg:Cfg}(hc:J9 P cfg){s:St}{d t:Nat}{x i:Operand}{U:Kp R}{r:R}(h:B2s cfg s d t x i U=some r):OutP P s (.indexAddr t x i) U r:=by
 unfold B2s at h;split at h
 ·rename_i l rx Ui j ri e ex ei et;split at h
  ·rename_i ti eti;have hrun:∀ (a:Act) (w:World) (oo:Oper) (y:Value),oo.op=.indexAddr t x i->(Instr.indexAt t (a.eval x) (.int Ui j)).run P w=.ok y w->a.eval i=.int Ui j->(execOp a.eval oo).run P w=.ok (.value y) w:=by
    intro a w oo y ho hy hi;simp [execOp,ho,hi,C4,hy]
   split at h
   ·rename_i e2 k xs;split at h
    ·rename_i hsz;have hsz:=A0 hsz;obtain ⟨h0,h⟩:=G7 h;obtain ⟨h1,h⟩:=G7 h;have h0:=A8 h0;have h1:=A8 h1;refine .mk' _ _ h (Reads.app.2 ⟨B9 ex,B9 ei⟩) fun n0 w0 Z0 s' a m oo ho hr hrd=>?_
     have hx:Ro (.rs e2 k) m.w m.Z xs [a.eval x]:=D8 ex hr (Reads.app.1 hrd).1;have hi:a.eval i=.int Ui j:=D8 ei hr (Reads.app.1 hrd).2;have hlt:j.toNat<xs.length:=by omega
     obtain ⟨c,ad,ds,e1,hZ,hro,hcell⟩:=B67 hx hlt;refine ⟨.pointer (some (ad.add (j.toNat*k.sz))),hrun a m.w oo _ ho (by rw [e1,run_indexAt hc et eti h0 h1,hsz]) hi,ad.add (j.toNat*k.sz),ds,by rw [A8l hlt];exact hro,by rw [add_block];exact hZ,fun jj u hu=>?_,by simp [Addr.add]⟩;have hsp:ad.spot=none:=by
      obtain ⟨c2,ad2,ds2,e3,_,hro2,hcell2⟩:=B67 hx (show 0<xs.length by omega);rw [e1] at e3;injection e3 with e3;injection e3 with e3;subst e3
      have h0:0<ds2.length:=by rw [hro2.len];exact k.sz_pos
      have:=cell_spot (hcell2 0 ds2[0] (by simp [h0]));simpa [Addr.add] using this
     rw [add_add _ hsp];exact hcell jj u hu
    ·cases h
   ·rename_i id;split at h
    ·rename_i row er;split at h
     ·rename_i hsz;have hsz:=A0 hsz;obtain ⟨h0,h⟩:=G7 h;obtain ⟨h1,h⟩:=G7 h;have h0:=A8 h0;have h1:=A8 h1;refine ⟨_,_,_,h,Reads.app.2 ⟨Reads.app.2 ⟨B9 ex,B9 ei⟩,fun p hp=>by rw [A6.1 hp];exact St.getR_some.1 er⟩,fun n0 oo ho w0 Z0 s' a m hr hrd hnew=>?_⟩;have hrd1:=(Reads.app.1 hrd).1;have hrow:=(Reads.app.1 hrd).2 (.r id,.r row) (by simp);have hx:=(D8 ex hr (Reads.app.1 hrd1).1).2 row hrow;have hi:a.eval i=.int Ui j:=D8 ei hr (Reads.app.1 hrd1).2;have hlt:j.toNat<row.xs.length:=by omega
      obtain ⟨g,cap,ds,hv0,_,how,hcell⟩:=B23 (hr.rw id row hrow) hlt;rw [hv0] at hx;refine ⟨_,hrun a m.w oo _ ho (by rw [hx,run_indexAt hc et eti h0 h1,hsz]) hi,rfl,fun r' i' hr' hi'=>?_⟩;rw [A82 (by simp),hrow] at hr';injection hr' with hr';injection hr' with hr';subst hr'
      rw [G3,C7,St.get_cons_same] at hi';injection hi' with hi';injection hi' with hi';subst hi'
      exact ⟨h0,hlt,by rw [hv0];rfl⟩
     ·cases h
    ·cases h
   ·rename_i id lo hi;split at h
    ·rename_i row er;split at h
     ·rename_i hsz;have hsz:=A0 hsz;obtain ⟨h0,h⟩:=G7 h;obtain ⟨h1,h⟩:=G7 h;have h0:=A8 h0;have h1:=A8 h1;refine ⟨_,_,_,h,Reads.app.2 ⟨Reads.app.2 ⟨B9 ex,B9 ei⟩,fun p hp=>by rw [A6.1 hp];exact St.getR_some.1 er⟩,fun n0 oo ho w0 Z0 s' a m hr hrd hnew=>?_⟩;have hrd1:=(Reads.app.1 hrd).1;have hrow:=(Reads.app.1 hrd).2 (.r id,.r row) (by simp);obtain ⟨g1,g2,hx⟩:=(D8 ex hr (Reads.app.1 hrd1).1).2 row hrow;have hi:a.eval i=.int Ui j:=D8 ei hr (Reads.app.1 hrd1).2;have hlt:((lo:Int)+j).toNat<row.xs.length:=by omega
      obtain ⟨g,cap,ds,hv0,_,how,hcell⟩:=B23 (hr.rw id row hrow) hlt;rw [hv0] at hx;have hne:¬ cap=lo:=by
       have hro:=(hr.rw id row hrow).no;rw [hv0] at hro;obtain ⟨A,c,e1,hl,_⟩:=hro;injection e1 with e1 _;injection e1 with _ _ e1;subst e1;omega
      simp only [cutV,D6 hne,L7,add_plain] at hx;refine ⟨_,hrun a m.w oo _ ho (by rw [hx,run_indexAt hc et eti h0 (by omega),hsz]) hi,rfl,fun r' i' hr' hi'=>?_⟩;rw [A82 (by simp),hrow] at hr';injection hr' with hr';injection hr' with hr';subst hr'
      rw [G3,C7,St.get_cons_same] at hi';injection hi' with hi';injection hi' with hi';subst hi'
      refine ⟨by omega,hlt,?_⟩;rw [hv0,O2,add_plain,add_plain]
      congr 3
      rw [D9,D9,J0,<- J7]
      congr 1;omega
     ·cases h
    ·cases h
   ·cases h
  ·cases h
 ·cases h
def C2d{R:Type}(s:St)(x:Operand)(U:Kp R):Option R:=
 match L1 s x with
 | some (.one (.ptr b off),rx)=>match s.getB b with
  | some c=>match Nat.beq ((c.drop off).take 1).length 1,A5j false ((c.drop off).take 1) with
   | true,some v=>U (rx ++ [(.b b,.b c)]) [] v
   | _,_=>none
  | none=>none
 | _=>none
theorem C53{R:Type}{P:Program}{s:St}{t:Nat}(hc:∃ d,P.underlying t=some d/\B2p d=false){x:Operand}{U:Kp R}{r:R}(h:C2d s x U=some r):OutP P s (.load t x) U r:=by
 obtain ⟨d,hu,hagg⟩:=hc;unfold C2d at h;split at h
 ·rename_i b' off rx ex;split at h
  ·rename_i c ec;split at h
   ·rename_i v e1 e2;refine .mk' _ _ h (Reads.app.2 ⟨B9 ex,fun p hp=>by rw [A6.1 hp];exact St.getB_some.1 ec⟩) fun n0 w0 Z0 s' a m oo ho hr hrd=>?_
    have hb:=(Reads.app.1 hrd).2 _ A5;have hx:=(D8 ex hr (Reads.app.1 hrd).1).2 c hb;obtain ⟨cs,hcs,_,_,hg⟩:=hr.bx b' c hb;obtain ⟨_,h2⟩:=B21 e2 ((hcs.drop off).take 1);obtain ⟨y,hy,hv⟩:=h2 rfl;have hu0:((cs.drop off).take 1)[0]? = some y:=by rw [hy];rfl
    have hcell:m.w.cell? ⟨(m.β b').g,(m.β b').pre.length+off,none⟩=some y:=by
     rw [F8 (by omega),F3] at hu0;rw [A1J m.w _ _ _ _ _ hg];have hlt:=(C3.1 hu0).1;rw [A0u,A7,E5 (by omega),E3 (by omega)];rw [<- hu0];congr 1;omega
    exact ⟨y,by simp [execOp,ho,hx,Instr.loadAt,Instr.sureAddr,C4,loadVar,A8m hu,hagg,hcell],hv⟩
   ·cases h
  ·cases h
 ·cases h
def C6W(s:St):Option Operand->Option (Option (IntKind×Int)×Rds)
 | none=>some (none,[])
 | some x=>match L1 s x with
  | some (.one (.int k i),rds)=>some (some (k,i),rds)
  | _=>none
theorem A2d{s s':St}{x:Option Operand}{v:Option (IntKind×Int)}{rds:Rds}(h:C6W s x=some (v,rds)) :
  Reads s rds/\∀ {n:Nat} {w0:World} {Z0:Gh} {a:Act} {m:Mem},Rel n w0 Z0 s' a m->Reads s' rds->x.map a.eval=v.map fun p=>Value.int p.1 p.2:=by
 cases x with
 | none=>simp only [C6W] at h;injection h with h;injection h with h1 h2;subst h1;subst h2;exact ⟨Reads.nil _,fun _ _=>rfl⟩
 | some x=>
  simp only [C6W] at h;split at h
  ·rename_i k i rds' e;injection h with h;injection h with h1 h2;subst h1;subst h2
   refine ⟨B9 e,fun hr hrd=>?_⟩;have:_=Value.int k i:=D8 e hr hrd;simp [this]
  ·cases h
def C6a{R:Type}(n:Nat)(lo hi:Option (IntKind×Int))(U:Nat->Nat->Option R):Option R:=
 match lo,hi with
 | none,none=>U 0 n
 | some (_,l),none=>bif decide (0<=l) then bif decide (l<=(n:Int)) then U l.toNat n else none else none
 | none,some (_,h)=>bif decide (0<=h) then bif decide (h<=(n:Int)) then U 0 h.toNat else none else none
 | some (_,l),some (_,h)=>bif decide (0<=l) then bif decide (l<=h) then bif decide (h<=(n:Int)) then U l.toNat h.toNat else none else none else none
theorem B9g{R:Type}{n:Nat}{lo hi:Option (IntKind×Int)}{U:Nat->Nat->Option R}{r:R}(h:C6a n lo hi U=some r) :
  ∃ l g,U l g=some r/\l<=g/\g<=n/\∀ (P:Program) (w:World) (b:Bool) (c:Nat),n<=c->
   (Instr.sliceBounds b n c (lo.map fun p=>Value.int p.1 p.2) (hi.map fun p=>Value.int p.1 p.2) none).run P w=.ok (l,g,c) w:=by
 unfold C6a at h;split at h
 ·exact ⟨0,n,h,G6 _,C6 _,fun P w b c hc=>by simp [Instr.sliceBounds]⟩
 ·rename_i k l;obtain ⟨h0,h⟩:=G7 h;obtain ⟨h1,h⟩:=G7 h;have h0:=A8 h0;have h1:=A8 h1;exact ⟨_,_,h,by omega,C6 _,fun P w b c hc=>by
   simp [Instr.sliceBounds,B1r,h0,h1]⟩
 ·rename_i k g;obtain ⟨h0,h⟩:=G7 h;obtain ⟨h1,h⟩:=G7 h;have h0:=A8 h0;have h1:=A8 h1;exact ⟨_,_,h,G6 _,by omega,fun P w b c hc=>by
   have h2:g<=(c:Int):=by omega
   cases b<;>simp [Instr.sliceBounds,B1r,h0,h2]⟩
 ·rename_i k l k' g;obtain ⟨h0,h⟩:=G7 h;obtain ⟨h1,h⟩:=G7 h;obtain ⟨h2,h⟩:=G7 h;have h0:=A8 h0;have h1:=A8 h1;have h2:=A8 h2;exact ⟨_,_,h,by omega,by omega,fun P w b c hc=>by
   have h3:g<=(c:Int):=by omega
   have h4:(0:Int)<=g:=by omega
   have h5:(g.toNat:Int)=g:=A28 h4;cases b<;>simp [Instr.sliceBounds,B1r,h0,h1,h3,h4,h5]⟩
theorem C44{P:Program}{cfg:Cfg}(hc:J9 P cfg){t e:Nat}{ti:TyI}(het:cfg.el t=some e)(het':cfg.ty e=some ti){a:Option Addr}{n c l g:Nat}{lo hi:Option Value}{w:World}
  (hb:(Instr.sliceBounds true n c lo hi none).run P w=.ok (l,g,c) w):(Instr.sliceAt t (.slice a n c) lo hi none).run P w=.ok (cutV ti.k.sz l g (.slice a n c)) w:=by
 obtain ⟨f,z,hi,hs,_⟩:=hc.info het';have hu:=hc.el het;simp [Instr.sliceAt,Instr.slice,C4,R9 hu,hb,A5J hi,hs,cutV]
def C2e{R:Type}(cfg:Cfg)(s:St)(t:Nat)(x:Operand)(lo hi mx:Option Operand)(U:Kp R):Option R:=
 match mx,L1 s x,C6W s lo,C6W s hi with
 | none,some (.one l,rx),some (lo',rl),some (hi',rh)=>match l with
  | .str b=>match A47 cfg t with
   | true=>C6a b.size lo' hi' fun l g=>U (rx++(rl++rh)) [] (.one (.str (b.extract l g)))
   | false=>none
  | l=>match cfg.el t with
   | some e=>match cfg.ty e with
    | some ti=>match l with
     | .ro e' k xs=>match Nat.beq ti.k.sz k.sz with
      | true=>C6a xs.length lo' hi' fun l g=>U (rx++(rl++rh)) [] (.one (.ro e' k ((xs.take g).drop l)))
      | false=>none
     | .own id=>match s.getR id with
      | some r=>match Nat.beq ti.k.sz r.k.sz with
       | true=>C6a r.xs.length lo' hi' fun l g=>U (rx++(rl++rh) ++ [(.r id,.r r)]) [] (.one (.vw id l g))
       | false=>none
      | none=>none
     | _=>none
    | none=>none
   | none=>none
 | _,_,_,_=>none
theorem C54{R:Type}{P:Program}{cfg:Cfg}(hc:J9 P cfg){s:St}{t:Nat}{x:Operand}{lo hi mx:Option Operand}{U:Kp R}{r:R}(h:C2e cfg s t x lo hi mx U=some r) :
  OutP P s (.slice t x lo hi mx) U r:=by
 unfold C2e at h;split at h
 ·rename_i l rx lo' rl hi' rh ex el eh;have hrun:∀ (a:Act) (w:World) (oo:Oper) (y:Value),oo.op=.slice t x lo hi none->(Instr.sliceAt t (a.eval x) (lo.map a.eval) (hi.map a.eval) none).run P w=.ok y w->(execOp a.eval oo).run P w=.ok (.value y) w:=by
   intro a w oo y ho hy;simp [execOp,ho,C4,hy]
  split at h
  ·rename_i b;split at h
   ·rename_i et;obtain ⟨l',g,hU,h1,h2,hb⟩:=B9g h;refine .mk' _ _ hU (Reads.app.2 ⟨B9 ex,Reads.app.2 ⟨(A2d (s':=s) el).1,(A2d (s':=s) eh).1⟩⟩) fun n0 w0 Z0 s' a m oo ho hr hrd=>⟨_,hrun a m.w oo _ ho ?_,rfl⟩
    have hx:a.eval x=.string b:=D8 ex hr (Reads.app.1 hrd).1;have hrd2:=Reads.app.1 (Reads.app.1 hrd).2;rw [hx,(A2d el).2 hr hrd2.1,(A2d eh).2 hr hrd2.2];simp [Instr.sliceAt,Instr.slice,C4,R9 (A34 hc et),hb P m.w false b.size (C6 _)]
   ·cases h
  ·split at h
   ·rename_i e et;split at h
    ·rename_i ti eti;split at h
     ·rename_i e' k xs _;split at h
      ·rename_i hsz;have hsz:=A0 hsz;obtain ⟨l',g,hU,h1,h2,hb⟩:=B9g h;refine .mk' _ _ hU (Reads.app.2 ⟨B9 ex,Reads.app.2 ⟨(A2d (s':=s) el).1,(A2d (s':=s) eh).1⟩⟩) fun n0 w0 Z0 s' a m oo ho hr hrd=>?_
       have hx:Ro (.rs e' k) m.w m.Z xs [a.eval x]:=D8 ex hr (Reads.app.1 hrd).1;have hrd2:=Reads.app.1 (Reads.app.1 hrd).2;refine ⟨cutV k.sz l' g (a.eval x),hrun a m.w oo _ ho ?_,B4S hx h1 h2⟩;obtain ⟨A,c,e1,hl,_⟩:=hx;injection e1 with e1 _
       rw [e1,(A2d el).2 hr hrd2.1,(A2d eh).2 hr hrd2.2,<- hsz];exact C44 hc et eti (hb P m.w true c hl)
      ·cases h
     ·rename_i id _;split at h
      ·rename_i row er;split at h
       ·rename_i hsz;have hsz:=A0 hsz;obtain ⟨l',g,hU,h1,h2,hb⟩:=B9g h;refine .mk' _ _ hU (Reads.app.2 ⟨Reads.app.2 ⟨B9 ex,Reads.app.2 ⟨(A2d (s':=s) el).1,(A2d (s':=s) eh).1⟩⟩,fun p hp=>by rw [A6.1 hp];exact St.getR_some.1 er⟩) fun n0 w0 Z0 s' a m oo ho hr hrd=>?_
        have hrd1:=(Reads.app.1 hrd).1;have hrow:=(Reads.app.1 hrd).2 (.r id,.r row) (by simp);have hx:=(D8 ex hr (Reads.app.1 hrd1).1).2 row hrow;have hrd2:=Reads.app.1 (Reads.app.1 hrd1).2;refine ⟨cutV row.k.sz l' g (m.ρ id),hrun a m.w oo _ ho ?_,?_,fun r' hr'=>?_⟩
        ·have hro:=(hr.rw id row hrow).no;obtain ⟨A,c,e1,hl,_⟩:=hro;injection e1 with e1 _
         rw [hx,e1,(A2d el).2 hr hrd2.1,(A2d eh).2 hr hrd2.2,<- hsz];exact C44 hc et eti (hb P m.w true c hl)
        ·have hro:=(hr.rw id row hrow).no;obtain ⟨A,c,e1,hl,_⟩:=hro;injection e1 with e1 _
         rw [e1];rfl
        ·rw [hrow] at hr';injection hr' with hr';injection hr' with hr';subst hr'
         exact ⟨h1,h2,rfl⟩
       ·cases h
      ·cases h
     ·cases h
    ·cases h
   ·cases h
 ·cases h
def D0Q{R:Type}(cfg:Cfg)(s:St)(t:Nat)(x:Operand)(U:Kp R):Option R:=
 match L1 s x with
 | some (.one (.str b),rx)=>match A47 cfg t with
  | true=>U rx [] (.one (.int .i64 (b.size:Int)))
  | false=>none
 | some (.one l,rx)=>match cfg.el t with
  | some _=>match E9 cfg s t l with
   | some (sl,rl)=>U (rx++rl) [] (.one (.int .i64 (sl.xs.length:Int)))
   | none=>none
  | none=>none
 | _=>none
theorem C8k{R:Type}{P:Program}{cfg:Cfg}(hc:J9 P cfg){s:St}{t:Nat}{x:Operand}{U:Kp R}{r:R}(h:D0Q cfg s t x U=some r) :
  OutP P s (.call {callee:=.builtin .len,args:=#[x],argTypes:=#[t]}) U r:=by
 unfold D0Q at h;split at h
 ·rename_i b rx ex;split at h
  ·rename_i et;refine .mk' _ _ h (B9 ex) fun n0 w0 Z0 s' a m oo ho hr hrd=>⟨_,?_,rfl⟩
   have hx:a.eval x=.string b:=D8 ex hr hrd;simp [execOp,ho,hx,resolve,invoke,builtin,Builtin.len_,C4,R9 (A34 hc et),goInt]
  ·cases h
 ·rename_i l rx _ ex;split at h
  ·rename_i e et;split at h
   ·rename_i sl rl ec;refine .mk' _ _ h (Reads.app.2 ⟨B9 ex,A0k ec⟩) fun n0 w0 Z0 s' a m oo ho hr hrd=>⟨_,?_,rfl⟩
    have hro:=B2q ec hr (Reads.app.1 hrd).2 (D8 ex hr (Reads.app.1 hrd).1);obtain ⟨A,c,e1,hl,_⟩:=hro;injection e1 with e1 _
    simp [execOp,ho,e1,resolve,invoke,builtin,Builtin.len_,C4,R9 (hc.el et),goInt]
   ·cases h
  ·cases h
 ·cases h
def upd{α:Type}(f:Nat->α)(i:Nat)(v:α):Nat->α:=fun j=>if j=i then v else f j
theorem upd_same{α:Type}(f:Nat->α)(i:Nat)(v:α):upd f i v i=v:=G0 rfl
theorem upd_ne{α:Type}(f:Nat->α){i j:Nat}(h:j≠i)(v:α):upd f i v j=f j:=D6 h
theorem alloc_old(w:World)(o:Obj)(b:Nat)(h:b<w.heap.size):(w.alloc o).heap[b]? = w.heap[b]?:=heap_alloc_old w o (by assumption)
theorem B6W{w:World}{o:Obj}{a:Addr}{v:Value}(h:w.cell? a=some v):(w.alloc o).cell? a=some v:=
 (I6 (alloc_old w o _ (J2 w a h))).trans h
theorem A7G(w:World)(Z:Col)(o:Obj)(c:Option H9):Keeps w (w.alloc o) Z (upd Z w.heap.size c):=
 fun b hb hlt=>⟨alloc_old w o b hlt,by rw [upd_ne _ (by omega)];exact hb⟩
theorem B6a(w:World)(Z:Col)(o:Obj)(c:Option H9):Fore w (w.alloc o) Z (upd Z w.heap.size c):=
 fun b hb hlt=>⟨alloc_old w o b hlt,by rw [upd_ne _ (by omega)];exact hb⟩
theorem A7H(w:World)(Z:Col)(o:Obj)(c:Option H9)(p:H9):Moves w (w.alloc o) Z (upd Z w.heap.size c) p p:=
 fun b q hb hlt=>⟨alloc_old w o b hlt,by rw [upd_ne _ (by omega)];exact hb⟩
theorem OwL.move{k:K}{e:Nat}{w w':World}{Z Z':Col}{p p':H9}{xs:List k.T}{v:Value}(h:OwL (Ow k w Z) e k.sz w Z p xs v)(hm:Moves w w' Z Z' p p')(hk:Keeps w w' Z Z') :
  OwL (Ow k w' Z') e k.sz w' Z' p' xs v:=by
 have h1:Ow (.sl e k) w Z p xs [v]:=⟨v,rfl,h⟩;obtain ⟨v',e1,h2⟩:=h1.move hm hk;injection e1 with e1 _
 subst e1;exact h2
theorem Rel.newBox{n:Nat}{w0:World}{Z0:Gh}{s:St}{a:Act}{m:Mem}(h:Rel n w0 Z0 s a m){d:Nat}(hdn:d<n)(hf:¬ Live s (.b d)){ls:List Lf}{cs:List Value}(t:TypeId)
  (hl:All2 (LfC s m) ls cs) (h1:∀ u∈cs,u.oneCell' = true) (hlive:∀ l∈ls,∀ q∈l.men,Live s q) :
  Rel n w0 Z0 ((.b d,some (.b ls))::s) a ⟨m.w.alloc (.cells cs.toArray t),upd m.Z m.w.heap.size (some [2*d+1]),m.ρ,upd m.β d ⟨m.w.heap.size,t,[],[]⟩⟩:=by
 have hget:∀ l,l≠.b d->St.get ((.b d,some (.b ls))::s) l=s.get l:=fun l hl=>St.get_cons_ne (R5 hl) _ _
 have hX:Ext s m ((.b d,some (.b ls))::s) ⟨m.w.alloc (.cells cs.toArray t),upd m.Z m.w.heap.size (some [2*d+1]),m.ρ,upd m.β d ⟨m.w.heap.size,t,[],[]⟩⟩ (Live s):=by
  refine ⟨A7G _ _ _ _,fun id r' _ hr=>⟨r',by rwa [hget _ (by simp)] at hr,rfl,rfl,rfl,C6 _,fun _ _ j v hc=>B6W hc,fun _=>A7H _ _ _ _ _⟩,fun b c' hL hc=>?_,fun q i _ hi=>by rwa [hget _ (by simp)] at hi⟩
  ·have hbd:b≠d:=fun e=>hf (e▸hL)
   exact ⟨c',by rwa [hget _ (by simpa using hbd)] at hc,upd_ne _ hbd _⟩
 refine h.change (fun i=>hget _ (by simp)) hX (fun id r hr=>?_) (fun b c hc=>?_) (B6a _ _ _ _) (by simp) rfl rfl rfl (fun id r _ _ hg=>⟨⟨r,by rwa [hget _ (by simp)] at hg⟩,rfl⟩) (fun b c hg=>by
  by_cases hbd:b=d
  ·subst hbd;exact .inr ⟨by have:=h.nn.1;omega,by simp [upd_same],by simp [upd_same]⟩
  ·exact .inl ⟨⟨c,by rwa [hget _ (by simpa using hbd)] at hg⟩,upd_ne _ hbd _⟩)
 ·rw [hget _ (by simp)] at hr;exact (h.rw id r hr).move (A7H _ _ _ _ _) (A7G _ _ _ _)
 ·by_cases hbd:b=d
  ·subst hbd;rw [St.get_cons_same] at hc;injection hc with hc;injection hc with hc;subst hc
   refine ⟨cs,All2.imp (fun l hm b hb=>hb.ext (hX.sub fun q hq=>hlive l hm q hq)) hl,h1,?_,?_⟩
   ·simp only [upd_same]
   ·simp only [upd_same,F6,F4];exact A0H m.w _
  ·rw [hget _ (by simpa using hbd)] at hc;obtain ⟨cs',h3,h4,h5,h6⟩:=h.bx b c hc;have hlt:(m.β b).g<m.w.heap.size:=(A9.1 h6).1;refine ⟨cs',All2.imp (fun l hm x hb=>hb.ext (hX.sub fun q hq=>⟨.b b,.b c,hc,E6.2 ⟨l,hm,hq⟩⟩)) h3,h4,?_,?_⟩
   ·simp only [upd_ne _ hbd];rw [upd_ne _ (by omega)];exact h5
   ·simp only [upd_ne _ hbd];rw [alloc_old _ _ _ hlt];exact h6
theorem Rel.newRow{n:Nat}{w0:World}{Z0:Gh}{s:St}{a:Act}{m:Mem}(h:Rel n w0 Z0 s a m){d:Nat}(hdn:d<n)(hf:¬ Live s (.r d)){row:Row}{o:Obj}{v:Value}
  (ho:OwL (Ow row.k (m.w.alloc o) (upd m.Z m.w.heap.size (some [2*d]))) row.e row.k.sz (m.w.alloc o) (upd m.Z m.w.heap.size (some [2*d])) [2*d] row.xs v) :
  Rel n w0 Z0 ((.r d,some (.r row))::s) a ⟨m.w.alloc o,upd m.Z m.w.heap.size (some [2*d]),upd m.ρ d v,m.β⟩:=by
 have hget:∀ l,l≠.r d->St.get ((.r d,some (.r row))::s) l=s.get l:=fun l hl=>St.get_cons_ne (R5 hl) _ _
 have hX:Ext s m ((.r d,some (.r row))::s) ⟨m.w.alloc o,upd m.Z m.w.heap.size (some [2*d]),upd m.ρ d v,m.β⟩ (Live s):=by
  refine ⟨A7G _ _ _ _,fun id r' hL hr=>?_,fun b c' _ hc=>⟨c',by rwa [hget _ (by simp)] at hc,rfl⟩,fun q i _ hi=>by rwa [hget _ (by simp)] at hi⟩;have hid:id≠d:=fun e=>hf (e▸hL)
  refine ⟨r',by rwa [hget _ (by simpa using hid)] at hr,upd_ne _ hid _,rfl,rfl,C6 _,fun _ _ j v hc=>B6W hc,fun _=>A7H _ _ _ _ _⟩
 refine h.change (fun i=>hget _ (by simp)) hX (fun id r hr=>?_) (fun b c hc=>?_) (B6a _ _ _ _) (by simp) rfl rfl rfl (fun id r h1 _ hg=>by
  have hid:id≠d:=by have:=h.nn.1;omega
  exact ⟨⟨r,by rwa [hget _ (by simpa using hid)] at hg⟩,upd_ne _ hid _⟩) (fun b c hg=>.inl ⟨⟨c,by rwa [hget _ (by simp)] at hg⟩,rfl⟩)
 ·by_cases hid:id=d
  ·subst hid;rw [St.get_cons_same] at hr;injection hr with hr;injection hr with hr;subst hr
   simp only [upd_same];exact ho
  ·rw [hget _ (by simpa using hid)] at hr;simp only [upd_ne _ hid];exact (h.rw id r hr).move (A7H _ _ _ _ _) (A7G _ _ _ _)
 ·rw [hget _ (by simp)] at hc;obtain ⟨cs',h3,h4,h5,h6⟩:=h.bx b c hc;have hlt:(m.β b).g<m.w.heap.size:=(A9.1 h6).1;refine ⟨cs',All2.imp (fun l hm x hb=>hb.ext (hX.sub fun q hq=>⟨.b b,.b c,hc,E6.2 ⟨l,hm,hq⟩⟩)) h3,h4,?_,?_⟩
  ·show upd m.Z m.w.heap.size (some [2*d]) (m.β b).g=_;rw [upd_ne _ (by omega)];exact h5
  ·show (m.w.alloc o).heap[(m.β b).g]? = _;rw [alloc_old _ _ _ hlt];exact h6
def avL:AV->Option (List Lf)
 | .one l=>some [l]
 | .agg ls=>some ls
 | .tup _=>none
 | .und=>none
theorem LfC.one{s:St}{m:Mem}{l:Lf}{v:Value}(h:LfC s m l v):v.oneCell' = true:=by
 cases l with
 | int k n=>simp only [LfC] at h;subst h;rfl
 | bool b=>simp only [LfC] at h;subst h;rfl
 | str x=>simp only [LfC] at h;subst h;rfl
 | nil=>simp only [LfC] at h;subst h;rfl
 | fn f=>simp only [LfC] at h;subst h;exact B9b f
 | anyb=>obtain ⟨b,rfl⟩:=h;rfl
 | clo f b off=>obtain ⟨p,rfl,_⟩:=h;rfl
 | chk f e k xs n=>obtain ⟨b1,b2,v1,rfl,_⟩:=h;rfl
 | any=>exact h
 | nilp=>simp only [LfC] at h;subst h;rfl
 | ext id q off ver p e k zs=>exact h.1
 | ro e k xs=>exact Ro.one (k:=.rs e k) h v (by simp)
 | own id=>exact h.1
 | apt n id=>exact h.1
 | rpa n k xs=>exact Ro.one (k:=.pa n k) h v (by simp)
 | mp es=>obtain ⟨b,_,_,e,_⟩:=h;subst e;rfl
 | mpb b=>simp only [LfC] at h;subst h;rfl
 | vw id lo hi=>exact h.1
 | sub id q off ver=>exact h.1
 | ptr b off=>exact h.1
 | ept id q off=>exact h.1
 | rpt k x off=>obtain ⟨ad,ds,_,_,_,rfl⟩:=h;rfl
theorem All2.one{s:St}{m:Mem}:∀ {ls:List Lf} {cs:List Value},All2 (LfC s m) ls cs->∀ u∈cs,u.oneCell' = true
 | [],[],_,u,hu=>nomatch hu
 | l::ls,c::cs,h,u,hu=>by
  rcases B4.1 hu with rfl | hu
  ·exact LfC.one h.1
  ·exact All2.one h.2 u hu
abbrev Tg:=List (Nat×(H9->Option H9))
def A0D:Tg->Nat->Option (H9->Option H9)
 | [],_=>none
 | (id,f)::t,r=>if 2*id=r then some f else A0D t r
def L0(tg:Tg)(Z:Col):Col:=fun b=>match Z b with
 | some (r::q)=>match A0D tg r with
  | some f=>f q
  | none=>some (r::q)
 | c=>c
theorem P6(w:World)(tg:Tg)(Z:Col):Keeps w w Z (L0 tg Z):=fun b hb _=>⟨rfl,by simp only [L0,hb]⟩
theorem A6b(w:World)(tg:Tg)(Z:Col):Fore w w Z (L0 tg Z):=fun b hb _=>⟨rfl,by simp only [L0,hb]⟩
theorem A5K{w:World}{tg:Tg}{Z:Col}{id:Nat}{f:H9->Option H9}(hl:A0D tg (2*id)=some f){p p':H9}(hf:∀ q,f (p++q)=some (p'++q)) :
  Moves w w Z (L0 tg Z) (2*id::p) p':=fun b q hb _=>⟨rfl,by
 have hb':Z b=some (2*id::(p++q)):=hb;simp only [L0,hb',hl,hf]⟩
theorem B0m{w:World}{tg:Tg}{Z:Col}{id:Nat}{f:H9->Option H9}(hl:A0D tg (2*id)=some f){p:H9}(hf:∀ q,f (p++q)=none) :
  Frees w w Z (L0 tg Z) (2*id::p):=fun b q hb _=>⟨rfl,by
 have hb':Z b=some (2*id::(p++q)):=hb;simp only [L0,hb',hl,hf]⟩
theorem A0N{w:World}{tg:Tg}{Z:Col}{r:Nat}(hl:A0D tg r=none)(p:H9):Moves w w Z (L0 tg Z) (r::p) (r::p):=fun b q hb _=>⟨rfl,by
 have hb':Z b=some (r::(p++q)):=hb;simp only [L0,hb',hl];rfl⟩
theorem A48{tg:Tg}{r:Nat}(h:∀ v∈tg,2*v.1≠r):A0D tg r=none:=by
 induction tg with
 | nil=>rfl
 | cons v tg ih=>
  simp only [A0D];rw [D6 (h v A5)];exact ih fun u hu=>h u (B5 _ hu)
theorem A8n{ids:List Nat}{s:St}{l:Loc}(hl:∀ i∈ids,l≠.r i):St.get (ids.map (fun i=>(Loc.r i,(none:Option LV)))++s) l=s.get l:=by
 induction ids with
 | nil=>rfl
 | cons i ids ih=>
  rw [G3,C7,St.get_cons_ne (R5 (hl i A5))];exact ih fun j hj=>hl j (B5 _ hj)
theorem A4i{ids:List Nat}{s:St}{i:Nat}(hi:i∈ids):St.get (ids.map (fun i=>(Loc.r i,(none:Option LV)))++s) (.r i)=none:=by
 induction ids with
 | nil=>cases hi
 | cons j ids ih=>
  rw [G3,C7];by_cases e:j=i
  ·subst e;exact St.get_cons_same _ _ _
  ·rw [St.get_cons_ne (by simpa using e)];exact ih ((B4.1 hi).resolve_left (fun h=>e h.symm))
theorem Rel.drop{n:Nat}{w0:World}{Z0:Gh}{s:St}{a:Act}{m:Mem}(h:Rel n w0 Z0 s a m)(tg:Tg) :
  Rel n w0 Z0 ((tg.map (·.1)).map (fun i=>(Loc.r i,(none:Option LV)))++s) a ⟨m.w,L0 tg m.Z,m.ρ,m.β⟩:=by
 have hgt:∀ l,(∀ i,l≠.r i)->St.get ((tg.map (·.1)).map (fun i=>(Loc.r i,(none:Option LV)))++s) l=s.get l:=fun l hl=>A8n fun i _=>hl i
 have hgr:∀ id lv,St.get ((tg.map (·.1)).map (fun i=>(Loc.r i,(none:Option LV)))++s) (.r id)=some lv->id ∉ tg.map (·.1)/\s.get (.r id)=some lv:=by
  intro id lv hg;by_cases hi:id∈tg.map (·.1)
  ·rw [A4i hi] at hg;cases hg
  ·refine ⟨hi,?_⟩;rw [A8n fun i hh e=>hi (by injection e with e;subst e;exact hh)] at hg;exact hg
 have hX:Ext s m ((tg.map (·.1)).map (fun i=>(Loc.r i,(none:Option LV)))++s) ⟨m.w,L0 tg m.Z,m.ρ,m.β⟩ (Live s):=
  ⟨P6 _ _ _,fun id r' _ hr=>⟨r',(hgr id _ hr).2,rfl,rfl,rfl,C6 _,fun _ _ _ _ hc=>hc,fun _=>A0N (A48 fun v hv e=>(hgr id _ hr).1 (D0.2 ⟨v,hv,by omega⟩)) []⟩,fun b c' _ hc=>⟨c',by rwa [hgt _ (by simp)] at hc,rfl⟩,fun q i _ hi=>by rwa [hgt _ (by simp)] at hi⟩
 refine h.change (fun d=>hgt _ (by simp)) hX (fun id r hr=>?_) (fun b c hc=>?_) (A6b _ _ _) (C6 _) rfl rfl rfl (fun id r _ _ hg=>⟨⟨r,(hgr id _ hg).2⟩,rfl⟩) (fun b c hg=>.inl ⟨⟨c,by rwa [hgt _ (by simp)] at hg⟩,rfl⟩)
 ·obtain ⟨hni,hg⟩:=hgr id _ hr;exact (h.rw id r hg).move (A0N (A48 fun v hv e=>hni (D0.2 ⟨v,hv,by omega⟩)) []) (P6 _ _ _)
 ·rw [hgt _ (by simp)] at hc;obtain ⟨cs',h3,h4,h5,h6⟩:=h.bx b c hc;refine ⟨cs',All2.imp (fun l hm x hb=>hb.ext (hX.sub fun q hq=>⟨.b b,.b c,hc,E6.2 ⟨l,hm,hq⟩⟩)) h3,h4,?_,h6⟩;have hlt:(m.β b).g<m.w.heap.size:=(A9.1 h6).1;have:=(A0N (w:=m.w) (tg:=tg) (Z:=m.Z) (r:=2*b+1) (A48 fun v _=>by omega) [] (m.β b).g [] h5 hlt).2;exact this
def A7I(k k':K)(xs:List k.T):Option (List k'.T):=if h:k=k' then some (h▸xs) else none
theorem S5{k k':K}{xs:List k.T}{ys:List k'.T}(h:A7I k k' xs=some ys):∃ e:k=k',ys=e▸xs:=by
 unfold A7I at h;split at h
 ·rename_i e;injection h with h;exact ⟨e,h.symm⟩
 ·cases h
def K.sim:K->K->Bool
 | .int a,.int b=>decide (a=b)
 | .bool,.bool=>true
 | .fnc a,.fnc b=>Nat.beq a b
 | .str,.str=>true
 | .sl _ k,.sl _ k'=>k.sim k'
 | .sl _ k,.rs _ k'=>k.sim k'
 | .rs _ k,.sl _ k'=>k.sim k'
 | .rs _ k,.rs _ k'=>k.sim k'
 | .pa n k,.pa n' k'=>Nat.beq n n'&&k.sim k'
 | .pair a b,.pair a' b'=>a.sim a'&&b.sim b'
 | _,_=>false
theorem K.sim_T:∀ {k k':K},k.sim k' = true->k.T=k'.T
 | .int _,.int _,_=>rfl
 | .bool,.bool,_=>rfl
 | .fnc _,.fnc _,_=>rfl
 | .str,.str,_=>rfl
 | .sl _ k,.sl _ k',h=>Q9 List (K.sim_T (k:=k) (k':=k') h)
 | .sl _ k,.rs _ k',h=>Q9 List (K.sim_T (k:=k) (k':=k') h)
 | .rs _ k,.sl _ k',h=>Q9 List (K.sim_T (k:=k) (k':=k') h)
 | .rs _ k,.rs _ k',h=>Q9 List (K.sim_T (k:=k) (k':=k') h)
 | .pa _ k,.pa _ k',h=>Q9 List (K.sim_T (k:=k) (k':=k') (by simp only [K.sim,B3] at h;exact h.2))
 | .pair a b,.pair a' b',h=>by
  simp only [K.sim,B3] at h;show (a.T×b.T)=(a'.T×b'.T);rw [K.sim_T h.1,K.sim_T h.2]
theorem K.sim_sz:∀ {k k':K},k.sim k' = true->k.sz=k'.sz
 | .int _,.int _,_=>rfl
 | .bool,.bool,_=>rfl
 | .fnc _,.fnc _,_=>rfl
 | .str,.str,_=>rfl
 | .sl _ k,.sl _ k',h=>rfl
 | .sl _ k,.rs _ k',h=>rfl
 | .rs _ k,.sl _ k',h=>rfl
 | .rs _ k,.rs _ k',h=>rfl
 | .pa _ k,.pa _ k',h=>rfl
 | .pair a b,.pair a' b',h=>by
  simp only [K.sim,B3] at h;simp only [K.sz,K.sim_sz h.1,K.sim_sz h.2]
theorem RoL.heq{α β:Type}(e:α=β){R:α->List Value->Prop}{R':β->List Value->Prop}{sz sz':Nat}(hs:sz=sz'){w:World}{Z:Col}{xs:List α}{ys:List β}{cs:List Value}
  (h:RoL R sz w Z xs cs) (hx:HEq xs ys) (hR:∀ x y ds,HEq x y->R x ds->R' y ds):RoL R' sz' w Z ys cs:=by
 cases e;cases hx;cases hs;obtain ⟨A,c,rfl,hl,hm,hc⟩:=h;refine ⟨A,c,rfl,hl,hm,fun hn=>?_⟩;obtain ⟨ad,rfl,hZ,hi⟩:=hc hn;exact ⟨ad,rfl,hZ,fun i h=>let ⟨ds,hd,hr,hcell⟩:=hi i h;⟨ds,hd,hR _ _ _ B6O hr,hcell⟩⟩
theorem RoP.heq{α β:Type}(e:α=β){R:α->List Value->Prop}{R':β->List Value->Prop}{n sz sz':Nat}(hs:sz=sz'){w:World}{Z:Col}{xs:List α}{ys:List β}{cs:List Value}
  (h:RoP R n sz w Z xs cs) (hx:HEq xs ys) (hR:∀ x y ds,HEq x y->R x ds->R' y ds):RoP R' n sz' w Z ys cs:=by
 cases e;cases hx;cases hs;rcases h with h | ⟨ad,rfl,hn,hZ,hl,hi⟩
 ·exact .inl h
 ·exact .inr ⟨ad,rfl,hn,hZ,hl,fun i h=>let ⟨ds,hd,hr,hcell⟩:=hi i h;⟨ds,hd,hR _ _ _ B6O hr,hcell⟩⟩
theorem Ro.ofSl{e:Nat}{k:K}{w:World}{Z:Col}{xs:List k.T}{v:Value}(h:Ro (.rs e k) w Z xs [v])(hn:0<xs.length):Ro (.pa xs.length k) w Z xs [.pointer (some (A0R v))]:=by
 obtain ⟨A,c,e1,hl,hm,hc⟩:=h;injection e1 with e1 _
 obtain ⟨ad,rfl,hZ,hi⟩:=hc hn;subst e1;refine .inr ⟨ad,rfl,rfl,hZ,?_,hi⟩;obtain ⟨ds,hd,_,hcell⟩:=hi 0 hn;have hp:=k.sz_pos;have hlt:=J2 w _ (hcell 0 ds[0] (by simp [show 0<ds.length by omega]))
 rwa [add_block] at hlt
theorem C6b{α α' β β':Type}(e:α=α')(e':β=β'){x:α×β}{y:α'×β'}(h:HEq x y):HEq x.1 y.1/\HEq x.2 y.2:=by
 cases e;cases e';cases h;exact ⟨B6O,B6O⟩
theorem C8l{α β:Type}(e:α=β){xs:List α}{ys:List β}(h:HEq xs ys)(lo hi:Nat):HEq ((xs.take hi).drop lo) ((ys.take hi).drop lo):=by
 cases e;cases h;rfl
theorem Ro.sim:∀ {k k':K} {w:World} {Z:Col} {x:k.T} {y:k'.T} {cs:List Value},k.sim k' = true->HEq x y->Ro k w Z x cs->Ro k' w Z y cs
 | .int a,.int b,_,_,_,_,_,h,he,hr=>by
  have h:=A8 h;subst h;cases he;exact hr
 | .bool,.bool,_,_,_,_,_,_,he,hr=>by cases he;exact hr
 | .fnc a,.fnc b,_,_,_,_,_,h,he,hr=>by
  have h:=A0 h;subst h;cases he;exact hr
 | .str,.str,_,_,_,_,_,_,he,hr=>by cases he;exact hr
 | .sl _ k,.sl _ k',_,_,_,_,_,h,he,hr=>RoL.heq (K.sim_T (k:=k) (k':=k') h) (K.sim_sz (k:=k) (k':=k') h) hr he fun x y ds hxy hx=>Ro.sim (k:=k) (k':=k') h hxy hx
 | .sl _ k,.rs _ k',_,_,_,_,_,h,he,hr=>RoL.heq (K.sim_T (k:=k) (k':=k') h) (K.sim_sz (k:=k) (k':=k') h) hr he fun x y ds hxy hx=>Ro.sim (k:=k) (k':=k') h hxy hx
 | .rs _ k,.sl _ k',_,_,_,_,_,h,he,hr=>RoL.heq (K.sim_T (k:=k) (k':=k') h) (K.sim_sz (k:=k) (k':=k') h) hr he fun x y ds hxy hx=>Ro.sim (k:=k) (k':=k') h hxy hx
 | .rs _ k,.rs _ k',_,_,_,_,_,h,he,hr=>RoL.heq (K.sim_T (k:=k) (k':=k') h) (K.sim_sz (k:=k) (k':=k') h) hr he fun x y ds hxy hx=>Ro.sim (k:=k) (k':=k') h hxy hx
 | .pa n k,.pa n' k',_,_,_,_,_,h,he,hr=>by
  simp only [K.sim,B3] at h;have hn:=A0 h.1;subst hn;exact RoP.heq (K.sim_T (k:=k) (k':=k') h.2) (K.sim_sz (k:=k) (k':=k') h.2) hr he fun x y ds hxy hx=>Ro.sim (k:=k) (k':=k') h.2 hxy hx
 | .pair a b,.pair a' b',_,_,_,_,_,h,he,hr=>by
  simp only [K.sim,B3] at h;obtain ⟨c0,c1,rfl,h0,h1⟩:=hr;obtain ⟨e1,e2⟩:=C6b (K.sim_T h.1) (K.sim_T h.2) he;exact ⟨c0,c1,rfl,Ro.sim h.1 e1 h0,Ro.sim h.2 e2 h1⟩
def A35(k k':K)(xs:List k.T):Option (List k'.T):=if h:k.sim k' = true then some (cast (Q9 List (K.sim_T h)) xs) else none
theorem S6{k k':K}{xs:List k.T}{ys:List k'.T}(h:A35 k k' xs=some ys):k.sim k' = true/\HEq xs ys:=by
 unfold A35 at h;split at h
 ·rename_i e;injection h with h;exact ⟨e,h▸(cast_heq _ _).symm⟩
 ·cases h
theorem B0n{k k':K}{xs:List k.T}{ys:List k'.T}(h:A35 k k' xs=some ys){e e':Nat}{w:World}{Z:Col}{cs:List Value}(hr:Ro (.rs e k) w Z xs cs):Ro (.rs e' k') w Z ys cs:=
 Ro.sim (k:=.rs e k) (k':=.rs e' k') (S6 h).1 (S6 h).2 hr
abbrev Mv:=List (Nat×Option H9×Row)
def H1(s:St):(k:K)->List Lf->H9->Option (k.T×List Lf×Mv)
 | .int U,.int U' n::r,_=>match decide (U=U') with
  | true=>some (n,r,[])
  | false=>none
 | .bool,.bool b::r,_=>some (b,r,[])
 | .fnc f,.fn f'::r,_=>match Nat.beq f f' with
  | true=>some ((),r,[])
  | false=>none
 | .str,.str b::r,_=>some (b,r,[])
 | .sl _ k,.nil::r,_=>some (([]:List k.T),r,[])
 | .sl e k,.own id::r,p=>match s.getR id with
  | some row=>match Nat.beq row.e e,A7I row.k k row.xs with
   | true,some xs=>some (xs,r,[(id,some p,row)])
   | _,_=>none
  | none=>none
 | .sl e k,.vw id 0 hi::r,p=>match s.getR id with
  | some row=>match Nat.beq row.e e,A7I row.k k row.xs with
   | true,some xs=>some (xs.take hi,r,[(id,some p,row)])
   | _,_=>none
  | none=>none
 | .rs _ k,.nil::r,_=>some (([]:List k.T),r,[])
 | .rs _ k,.ro _ k' xs::r,_=>match A35 k' k xs with
  | some ys=>some (ys,r,[])
  | none=>none
 | .rs _ k,.own id::r,_=>match s.getR id with
  | some row=>match A35 row.k k row.xs with
   | some xs=>some (xs,r,[(id,none,row)])
   | none=>none
  | none=>none
 | .rs _ k,.vw id lo hi::r,_=>match s.getR id with
  | some row=>match A35 row.k k row.xs with
   | some xs=>some ((xs.take hi).drop lo,r,[(id,none,row)])
   | none=>none
  | none=>none
 | .pa n k,.rpa n' k' xs::r,_=>match Nat.beq n n',A35 k' k xs with
  | true,some ys=>some (ys,r,[])
  | _,_=>none
 | .pa n k,.apt n' id::r,_=>match s.getR id with
  | some row=>match Nat.beq n n'&&Nat.ble 1 n,A35 row.k k row.xs with
   | true,some xs=>some (xs,r,[(id,none,row)])
   | _,_=>none
  | none=>none
 | .pair a b,ls,p=>match H1 s a ls (p ++ [0]) with
  | some (x,r,m1)=>match H1 s b r (p ++ [1]) with
   | some (y,r',m2)=>some ((x,y),r',m1++m2)
   | none=>none
  | none=>none
 | _,_,_=>none
def mvR(mv:Mv):Rds:=mv.map fun v=>(.r v.1,.r v.2.2)
def Does(w w':World)(Z Z':Col)(p0:H9)(mv:Mv):Prop:=
 ∀ v∈mv,match v.2.1 with
  | some p=>Moves w w' Z Z' [2*v.1] (p0++p)
  | none=>Frees w w' Z Z' [2*v.1]
theorem B9h{k:K}{e:Nat}{w:World}{Z:Col}{p:H9}{xs:List k.T}{v:Value}(h:OwL (Ow k w Z) e k.sz w Z p xs v){hi:Nat}(hh:hi<=xs.length) :
  OwL (Ow k w Z) e k.sz w Z p (xs.take hi) (cutV k.sz 0 hi v):=by
 obtain ⟨inner,ho,hc,hi'⟩:=h;have hl:(xs.take hi).length=hi:=by rw [B2];omega
 rcases ho.2 with ⟨rfl,hn⟩ | ⟨g,cap,cur,fz,rfl,hb,hg,hfz,hn,hcap,hs,ht⟩
 ·have h0:hi=0:=by omega
  subst h0;refine ⟨[],?_,fun g hg=>by simp [cutV,Value.ownBlock] at hg,fun i h=>by simp at h⟩;simpa [cutV] using A3M w 0 e k.sz
 ·have e1:cutV k.sz 0 hi (.slice (some ⟨g,0,none⟩) xs.length cap)=.slice (some ⟨g,0,none⟩) hi cap:=by
   simp only [cutV,A0d,Nat.sub_zero,L7,Addr.add,Q7];split<;>rfl
  rw [e1];have hlen:hi*k.sz<=inner.length:=by rw [ho.1];exact E1 _ hh
  refine ⟨inner.take (hi*k.sz),⟨by rw [hl,B2];omega,.inr ⟨g,cap,cur,fz,by rw [hl],hb,hg,hfz,by rw [hl];omega,hcap,hs,?_⟩⟩,hc,fun i h=>?_⟩
  ·rw [hl,<- ht,M9]
   congr 1
   exact (P2 (E1 _ hh)).symm
  ·rw [hl] at h;have hx:=hi' i (by omega);have e2:(xs.take hi)[i]'(by rw [hl];exact h)=xs[i]'(by omega):=by simp
   rw [e2];have e3:((inner.take (hi*k.sz)).drop (i*k.sz)).take k.sz=(inner.drop (i*k.sz)).take k.sz:=by
    rw [A0K,M9]
    congr 1
    have:i*k.sz+k.sz<=hi*k.sz:=by rw [<- G2];exact E1 _ h
    omega
   rw [e3];exact hx
theorem OwL.toFree{k:K}{e e':Nat}{w w':World}{Z Z':Col}{p:H9}{xs:List k.T}{v:Value}(h:OwL (Ow k w Z) e k.sz w Z p xs v)(hf:Frees w w' Z Z' p)(hk:Keeps w w' Z Z') :
  Ro (.rs e' k) w' Z' xs [v]:=Ow.free (k:=.sl e k) ⟨v,rfl,h⟩ hf hk
theorem B6B{s s':St}{n:Nat}{w0:World}{Z0:Gh}{a:Act}{m:Mem}(hr:Rel n w0 Z0 s' a m){w':World}{Z':Col}(hk:Keeps m.w w' m.Z Z')(p0:H9) :
  ∀ {k:K} {ls:List Lf} {p:H9} {x:k.T} {rest:List Lf} {mv:Mv} {cs:List Value},H1 s k ls p=some (x,rest,mv)->Reads s' (mvR mv)->All2 (LfC s' m) ls cs->
   Does m.w w' m.Z Z' p0 mv->∃ c0 c1,cs=c0++c1/\Ow k w' Z' (p0++p) x c0/\All2 (LfC s' m) rest c1
 | .int U,ls,p,x,rest,mv,cs,h,hrd,hl,hd=>by
  cases ls with
  | nil=>simp [H1] at h
  | cons l ls=>
   cases cs with
   | nil=>exact hl.elim
   | cons c cs=>
    cases l<;>simp only [H1] at h<;>try (cases h;done)
    split at h
    ·rename_i e;have e:=A8 e;injection h with h;injection h with h1 h;injection h with h2 h3
     subst h1;subst h2;subst e;exact ⟨[c],cs,rfl,by have:=hl.1;simp only [LfC] at this;subst this;rfl,hl.2⟩
    ·cases h
 | .fnc f,ls,p,x,rest,mv,cs,h,hrd,hl,hd=>by
  cases ls with
  | nil=>simp [H1] at h
  | cons l ls=>
   cases cs with
   | nil=>exact hl.elim
   | cons c cs=>
    cases l<;>simp only [H1] at h<;>try (cases h;done)
    split at h
    ·rename_i e;have e:=A0 e;injection h with h;injection h with h1 h;injection h with h2 h3
     subst h1;subst h2;subst e;exact ⟨[c],cs,rfl,by have:=hl.1;simp only [LfC] at this;subst this;rfl,hl.2⟩
    ·cases h
 | .bool,ls,p,x,rest,mv,cs,h,hrd,hl,hd=>by
  cases ls with
  | nil=>simp [H1] at h
  | cons l ls=>
   cases cs with
   | nil=>exact hl.elim
   | cons c cs=>
    cases l<;>simp only [H1] at h<;>try (cases h;done)
    injection h with h;injection h with h1 h;injection h with h2 h3
    subst h1;subst h2;exact ⟨[c],cs,rfl,by have:=hl.1;simp only [LfC] at this;subst this;rfl,hl.2⟩
 | .str,ls,p,x,rest,mv,cs,h,hrd,hl,hd=>by
  cases ls with
  | nil=>simp [H1] at h
  | cons l ls=>
   cases cs with
   | nil=>exact hl.elim
   | cons c cs=>
    cases l<;>simp only [H1] at h<;>try (cases h;done)
    injection h with h;injection h with h1 h;injection h with h2 h3
    subst h1;subst h2;exact ⟨[c],cs,rfl,by have:=hl.1;simp only [LfC] at this;subst this;rfl,hl.2⟩
 | .sl e k,ls,p,x,rest,mv,cs,h,hrd,hl,hd=>by
  cases ls with
  | nil=>simp [H1] at h
  | cons l ls=>
   cases cs with
   | nil=>exact hl.elim
   | cons c cs=>
    cases l with
    | nil=>
     simp only [H1] at h;injection h with h;injection h with h1 h;injection h with h2 h3
     subst h1;subst h2;have:=hl.1;simp only [LfC] at this;subst this;exact ⟨[_],cs,rfl,⟨_,rfl,[],A3M _ _ _ _,fun g hg=>by simp [Value.ownBlock] at hg,fun i h=>by simp at h⟩,hl.2⟩
    | own id=>
     simp only [H1] at h;split at h
     ·rename_i row er;split at h
      ·rename_i xs he hcast;injection h with h;injection h with h1 h;injection h with h2 h3
       subst h1;subst h2;subst h3;obtain ⟨ek,rfl⟩:=S5 hcast;subst ek;have hrow:=hrd (.r id,.r row) (by simp [mvR]);have hv:=hl.1.2 row hrow;have hm:=hd (id,some p,row) (by simp);have he:=A0 he;subst he;exact ⟨[c],cs,rfl,⟨c,rfl,by rw [hv];exact (hr.rw id row hrow).move hm hk⟩,hl.2⟩
      ·cases h
     ·cases h
    | vw id lo hi=>
     cases lo with
     | succ lo=>simp [H1] at h
     | zero=>
      simp only [H1] at h;split at h
      ·rename_i row er;split at h
       ·rename_i xs he hcast;injection h with h;injection h with h1 h;injection h with h2 h3
        subst h1;subst h2;subst h3;obtain ⟨ek,rfl⟩:=S5 hcast;subst ek;have hrow:=hrd (.r id,.r row) (by simp [mvR]);obtain ⟨_,hh,hv⟩:=hl.1.2 row hrow;have hm:=hd (id,some p,row) (by simp);have he:=A0 he;subst he;exact ⟨[c],cs,rfl,⟨c,rfl,by rw [hv];exact B9h ((hr.rw id row hrow).move hm hk) hh⟩,hl.2⟩
       ·cases h
      ·cases h
    | int k n=>simp [H1] at h
    | bool b=>simp [H1] at h
    | str b=>simp [H1] at h
    | ro e k xs=>simp [H1] at h
    | sub id q off ver=>simp [H1] at h
    | ptr b off=>simp [H1] at h
    | ept id q off=>simp [H1] at h
    | rpt k x off=>simp [H1] at h
    | rpa n k x=>simp [H1] at h
    | mp _=>simp [H1] at h
    | mpb _=>simp [H1] at h
    | apt n id=>simp [H1] at h
    | fn f=>simp [H1] at h
    | anyb=>simp [H1] at h
    | chk _ _ _ _ _=>simp [H1] at h
    | clo _ _ _=>simp [H1] at h
    | any=>simp [H1] at h
    | nilp=>simp [H1] at h
    | ext id q off ver p e k zs=>simp [H1] at h
 | .rs e k,ls,p,x,rest,mv,cs,h,hrd,hl,hd=>by
  cases ls with
  | nil=>simp [H1] at h
  | cons l ls=>
   cases cs with
   | nil=>exact hl.elim
   | cons c cs=>
    cases l with
    | nil=>
     simp only [H1] at h;injection h with h;injection h with h1 h;injection h with h2 h3
     subst h1;subst h2;have:=hl.1;simp only [LfC] at this;subst this;exact ⟨[_],cs,rfl,⟨none,0,rfl,C6 _,G6 _,fun h=>by simp at h⟩,hl.2⟩
    | ro e' k' xs=>
     simp only [H1] at h;split at h
     ·rename_i ys hcast;injection h with h;injection h with h1 h;injection h with h2 h3
      subst h1;subst h2;subst h3;have hro:Ro (.rs e' k') m.w m.Z xs [c]:=hl.1;exact ⟨[c],cs,rfl,Ro.keep (k:=.rs e k) (B0n hcast hro) hk,hl.2⟩
     ·cases h
    | own id=>
     simp only [H1] at h;split at h
     ·rename_i row er;split at h
      ·rename_i xs hcast;injection h with h;injection h with h1 h;injection h with h2 h3
       subst h1;subst h2;subst h3;have hrow:=hrd (.r id,.r row) (by simp [mvR]);have hv:=hl.1.2 row hrow;have hm:=hd (id,none,row) (by simp);exact ⟨[c],cs,rfl,by rw [hv];exact B0n (e':=e) hcast ((hr.rw id row hrow).toFree (e':=e) hm hk),hl.2⟩
      ·cases h
     ·cases h
    | vw id lo hi=>
     simp only [H1] at h;split at h
     ·rename_i row er;split at h
      ·rename_i xs hcast;injection h with h;injection h with h1 h;injection h with h2 h3
       subst h1;subst h2;subst h3;have hrow:=hrd (.r id,.r row) (by simp [mvR]);obtain ⟨g1,g2,hv⟩:=hl.1.2 row hrow;have hm:=hd (id,none,row) (by simp);obtain ⟨es,eh⟩:=S6 hcast;exact ⟨[c],cs,rfl,by rw [hv];exact Ro.sim (k:=.rs e row.k) (k':=.rs e k) es (C8l (K.sim_T es) eh _ _) (B4S (e:=e) ((hr.rw id row hrow).toFree hm hk) g1 g2),hl.2⟩
      ·cases h
     ·cases h
    | int k n=>simp [H1] at h
    | bool b=>simp [H1] at h
    | str b=>simp [H1] at h
    | sub id q off ver=>simp [H1] at h
    | ptr b off=>simp [H1] at h
    | ept id q off=>simp [H1] at h
    | rpt k x off=>simp [H1] at h
    | rpa n k x=>simp [H1] at h
    | mp _=>simp [H1] at h
    | mpb _=>simp [H1] at h
    | apt n id=>simp [H1] at h
    | fn f=>simp [H1] at h
    | anyb=>simp [H1] at h
    | chk _ _ _ _ _=>simp [H1] at h
    | clo _ _ _=>simp [H1] at h
    | any=>simp [H1] at h
    | nilp=>simp [H1] at h
    | ext id q off ver p e k zs=>simp [H1] at h
 | .pa n k,ls,p,x,rest,mv,cs,h,hrd,hl,hd=>by
  cases ls with
  | nil=>simp [H1] at h
  | cons l ls=>
   cases cs with
   | nil=>exact hl.elim
   | cons c cs=>
    cases l<;>simp only [H1] at h<;>try (cases h;done)
    ·rename_i n' k' xs;split at h
     ·rename_i ys hn hcast;injection h with h;injection h with h1 h;injection h with h2 h3
      subst h1;subst h2;subst h3;have hn:=A0 hn;subst hn;have hro:Ro (.pa n k') m.w m.Z xs [c]:=hl.1;refine ⟨[c],cs,rfl,Ro.keep (k:=.pa n k) (Ro.sim (k:=.pa n k') (k':=.pa n k) ?_ (S6 hcast).2 hro) hk,hl.2⟩;simp only [K.sim,B3];exact ⟨by simp,(S6 hcast).1⟩
     ·cases h
    ·rename_i n' id;split at h
     ·rename_i row er;split at h
      ·rename_i xs hn hcast;injection h with h;injection h with h1 h;injection h with h2 h3
       subst h1;subst h2;subst h3;simp only [B3] at hn;have hn1:=A0 hn.1;have hn2:=D5 hn.2;subst hn1;have hrow:=hrd (.r id,.r row) (by simp [mvR]);obtain ⟨hlen,hv⟩:=hl.1.2 row hrow;have hm:=hd (id,none,row) (by simp);have hfree:Ro (.rs row.e row.k) w' Z' row.xs [m.ρ id]:=(hr.rw id row hrow).toFree hm hk;have hpa:=Ro.ofSl hfree (by omega);rw [hlen] at hpa;refine ⟨[c],cs,rfl,?_,hl.2⟩;rw [hv];refine Ro.sim (k:=.pa n row.k) (k':=.pa n k) ?_ (S6 hcast).2 hpa;simp only [K.sim,B3];exact ⟨by simp,(S6 hcast).1⟩
      ·cases h
     ·cases h
 | .pair ka kb,ls,p,x,rest,mv,cs,h,hrd,hl,hd=>by
  simp only [H1] at h;split at h
  ·rename_i x1 r1 m1 e1;split at h
   ·rename_i x2 r2 m2 e2;injection h with h;injection h with h1 h;injection h with h2 h3
    subst h1;subst h2;subst h3;have hrd':Reads s' (mvR m1)/\Reads s' (mvR m2):=by
     rw [<- Reads.app];simpa [mvR] using hrd
    obtain ⟨c0,c1,rfl,ho1,hl1⟩:=B6B hr hk p0 e1 hrd'.1 hl (fun v hv=>hd v (E2 _ hv));obtain ⟨c2,c3,rfl,ho2,hl2⟩:=B6B hr hk p0 e2 hrd'.2 hl1 (fun v hv=>hd v (D3 _ hv));exact ⟨c0++c2,c3,by simp,⟨c0,c2,rfl,by rw [A7];exact ho1,by rw [A7];exact ho2⟩,hl2⟩
   ·cases h
  ·cases h
theorem B6b{s:St}:∀ {k:K} {ls:List Lf} {p:H9} {x:k.T} {rest:List Lf} {mv:Mv},H1 s k ls p=some (x,rest,mv)->Reads s (mvR mv):=by
 intro k;have one:∀ {id:Nat} {q:Option H9} {row:Row},s.getR id=some row->Reads s (mvR [(id,q,row)]):=by
  intro id q row er u hu;simp only [mvR,G3,A6R,A6] at hu;subst hu;exact St.getR_some.1 er
 induction k with
 | pair ka kb iha ihb=>
  intro ls p x rest mv h;simp only [H1] at h;split at h
  ·rename_i x1 r1 m1 e1;split at h
   ·rename_i x2 r2 m2 e2;injection h with h;injection h with h1 h;injection h with h2 h3
    subst h3;have:=Reads.app.2 ⟨iha e1,ihb e2⟩;simpa [mvR] using this
   ·cases h
  ·cases h
 | int U=>
  intro ls p x rest mv h;cases ls with
  | nil=>simp [H1] at h
  | cons l ls=>
   cases l<;>simp only [H1] at h<;>try (cases h;done)
   split at h
   ·injection h with h;injection h with _ h;injection h with _ h;subst h;exact Reads.nil _
   ·cases h
 | fnc f=>
  intro ls p x rest mv h;cases ls with
  | nil=>simp [H1] at h
  | cons l ls=>
   cases l<;>simp only [H1] at h<;>try (cases h;done)
   split at h
   ·injection h with h;injection h with _ h;injection h with _ h;subst h;exact Reads.nil _
   ·cases h
 | bool=>
  intro ls p x rest mv h;cases ls with
  | nil=>simp [H1] at h
  | cons l ls=>
   cases l<;>simp only [H1] at h<;>try (cases h;done)
   injection h with h;injection h with _ h;injection h with _ h;subst h;exact Reads.nil _
 | str=>
  intro ls p x rest mv h;cases ls with
  | nil=>simp [H1] at h
  | cons l ls=>
   cases l<;>simp only [H1] at h<;>try (cases h;done)
   injection h with h;injection h with _ h;injection h with _ h;subst h;exact Reads.nil _
 | sl e k ih=>
  intro ls p x rest mv h;cases ls with
  | nil=>simp [H1] at h
  | cons l ls=>
   cases l with
   | nil=>
    simp only [H1] at h;injection h with h;injection h with _ h;injection h with _ h;subst h;exact Reads.nil _
   | own id=>
    simp only [H1] at h;split at h
    ·rename_i row er;split at h
     ·injection h with h;injection h with _ h;injection h with _ h;subst h;exact one er
     ·cases h
    ·cases h
   | vw id lo hi=>
    cases lo with
    | succ lo=>simp [H1] at h
    | zero=>
     simp only [H1] at h;split at h
     ·rename_i row er;split at h
      ·injection h with h;injection h with _ h;injection h with _ h;subst h;exact one er
      ·cases h
     ·cases h
   | int k n=>simp [H1] at h
   | bool b=>simp [H1] at h
   | str b=>simp [H1] at h
   | ro e k xs=>simp [H1] at h
   | sub id q off ver=>simp [H1] at h
   | ptr b off=>simp [H1] at h
   | ept id q off=>simp [H1] at h
   | rpt k x off=>simp [H1] at h
   | rpa n k x=>simp [H1] at h
   | mp _=>simp [H1] at h
   | mpb _=>simp [H1] at h
   | apt n id=>simp [H1] at h
   | fn f=>simp [H1] at h
   | anyb=>simp [H1] at h
   | chk _ _ _ _ _=>simp [H1] at h
   | clo _ _ _=>simp [H1] at h
   | any=>simp [H1] at h
   | nilp=>simp [H1] at h
   | ext id q off ver p e k zs=>simp [H1] at h
 | pa n k ih=>
  intro ls p x rest mv h;cases ls with
  | nil=>simp [H1] at h
  | cons l ls=>
   cases l<;>simp only [H1] at h<;>try (cases h;done)
   ·split at h
    ·injection h with h;injection h with _ h;injection h with _ h;subst h;exact Reads.nil _
    ·cases h
   ·split at h
    ·rename_i row er;split at h
     ·injection h with h;injection h with _ h;injection h with _ h;subst h;exact one er
     ·cases h
    ·cases h
 | rs e k ih=>
  intro ls p x rest mv h;cases ls with
  | nil=>simp [H1] at h
  | cons l ls=>
   cases l with
   | nil=>
    simp only [H1] at h;injection h with h;injection h with _ h;injection h with _ h;subst h;exact Reads.nil _
   | ro e' k' xs=>
    simp only [H1] at h;split at h
    ·injection h with h;injection h with _ h;injection h with _ h;subst h;exact Reads.nil _
    ·cases h
   | own id=>
    simp only [H1] at h;split at h
    ·rename_i row er;split at h
     ·injection h with h;injection h with _ h;injection h with _ h;subst h;exact one er
     ·cases h
    ·cases h
   | vw id lo hi=>
    simp only [H1] at h;split at h
    ·rename_i row er;split at h
     ·injection h with h;injection h with _ h;injection h with _ h;subst h;exact one er
     ·cases h
    ·cases h
   | int k n=>simp [H1] at h
   | bool b=>simp [H1] at h
   | str b=>simp [H1] at h
   | sub id q off ver=>simp [H1] at h
   | ptr b off=>simp [H1] at h
   | ept id q off=>simp [H1] at h
   | rpt k x off=>simp [H1] at h
   | rpa n k x=>simp [H1] at h
   | mp _=>simp [H1] at h
   | mpb _=>simp [H1] at h
   | apt n id=>simp [H1] at h
   | fn f=>simp [H1] at h
   | anyb=>simp [H1] at h
   | chk _ _ _ _ _=>simp [H1] at h
   | clo _ _ _=>simp [H1] at h
   | any=>simp [H1] at h
   | nilp=>simp [H1] at h
   | ext id q off ver p e k zs=>simp [H1] at h
abbrev Ke(R:Type):=O->Option R
def OutE{R:Type}(P:Program)(s:St)(op:Op)(d:Nat)(U:Ke R)(r:R):Prop:=
 ∃ δ,U δ=some r/\Reads s δ.rd/\∀ n (o:Oper),o.op=op->o.dst=some d->d<n->Good P n o δ
theorem B93{s s':St}{x:Operand}{v:AV}{rds:Rds}(h:L1 s x=some (v,rds))(hrd:Reads s' rds):∀ q∈v.men,Live s' q:=by
 cases x with
 | tmp d=>
  simp only [L1] at h;split at h
  ·rename_i u hu;injection h with h;injection h with h1 h2;subst h1;subst h2
   exact fun q hq=>⟨.t d,.t u,hrd _ A5,hq⟩
  ·cases h
 | const c=>
  simp only [L1] at h;split at h
  ·rename_i u hu;injection h with h;injection h with h1 h2;subst h1;subst h2
   intro q hq;unfold B66 at hu;split at hu<;>first | (injection hu with hu;subst hu;cases hq) | cases hu
  ·cases h
 | func f=>
  simp only [L1] at h;split at h
  ·injection h with h;injection h with h1 h2;subst h1;intro q hq;cases hq
  ·cases h
 | global g=>simp [L1] at h
theorem B0o{s:St}{m:Mem}{v:AV}{x:Value}{ls:List Lf}(hl:avL v=some ls)(h:AVC s m v x):∃ cs:List Value,x.cells=cs.toArray/\All2 (LfC s m) ls cs:=by
 cases v with
 | one l=>
  simp only [avL] at hl;injection hl with hl;subst hl
  refine ⟨[x],?_,h,trivial⟩;have:=LfC.one h;cases x<;>simp [Value.oneCell'] at this<;>rfl
 | agg l=>
  simp only [avL] at hl;injection hl with hl;subst hl
  obtain ⟨cs,rfl,h⟩:=h;exact ⟨cs,rfl,h⟩
 | tup p=>simp [avL] at hl
 | und=>simp [avL] at hl
theorem C45{v:AV}{ls:List Lf}(h:avL v=some ls):∀ l∈ls,∀ q∈l.men,q∈v.men:=by
 cases v with
 | one l=>simp only [avL] at h;injection h with h;subst h;intro u hu q hq;rw [A6.1 hu] at hq;exact hq
 | agg l=>simp only [avL] at h;injection h with h;subst h;intro u hu q hq;exact E6.2 ⟨u,hu,hq⟩
 | tup p=>simp [avL] at h
 | und=>simp [avL] at h
def D0R{R:Type}(cfg:Cfg)(s:St)(d t:Nat)(x:Operand)(U:Ke R):Option R:=
 match L1 s x with
 | some (v,rx)=>match avL v with
  | some ls=>U ⟨rx,[(.t d,some (.t (.one (.ptr d 0)))),(.b d,some (.b ls))],[.b d]⟩
  | none=>none
 | none=>none
theorem C8m{R:Type}{P:Program}{cfg:Cfg}{s:St}{d t:Nat}{x:Operand}{U:Ke R}{r:R}(h:D0R cfg s d t x U=some r):OutE P s (.box t x) d U r:=by
 unfold D0R at h;split at h
 ·rename_i v rx ex;split at h
  ·rename_i ls el;refine ⟨_,h,B9 ex,fun n o ho hdst hd w0 Z0 s' a m hr hrd hnew next Q hn=>?_⟩
   obtain ⟨cs,hcs,hl⟩:=B0o el (D8 ex hr hrd);have hlive:=B93 ex hrd;have h1:=hr.newBox hd (hnew _ A5) t hl (All2.one hl) (fun l hm q hq=>hlive q (C45 el l hm q hq));have h2:=h1.put (v:=.one (.ptr d 0)) (x:=.pointer (some ⟨m.w.heap.size,0,none⟩)) hd ⟨rfl,fun c _=>by simp [upd_same]⟩;have hrun:(execOp a.eval o).run P m.w=.ok (.value (.pointer (some ⟨m.w.heap.size,0,none⟩))) (m.w.alloc (.cells cs.toArray t)):=by
    simp [execOp,ho,Instr.box,newVar,newRow,C4,hcs]
   simp only [Oper.wp,hrun,Oper.upon,hdst];exact hn _ _ h2
  ·cases h
 ·cases h
theorem B6c:∀ (k:K) (s:St) (m:Mem),All2 (LfC s m) (zl k) (zc k)
 | .int _,_,_=>⟨rfl,trivial⟩
 | .bool,_,_=>⟨rfl,trivial⟩
 | .fnc _,_,_=>⟨rfl,trivial⟩
 | .str,_,_=>⟨rfl,trivial⟩
 | .sl _ _,_,_=>⟨rfl,trivial⟩
 | .rs _ _,_,_=>⟨rfl,trivial⟩
 | .pa _ _,_,_=>⟨.inl ⟨rfl,rfl⟩,trivial⟩
 | .pair a b,s,m=>All2.app (B6c a s m) (B6c b s m)
theorem C2f:∀ (k:K),∀ l∈zl k,l.men = []
 | .int _,l,h=>by rw [A6.1 h];rfl
 | .bool,l,h=>by rw [A6.1 h];rfl
 | .fnc _,l,h=>by rw [A6.1 h];rfl
 | .str,l,h=>by rw [A6.1 h];rfl
 | .sl _ _,l,h=>by rw [A6.1 h];rfl
 | .rs _ _,l,h=>by rw [A6.1 h];rfl
 | .pa _ _,l,h=>by rw [A6.1 h];rfl
 | .pair a b,l,h=>by
  rcases C9.1 h with h | h
  ·exact C2f a l h
  ·exact C2f b l h
def C2g{R:Type}(cfg:Cfg)(d t:Nat)(U:Ke R):Option R:=
 match cfg.ty t with
 | some ti=>U ⟨[],[(.t d,some (.t (.one (.ptr d 0)))),(.b d,some (.b (zl ti.k)))],[.b d]⟩
 | none=>none
theorem C55{R:Type}{P:Program}{cfg:Cfg}(hc:J9 P cfg){s:St}{d t:Nat}{U:Ke R}{r:R}(h:C2g cfg d t U=some r):OutE P s (.alloc t) d U r:=by
 unfold C2g at h;split at h
 ·rename_i ti et;refine ⟨_,h,Reads.nil _,fun n o ho hdst hd w0 Z0 s' a m hr hrd hnew next Q hn=>?_⟩
  obtain ⟨f,z,hi,hs,hb,hz,hzc,_⟩:=hc.info et;have h1:=hr.newBox hd (hnew _ A5) t (B6c ti.k s' m) (All2.one (B6c ti.k s' m)) (fun l hm q hq=>by rw [C2f _ l hm] at hq;cases hq);have h2:=h1.put (v:=.one (.ptr d 0)) (x:=.pointer (some ⟨m.w.heap.size,0,none⟩)) hd ⟨rfl,fun c _=>by simp [upd_same]⟩;have hrun:(execOp a.eval o).run P m.w=.ok (.value (.pointer (some ⟨m.w.heap.size,0,none⟩))) (m.w.alloc (.cells (zc ti.k).toArray t)):=by
   have:z.cells=(zc ti.k).toArray:=by rw [<- hzc]
   simp [execOp,ho,Instr.alloc,zeroValue,typeInfo,hi,hz,newVar,newRow,C4,this]
  simp only [Oper.wp,hrun,Oper.upon,hdst];exact hn _ _ h2
 ·cases h
theorem B3U:∀ (k:K) (w:World) (Z:Col) (p:H9),Ow k w Z p (zd k) (zc k)
 | .int _,_,_,_=>rfl
 | .bool,_,_,_=>rfl
 | .fnc _,_,_,_=>rfl
 | .str,_,_,_=>rfl
 | .sl _ _,w,_,_=>⟨_,rfl,[],A3M _ _ _ _,fun g hg=>by simp [Value.ownBlock] at hg,fun i h=>by simp [zd] at h⟩
 | .rs _ _,_,_,_=>⟨none,0,rfl,C6 _,G6 _,fun h=>by simp [zd] at h⟩
 | .pa _ _,_,_,_=>.inl ⟨rfl,rfl⟩
 | .pair a b,w,Z,p=>⟨zc a,zc b,rfl,B3U a w Z _,B3U b w Z _⟩
theorem B6d:∀ k:K,(zc k).length=k.sz:=fun k=>(B3U k default A40 []).len
def B9i{R:Type}(cfg:Cfg)(d t:Nat)(U:Ke R):Option R:=
 match cfg.ar t with
 | some (n,e)=>match cfg.ty e with
  | some ti=>match Nat.ble n 4096 with
   | true=>U ⟨[],[(.t d,some (.t (.one (.apt n d)))),(.r d,some (.r ⟨t,ti.k,List.replicate n (zd ti.k),0⟩))],[.r d]⟩
   | false=>none
  | none=>none
 | none=>none
def B0p:Operand->Operand->Bool
 | .tmp a,.tmp b=>Nat.beq a b
 | .const (.int _ a),.const (.int _ b)=>decide (a=b)
 | _,_=>false
def C6c{R:Type}(cfg:Cfg)(s:St)(d t:Nat)(l c:Operand)(U:Ke R):Option R:=
 match L1 s l,B0p l c,cfg.el t with
 | some (.one (.int _ i),rl),true,some e=>match cfg.ty e with
  | some ti=>bif decide (0<=i) then bif decide (i.toNat<=9223372036854775807) then bif decide (ti.bytes*i.toNat<=281474976710656) then
    U ⟨rl,[(.t d,some (.t (.one (.own d)))),(.r d,some (.r ⟨e,ti.k,List.replicate i.toNat (zd ti.k),0⟩))],[.r d]⟩ else none else none else none
  | none=>none
 | _,_,_=>none
theorem C6d{z:Value}{size m j:Nat}(hz:z.cells.size=size)(hs:0<size)(hj:j<m) :
  ((madeCells z.cells (m*size)).toList.drop (j*size)).take size=z.cells.toList:=by
 have hle:j*size+size<=m*size:=by rw [<- G2];exact E1 _ hj
 apply A4c
 ·simp [size_madeCells,hz];omega
 ·intro i h1 h2;have hi:i<size:=by rw [D4,hz] at h2;exact h2
  have hmod:(j*size+i) % size=i:=by
   rw [A6S,Nat.mul_add_mod];exact Nat.mod_eq_of_lt hi
  simp [madeCells,hz,hmod];rw [B4P z.cells i (by omega)]
theorem C6e{R:Type}{P:Program}{cfg:Cfg}(hc:J9 P cfg){s:St}{d t:Nat}{l c:Operand}{U:Ke R}{r:R}(h:C6c cfg s d t l c U=some r):OutE P s (.makeSlice t l c) d U r:=by
 unfold C6c at h;split at h
 ·rename_i kl i rl e ex esame et;split at h
  ·rename_i ti eti;obtain ⟨h0,h⟩:=G7 h;obtain ⟨h1,h⟩:=G7 h;obtain ⟨h2,h⟩:=G7 h;have h0:=A8 h0;have h1:=A8 h1;have h2:=A8 h2;refine ⟨_,h,B9 ex,fun n o ho hdst hd w0 Z0 s' a m hr hrd hnew next Q hn=>?_⟩
   obtain ⟨f,z,hi,hs,hb,hz,hzc,_⟩:=hc.info eti;have hl:a.eval l=.int kl i:=D8 ex hr hrd;have hcv:∃ kc,a.eval c=.int kc i:=by
    cases l with
    | tmp x=>
     cases c with
     | tmp y=>simp only [B0p] at esame;rw [<- A0 esame];exact ⟨_,hl⟩
     | _=>simp [B0p] at esame
    | const u=>
     cases u with
     | int k1 n1=>
      cases c with
      | const u2=>
       cases u2 with
       | int k2 n2=>
        simp only [B0p] at esame;have esame:=A8 esame;simp only [Act.eval] at hl;injection hl with _ hl
        subst hl;subst esame;exact ⟨k2,rfl⟩
       | _=>simp [B0p] at esame
      | _=>simp [B0p] at esame
     | _=>simp [B0p] at esame
    | _=>simp [B0p] at esame
   obtain ⟨kc,hcv⟩:=hcv;have hi0:((i.toNat:Nat):Int)=i:=A28 h0;have hzs:z.cells.size=ti.k.sz:=by rw [<- D4,hzc,B6d]
   have hrun:(execOp a.eval o).run P m.w=.ok (.value (.slice (some ⟨m.w.heap.size,0,none⟩) i.toNat i.toNat)) (m.w.alloc (.cells (madeCells z.cells (i.toNat*ti.k.sz)) e)):=by
    have:=run_make (P:=P) m.w t e f z (hc.el et) hi hz kl kc i i h0 (A5e _) (by
     rw [hb,<- hi0,<- Int.natCast_mul];exact Int.ofNat_le.2 h2) (by omega)
    rw [hs] at this;simp [execOp,ho,hl,hcv,C4,this]
   have hlen:(List.replicate i.toNat (zd ti.k)).length=i.toNat:=U7;have h3:=hr.newRow (d:=d) hd (hnew _ A5) (row:=⟨e,ti.k,List.replicate i.toNat (zd ti.k),0⟩) (o:=.cells (madeCells z.cells (i.toNat*ti.k.sz)) e) (v:=.slice (some ⟨m.w.heap.size,0,none⟩) i.toNat i.toNat) (by
    refine ⟨(madeCells z.cells (i.toNat*ti.k.sz)).toList,?_,fun g hg=>?_,fun j hj=>?_⟩
    ·rw [hlen];exact A7E (A3s m.w _ _ (G6 _) (by simp only [maxLen];omega) (size_madeCells _ _))
    ·simp only [Value.ownBlock] at hg;injection hg with hg;subst hg
     simp [upd_same]
    ·simp only [U7] at hj;simp only [B0O];rw [C6d hzs ti.k.sz_pos hj,hzc];exact B3U _ _ _ _)
   have h4:=h3.put (v:=.one (.own d)) (x:=.slice (some ⟨m.w.heap.size,0,none⟩) i.toNat i.toNat) hd ⟨rfl,fun r _=>by simp [upd_same]⟩;simp only [Oper.wp,hrun,Oper.upon,hdst];exact hn _ _ h4
  ·cases h
 ·cases h
theorem C46{c:List Value}{sz:Nat}(hc:c.length=sz):∀ {n j:Nat},j<n->((List.replicate n c).flatten.drop (j*sz)).take sz=c
 | 0,j,h=>by omega
 | n+1,0,_=>by
  simp only [T1,A81,A0d,U5];rw [F2 (by omega),E8 (by omega)]
 | n+1,j+1,h=>by
  have e:(j+1)*sz=c.length+j*sz:=by rw [hc,J7];omega
  simp only [T1,A81];rw [e,A4d,I5 (by omega),F6,M7];exact C46 hc (by omega)
theorem C6f{c:List Value}{sz:Nat}(hc:c.length=sz)(n:Nat):(List.replicate n c).flatten.length=n*sz:=by
 simp [List.length_flatten,hc]
theorem C2h{R:Type}{P:Program}{cfg:Cfg}(hc:J9 P cfg){s:St}{d t:Nat}{U:Ke R}{r:R}(h:B9i cfg d t U=some r):OutE P s (.alloc t) d U r:=by
 unfold B9i at h;split at h
 ·rename_i n e et;split at h
  ·rename_i ti eti;split at h
   ·rename_i hn;have hn:=D5 hn;refine ⟨_,h,Reads.nil _,fun n1 o ho hdst hd w0 Z0 s' a m hr hrd hnew next Q hnx=>?_⟩
    obtain ⟨hu,f,z,hi,hz,hzc⟩:=hc.ar et;have hzc:=hzc ti eti;have hlen0:=B6d ti.k;have hsz0:z.cells.size=n*ti.k.sz:=by rw [<- D4,hzc,C6f hlen0]
    have hrun:(execOp a.eval o).run P m.w=.ok (.value (.pointer (some ⟨m.w.heap.size,0,none⟩))) (m.w.alloc (.cells z.cells t)):=by
     simp [execOp,ho,Instr.alloc,zeroValue,typeInfo,hi,hz,newVar,newRow,C4]
    have hlen:(List.replicate n (zd ti.k)).length=n:=U7;have h3:=hr.newRow (d:=d) hd (hnew _ A5) (row:=⟨t,ti.k,List.replicate n (zd ti.k),0⟩) (o:=.cells z.cells t) (v:=.slice (some ⟨m.w.heap.size,0,none⟩) n n) (by
     refine ⟨z.cells.toList,?_,fun g hg=>?_,fun j hj=>?_⟩
     ·rw [hlen];exact A7E (A3s m.w _ _ (G6 _) (by simp only [maxLen];omega) hsz0)
     ·simp only [Value.ownBlock] at hg;injection hg with hg;subst hg
      simp [upd_same]
     ·simp only [U7] at hj;simp only [B0O];rw [hzc,C46 hlen0 hj];exact B3U _ _ _ _)
    have h4:=h3.put (v:=.one (.apt n d)) (x:=.pointer (some ⟨m.w.heap.size,0,none⟩)) hd ⟨rfl,fun r hr=>by
     rw [St.get_cons_same] at hr;injection hr with hr;injection hr with hr;subst hr
     exact ⟨hlen,by simp [upd_same,A0R]⟩⟩
    simp only [Oper.wp,hrun,Oper.upon,hdst];exact hnx _ _ h4
   ·cases h
  ·cases h
 ·cases h
def Only(w w':World)(Z Z':Col)(r:Nat):Prop:=∀ b,b<w.heap.size->(∀ q,Z b≠some (r::q))->w'.heap[b]? = w.heap[b]?/\Z' b=Z b
theorem Only.keeps{w w':World}{Z Z':Col}{r:Nat}(h:Only w w' Z Z' r):Keeps w w' Z Z':=fun b hb hlt=>
 let ⟨e1,e2⟩:=h b hlt (fun q hq=>by rw [hb] at hq;cases hq);⟨e1,e2.trans hb⟩
theorem Only.fore{w w':World}{Z Z':Col}{r:Nat}(h:Only w w' Z Z' r):Fore w w' Z Z':=fun b hb hlt=>
 let ⟨e1,e2⟩:=h b hlt (fun q hq=>by rw [hb] at hq;cases hq);⟨e1,e2.trans hb⟩
theorem Only.moves{w w':World}{Z Z':Col}{r:Nat}(h:Only w w' Z Z' r){r':Nat}(hne:r'≠r)(p:H9):Moves w w' Z Z' (r'::p) (r'::p):=fun b q hb hlt=>by
 have hb':Z b=some (r'::(p++q)):=hb;obtain ⟨e1,e2⟩:=h b hlt (fun q' hq=>by rw [hb'] at hq;injection hq with hq;injection hq with hq _;exact hne hq);exact ⟨e1,e2.trans hb⟩
theorem A6T{k:K}{e:Nat}{w:World}{Z:Col}{p:H9}{xs:List k.T}{v:Value}(h:OwL (Ow k w Z) e k.sz w Z p xs v)(hn:0<xs.length) :
  Z (A0R v).block=some p/\(A0R v).block<w.heap.size:=by
 obtain ⟨inner,ho,hc,_⟩:=h;rcases ho.2 with ⟨rfl,hn'⟩ | ⟨g,cap,cur,fz,rfl,_,hg,_⟩
 ·omega
 ·exact ⟨hc g rfl,(A9.1 hg).1⟩
theorem Rel.only{n:Nat}{w0:World}{Z0:Gh}{s:St}{a:Act}{m:Mem}(h:Rel n w0 Z0 s a m){d:Nat}(hdn:d<n)(hf:¬ Live s (.r d)){row:Row}{v:Value}{w':World}{Z':Col}
  (hO:Only m.w w' m.Z Z' (2*d)) (hs:m.w.heap.size<=w'.heap.size) (os:w'.os=m.w.os) (tp:w'.tape=m.w.tape) (ou:w'.output=m.w.output)
  (ho:OwL (Ow row.k w' Z') row.e row.k.sz w' Z' [2*d] row.xs v) :
  Rel n w0 Z0 ((.r d,some (.r row))::s) a ⟨w',Z',upd m.ρ d v,m.β⟩:=by
 have hget:∀ l,l≠.r d->St.get ((.r d,some (.r row))::s) l=s.get l:=fun l hl=>St.get_cons_ne (R5 hl) _ _
 have hX:Ext s m ((.r d,some (.r row))::s) ⟨w',Z',upd m.ρ d v,m.β⟩ (Live s):=by
  refine ⟨hO.keeps,fun id r' hL hr=>?_,fun b c' _ hc=>⟨c',by rwa [hget _ (by simp)] at hc,rfl⟩,fun q i _ hi=>by rwa [hget _ (by simp)] at hi⟩;have hid:id≠d:=fun e=>hf (e▸hL)
  rw [hget _ (by simpa using hid)] at hr;refine ⟨r',hr,upd_ne _ hid _,rfl,rfl,C6 _,fun _ hn j v hc=>?_,fun _=>hO.moves (by omega) []⟩;obtain ⟨hcol,hlt⟩:=A6T (h.rw id r' hr) hn;refine (I6 ?_).trans hc;rw [add_block];exact (hO _ hlt (fun q hq=>by rw [hcol] at hq;injection hq with hq;injection hq with hq _;omega)).1
 refine h.change (fun i=>hget _ (by simp)) hX (fun id r hr=>?_) (fun b c hc=>?_) hO.fore hs os tp ou (fun id r h1 _ hg=>by
  have hid:id≠d:=by have:=h.nn.1;omega
  exact ⟨⟨r,by rwa [hget _ (by simpa using hid)] at hg⟩,upd_ne _ hid _⟩) (fun b c hg=>.inl ⟨⟨c,by rwa [hget _ (by simp)] at hg⟩,rfl⟩)
 ·by_cases hid:id=d
  ·subst hid;rw [St.get_cons_same] at hr;injection hr with hr;injection hr with hr;subst hr
   simp only [upd_same];exact ho
  ·rw [hget _ (by simpa using hid)] at hr;simp only [upd_ne _ hid];exact (h.rw id r hr).move (hO.moves (by omega) []) hO.keeps
 ·rw [hget _ (by simp)] at hc;obtain ⟨cs',h3,h4,h5,h6⟩:=h.bx b c hc;have hlt:(m.β b).g<m.w.heap.size:=(A9.1 h6).1;obtain ⟨e1,e2⟩:=hO _ hlt (fun q hq=>by rw [h5] at hq;injection hq with hq;injection hq with hq _;omega);exact ⟨cs',All2.imp (fun l hm x hb=>hb.ext (hX.sub fun q hq=>⟨.b b,.b c,hc,E6.2 ⟨l,hm,hq⟩⟩)) h3,h4,e2.trans h5,e1.trans h6⟩
def OwEls(k:K)(w:World)(Z:Col)(p:H9):Nat->List k.T->List Value->Prop
 | _,[],cs=>cs = []
 | j,y::ys,cs=>∃ c0 c1,cs=c0++c1/\Ow k w Z (p ++ [j]) y c0/\OwEls k w Z p (j+1) ys c1
theorem OwEls.len{k:K}{w:World}{Z:Col}{p:H9}:∀ {j:Nat} {ys:List k.T} {cs:List Value},OwEls k w Z p j ys cs->cs.length=ys.length*k.sz
 | _,[],_,h=>by simp only [OwEls] at h;subst h;simp
 | _,_::ys,_,h=>by
  obtain ⟨c0,c1,rfl,h0,h1⟩:=h;rw [A3,h0.len,h1.len,G9,G2,B4Q]
theorem OwEls.get{k:K}{w:World}{Z:Col}{p:H9}:∀ {j:Nat} {ys:List k.T} {cs:List Value},OwEls k w Z p j ys cs->∀ i (h:i<ys.length),Ow k w Z (p ++ [j+i]) ys[i] ((cs.drop (i*k.sz)).take k.sz)
 | _,[],_,_,i,hi=>by simp at hi
 | j,y::ys,_,h,i,hi=>by
  obtain ⟨c0,c1,rfl,h0,h1⟩:=h;cases i with
  | zero=>
   simp only [A0d,U5,J0,List.getElem_cons_zero];rw [F2 (by rw [h0.len];exact C6 _),E8 (by rw [h0.len];exact C6 _)];exact h0
  | succ i=>
   have:=OwEls.get h1 i (by simpa using hi);rw [G2,B4Q (i*k.sz),<- h0.len,<- L6,A0L,h0.len];simp only [B0P];rw [Nat.add_right_comm,L9] at this;exact this
theorem OwEls.one{k:K}{w:World}{Z:Col}{p:H9}:∀ {j:Nat} {ys:List k.T} {cs:List Value},OwEls k w Z p j ys cs->∀ u∈cs,u.oneCell' = true
 | _,[],_,h=>by simp only [OwEls] at h;subst h;intro u hu;cases hu
 | _,_::ys,_,h=>by
  obtain ⟨c0,c1,rfl,h0,h1⟩:=h;intro u hu;rcases C9.1 hu with hu | hu
  ·exact h0.one u hu
  ·exact h1.one u hu
def nodupB:List Nat->Bool
 | []=>true
 | i::l=>!(l.any (Nat.beq i))&&nodupB l
theorem A7J{i:Nat}{l:List Nat}(h:nodupB (i::l)=true):i ∉ l/\nodupB l=true:=by
 simp only [nodupB,B3,P9,Q0] at h;exact ⟨fun hi=>h.1 i hi (A0e i),h.2⟩
def B5o(p0:H9)(mv:Mv):Tg:=mv.map fun v=>(v.1,fun q=>v.2.1.map fun p=>p0++p++q)
theorem B6e(p0:H9)(mv:Mv):(B5o p0 mv).map (·.1)=mv.map (·.1):=by simp [B5o]
theorem B6f{p0:H9}:∀ {mv:Mv},nodupB (mv.map (·.1))=true->∀ v∈mv,A0D (B5o p0 mv) (2*v.1)=some (fun q=>v.2.1.map fun p=>p0++p++q)
 | [],_,v,hv=>nomatch hv
 | u::mv,hn,v,hv=>by
  obtain ⟨h1,h2⟩:=A7J hn;rcases B4.1 hv with rfl | hv
  ·simp [B5o,A0D]
  ·have hne:¬ 2*u.1=2*v.1:=fun e=>h1 (D0.2 ⟨v,hv,by show v.1=u.1;omega⟩)
   simp only [B5o,G3,A0D,D6 hne];exact B6f h2 v hv
theorem B6g{w:World}{Z:Col}{p0:H9}{mv:Mv}(hn:nodupB (mv.map (·.1))=true):Does w w Z (L0 (B5o p0 mv) Z) p0 mv:=by
 intro v hv;have hl:=B6f (p0:=p0) hn v hv;cases hp:v.2.1 with
 | some p=>exact A5K hl (fun q=>by rw [hp];rfl)
 | none=>exact B0m hl (fun q=>by rw [hp];rfl)
theorem Does.then{w w':World}{Z Z1 Z':Col}{p0:H9}{mv:Mv}(h:Does w w Z Z1 p0 mv)(hw:∀ b,b<w.heap.size->w'.heap[b]? = w.heap[b]?/\Z' b=Z1 b):Does w w' Z Z' p0 mv:=by
 intro v hv;have:=h v hv;cases hp:v.2.1 with
 | some p=>
  simp only [hp] at this ⊢;exact fun b q hb hlt=>⟨(hw b hlt).1,(hw b hlt).2.trans (this b q hb hlt).2⟩
 | none=>
  simp only [hp] at this ⊢;exact fun b q hb hlt=>⟨(hw b hlt).1,(hw b hlt).2.trans (this b q hb hlt).2⟩
def B0q(s:St)(k:K):List (Nat×Operand)->Nat->Option (List k.T×Mv×Rds)
 | [],_=>some ([],[],[])
 | (i,x)::ps,j=>match Nat.beq i j,L1 s x with
  | true,some (v,rx)=>match avL v with
   | some ls=>match H1 s k ls [j] with
    | some (y,[],mv)=>match B0q s k ps (j+1) with
     | some (ys,mvs,rds)=>some (y::ys,mv++mvs,rx++rds)
     | none=>none
    | _=>none
   | none=>none
  | _,_=>none
theorem B3V{s:St}{k:K}:∀ {ps:List (Nat×Operand)} {j:Nat} {ys:List k.T} {mv:Mv} {rds:Rds},B0q s k ps j=some (ys,mv,rds)->Reads s (rds++mvR mv)
 | [],_,_,_,_,h=>by simp only [B0q] at h;injection h with h;injection h with _ h;injection h with h1 h2;subst h1;subst h2;exact Reads.nil _
 | (i,x)::ps,j,ys,mv,rds,h=>by
  simp only [B0q] at h;split at h
  ·rename_i v rx _ ex;split at h
   ·rename_i ls el;split at h
    ·rename_i y mv1 eg;split at h
     ·rename_i ys' mvs rds' er;injection h with h;injection h with h1 h;injection h with h2 h3
      subst h1;subst h2;subst h3;have ih:=Reads.app.1 (B3V er);have hg:=B6b eg;simp only [mvR,A5w] at *
      exact Reads.app.2 ⟨Reads.app.2 ⟨B9 ex,ih.1⟩,Reads.app.2 ⟨hg,ih.2⟩⟩
     ·cases h
    ·cases h
   ·cases h
  ·cases h
theorem B4U{s s':St}{n:Nat}{w0:World}{Z0:Gh}{a:Act}{m:Mem}(hr:Rel n w0 Z0 s' a m){w':World}{Z':Col}(hk:Keeps m.w w' m.Z Z')(p0:H9){k:K} :
  ∀ {ps:List (Nat×Operand)} {j:Nat} {ys:List k.T} {mv:Mv} {rds:Rds},B0q s k ps j=some (ys,mv,rds)->Reads s' (rds++mvR mv)->Does m.w w' m.Z Z' p0 mv->
   ∃ vs:List Value,(ps.map fun p=>(p.1,a.eval p.2))=(vs.zipIdx j).map (fun x=>(x.2,x.1))/\vs.length=ys.length/\(∀ v∈vs,v.cells.size=k.sz)/\OwEls k w' Z' p0 j ys (vs.flatMap fun v=>v.cells.toList)
 | [],j,ys,mv,rds,h,hrd,hd=>by
  simp only [B0q] at h;injection h with h;injection h with h1 h;subst h1
  exact ⟨[],rfl,rfl,fun v hv=>(nomatch hv),rfl⟩
 | (i,x)::ps,j,ys,mv,rds,h,hrd,hd=>by
  simp only [B0q] at h;split at h
  ·rename_i v rx ei ex;split at h
   ·rename_i ls el;split at h
    ·rename_i y mv1 eg;split at h
     ·rename_i ys' mvs rds' er;injection h with h;injection h with h1 h;injection h with h2 h3
      subst h1;subst h2;subst h3;simp only [mvR,A5w] at hrd;have hrdA:=Reads.app.1 hrd;have hrdB:=Reads.app.1 hrdA.1;have hrdC:=Reads.app.1 hrdA.2;obtain ⟨vs,e1,e2,e3,e4⟩:=B4U hr hk p0 er (Reads.app.2 ⟨hrdB.2,hrdC.2⟩) (fun v hv=>hd v (D3 _ hv));obtain ⟨cs,hcs,hl⟩:=B0o el (D8 ex hr hrdB.1);obtain ⟨c0,c1,hcc,ho,hrest⟩:=B6B hr hk p0 eg hrdC.1 hl (fun v hv=>hd v (E2 _ hv));have hc1:c1 = []:=by cases c1 with
       | nil=>rfl
       | cons _ _=>exact hrest.elim
      subst hc1;rw [F4] at hcc;subst hcc;have hcl:(a.eval x).cells.toList=cs:=by rw [hcs]
      refine ⟨a.eval x::vs,?_,by simp [e2],fun u hu=>?_,?_⟩
      ·rw [G3,e1,List.zipIdx_cons,G3,A0 ei]
      ·rcases B4.1 hu with rfl | hu
       ·rw [hcs];simpa using ho.len
       ·exact e3 u hu
      ·rw [List.flatMap_cons,hcl];exact ⟨cs,_,rfl,ho,e4⟩
     ·cases h
    ·cases h
   ·cases h
  ·cases h
def D15(s:St)(x:Operand):Bool:=match L1 s x with
 | some (.one (.ro _ _ _),_)=>true
 | _=>false
def C2i(s:St)(k:K)(ps:List (Nat×Operand)):K:=match k with
 | .sl e k0=>match ps.any fun p=>D15 s p.2 with
  | true=>.rs e k0
  | false=>.sl e k0
 | k=>k
theorem C8n(s:St)(k:K)(ps:List (Nat×Operand)):(C2i s k ps).sz=k.sz:=by
 unfold C2i;split
 ·split<;>rfl
 ·rfl
def D0S{R:Type}(cfg:Cfg)(s:St)(d t len:Nat)(parts:Array (Nat×Operand))(U:Ke R):Option R:=
 match cfg.el t with
 | some e=>match cfg.ty e with
  | some ti=>match B0q s (C2i s ti.k parts.toList) parts.toList 0 with
   | some (ys,mv,rds)=>match nodupB (mv.map (·.1)),Nat.beq ys.length len,Nat.ble (len*(C2i s ti.k parts.toList).sz) 16777216 with
    | true,true,true=>U ⟨rds++mvR mv,(.t d,some (.t (.one (.own d))))::(.r d,some (.r ⟨e,C2i s ti.k parts.toList,ys,0⟩))::(mv.map (·.1)).map (fun i=>(Loc.r i,(none:Option LV))),[.r d]⟩
    | _,_,_=>none
   | none=>none
  | none=>none
 | none=>none
theorem C8o{R:Type}{P:Program}{cfg:Cfg}(hc:J9 P cfg){s:St}{d t len:Nat}{parts:Array (Nat×Operand)}{U:Ke R}{r:R}(h:D0S cfg s d t len parts U=some r):OutE P s (.buildSlice t len parts) d U r:=by
 unfold D0S at h;split at h
 ·rename_i e et;split at h
  ·rename_i ti eti;split at h
   ·rename_i ys mv rds el;split at h
    ·rename_i hnd hlen hsm;have hlen:=A0 hlen;have hsm:=D5 hsm;have hkk:(C2i s ti.k parts.toList).sz=ti.k.sz:=C8n s ti.k parts.toList;generalize C2i s ti.k parts.toList=kk at *
     refine ⟨_,h,B3V el,fun n o ho hdst hd w0 Z0 s' a m hr hrd hnew next Q hn=>?_⟩
     obtain ⟨f,z,hi,hs,hb,hz,hzc,_⟩:=hc.info eti;have hzs:z.cells.size=kk.sz:=by rw [hkk,<- D4,hzc,B6d]
     have hs:f.size=kk.sz:=hs.trans hkk.symm;have hdo:=B6g (w:=m.w) (Z:=m.Z) (p0:= [2*d]) hnd;have hw:∀ (oo:Obj) (b:Nat),b<m.w.heap.size->(m.w.alloc oo).heap[b]? = m.w.heap[b]?/\upd (L0 (B5o [2*d] mv) m.Z) m.w.heap.size (some [2*d]) b=L0 (B5o [2*d] mv) m.Z b:=
      fun oo b hb=>⟨alloc_old _ _ _ hb,upd_ne _ (by omega) _⟩
     have hkeep:∀ oo,Keeps m.w (m.w.alloc oo) m.Z (upd (L0 (B5o [2*d] mv) m.Z) m.w.heap.size (some [2*d])):=
      fun oo b hb hlt=>⟨(hw oo b hlt).1,(hw oo b hlt).2.trans (P6 m.w _ _ b hb hlt).2⟩
     have hex:∃ vs:List Value,(parts.toList.map fun p=>(p.1,a.eval p.2))=(vs.zipIdx 0).map (fun x=>(x.2,x.1))/\vs.length=ys.length/\(∀ v∈vs,v.cells.size=kk.sz)/\
       ∀ oo,OwEls kk (m.w.alloc oo) (upd (L0 (B5o [2*d] mv) m.Z) m.w.heap.size (some [2*d])) [2*d] 0 ys (vs.flatMap fun v=>v.cells.toList):=by
      obtain ⟨vs,e1,e2,e3,_⟩:=B4U hr (hkeep (.cells #[] 0)) [2*d] el hrd (hdo.then (hw (.cells #[] 0)));refine ⟨vs,e1,e2,e3,fun oo=>?_⟩;obtain ⟨vs',e1',e2',e3',e4'⟩:=B4U hr (hkeep oo) [2*d] el hrd (hdo.then (hw oo));have:vs' = vs:=by
       have h1:=Q9 (List.map Prod.snd) (e1'.symm.trans e1);simpa [List.map_map,Function.comp_def] using h1
      exact this▸e4'
     obtain ⟨vs,e1,e2,e3,e4⟩:=hex;have hrun:(execOp a.eval o).run P m.w=.ok (.value (.slice (some ⟨m.w.heap.size,0,none⟩) len len)) (m.w.alloc (.cells (vs.flatMap fun v=>v.cells.toList).toArray e)):=by
      by_cases hz0:len=0
      ·have hys:ys = []:=F0 (by omega);have hvs:vs = []:=F0 (by rw [e2,hys];rfl);subst hvs;have hp:parts=#[]:=by
        have:parts.toList.map (fun p=>(p.1,a.eval p.2)) = []:=e1;have:=List.map_eq_nil_iff.1 this;exact Array.toList_eq_nil_iff.1 this
       subst hz0;simp [execOp,ho,C4,Instr.buildSlice,R9 (hc.el et),A5J hi,hp,Instr.fill,newRow,Array.range_zero']
      ·have hpos:0<kk.sz:=kk.sz_pos;have hf:=Great.fill_whole hpos vs ((Array.range (len*kk.sz)).map (z.cells[· % z.cells.size]!)) e3 (by simp [e2,hlen]);have hparts:(parts.map fun (i,x)=>(i,a.eval x)).toList=(vs.zipIdx 0).map (fun x=>(x.2,x.1)):=by
        rw [<- e1];simp
       have:=run_buildSlice (P:=P) m.w t e len (parts.map fun (i,x)=>(i,a.eval x)) _ f z (hc.el et) hi hz (by rw [hs];omega) (by rw [hs];exact Nat.ne_of_gt (B5m (by omega) hpos)) (by rw [hs,hparts];exact hf);simp [execOp,ho,C4,this]
     have h1:=hr.drop (B5o [2*d] mv);rw [B6e] at h1;have hnl:¬ Live ((mv.map (·.1)).map (fun i=>(Loc.r i,(none:Option LV)))++s') (.r d):=by
      rintro ⟨l',lv,hg,hm⟩;refine hnew (.r d) A5 ⟨l',lv,?_,hm⟩;by_cases hh:∃ i∈mv.map (·.1),l' = .r i
      ·obtain ⟨i,hi',rfl⟩:=hh;rw [A4i hi'] at hg;cases hg
      ·rw [A8n fun i hi' e=>hh ⟨i,hi',e⟩] at hg;exact hg
     have h2:=h1.newRow (d:=d) hd hnl (row:=⟨e,kk,ys,0⟩) (o:=.cells (vs.flatMap fun v=>v.cells.toList).toArray e) (v:=.slice (some ⟨m.w.heap.size,0,none⟩) len len) (by
      have hE:=e4 (.cells (vs.flatMap fun v=>v.cells.toList).toArray e);have hl:=hE.len;refine ⟨vs.flatMap fun v=>v.cells.toList,?_,fun g hg=>?_,fun j hj=>?_⟩
      ·have:=A7E (A3s (e:=e) (size:=kk.sz) m.w (vs.flatMap fun v=>v.cells.toList).toArray len (G6 _) (by simp only [maxLen];have:=A9J len kk.sz_pos;omega) (by simp only [F7];rw [hl,hlen]));rw [<- hlen] at this ⊢;exact this
      ·simp only [Value.ownBlock] at hg;injection hg with hg;subst hg
       simp [upd_same]
      ·have:=hE.get j hj;rw [D9] at this;exact this)
     have h3:=h2.put (v:=.one (.own d)) (x:=.slice (some ⟨m.w.heap.size,0,none⟩) len len) hd ⟨rfl,fun r _=>by simp [upd_same]⟩;simp only [Oper.wp,hrun,Oper.upon,hdst];exact hn _ _ h3
    ·cases h
   ·cases h
  ·cases h
 ·cases h
end Go.Proofs.YthnfghmjipikhaaGreatDoor.Ev
