/- What the plain functions of the program and of the reference answer: laws of plain data. -/
import Derived.Test.YtpdcljonclhhpaaGreatXPlayeda
set_option linter.unusedVariables false
set_option linter.unusedSimpArgs false
namespace Go.Proofs.YtpdcljonclhhpaaGreat.Ev
theorem C4f{L:List H3}{e:Int}{j:Nat}(h0:0<j)(hj:j≤L.length):A12 e (L.take j)=(L[j-1]'(by omega)).1:=by
 induction L generalizing e j with
 | nil=>simp at hj;omega
 | cons r L ih=>
  cases j with
  | zero=>omega
  | succ j=>
   simp only [List.take_succ_cons,A12]
   cases j with
   | zero=>simp [A12]
   | succ j=>
    rw [ih (by omega) (by simpa using hj)]
    simp
theorem B4S{st:A7}{c:Nat}(h:Dur st c)(k:List Bool){i:Nat}(hi:i<st.1.1.length)(hk:k.getD i false=true∨¬ (c≤i∧i<(B6 st.1.1).length)):(U4 st.1.1 st.1.2 k)[i]? = st.1.1[i]?:=by
 obtain ⟨_,k2,_⟩:=A4l h.g.dk
 rw [B8c k2 hi]
 split
 ·rfl
 ·rename_i hn
  rcases hk with hk | hk
  ·exact absurd hk hn
  ·exact h.out i hk
theorem D7E{α:Type}{x now:List α}{j:Nat}(hx:x.take j=now.take j)(hj:j<now.length)(hlen:x.length=now.length)(he:x[j]? = now[j]?):x.take (j+1)=now.take (j+1):=by
 rw [List.take_succ_eq_append_getElem (show j<x.length by omega),List.take_succ_eq_append_getElem hj,hx]
 rw [List.getElem?_eq_getElem (show j<x.length by omega),List.getElem?_eq_getElem hj] at he
 injection he with he
 rw [he]
theorem D9G{st:A7}{c:Nat}(h:Dur st c)(k:List Bool):∃ m,c≤m∧m≤(B6 st.1.1).length∧B6 (U4 st.1.1 st.1.2 k)=(B6 st.1.1).take m:=by
 obtain ⟨_,k2,k3,_⟩:=A4l h.g.dk
 have hml:=B4Q st.1.1 st.1.2 k
 have hll:(B6 st.1.1).length≤st.1.1.length:=A5g 0 0 st.1.1
 have go:∀ (n j:Nat),j+n=(B6 st.1.1).length→c≤j→(U4 st.1.1 st.1.2 k).take j=st.1.1.take j→∃ m,c≤m∧m≤(B6 st.1.1).length∧B6 (U4 st.1.1 st.1.2 k)=(B6 st.1.1).take m:=by
  intro n
  induction n with
  | zero=>
   intro j hj hc hx
   rw [Nat.add_zero] at hj
   refine ⟨j,hc,by omega,?_⟩
   rw [B2Q (by omega) hx hml,hj,List.take_length]
   have hdrop:(U4 st.1.1 st.1.2 k).drop (B6 st.1.1).length=st.1.1.drop (B6 st.1.1).length:=by
    refine List.ext_getElem? fun i=>?_
    rw [List.getElem?_drop,List.getElem?_drop]
    by_cases hi:(B6 st.1.1).length+i<st.1.1.length
    ·exact B4S h k hi (.inr (by omega))
    ·rw [List.getElem?_eq_none (by omega),List.getElem?_eq_none (by omega)]
   rw [hdrop,D9F rfl,List.append_nil]
  | succ n ih=>
   intro j hj hc hx
   have hjl:j<st.1.1.length:=by omega
   cases hk:k.getD j false with
   | true=>exact ih (j+1) (by omega) (by omega) (D7E hx hjl hml (B4S h k hjl (.inl hk)))
   | false=>
    refine ⟨j,hc,by omega,?_⟩
    rw [B2Q (by omega) hx hml]
    have hs:J2 (A12 0 ((B6 st.1.1).take j)) j ((U4 st.1.1 st.1.2 k).drop j) = []:=by
     refine B7Y _ _ _ fun s hs=>?_
     have hs2:(U4 st.1.1 st.1.2 k)[j]? = some s:=by
      rw [List.head?_eq_getElem?,List.getElem?_drop,Nat.add_zero] at hs
      exact hs
     rw [B8c k2 hjl,hk,if_neg (by simp)] at hs2
     by_cases hjc:j=c
     ·have hsp:=B2Q (now:=st.1.2) (x:=st.1.2) (j:=c) (by rw [h.sc,List.length_take];omega) rfl rfl
      rw [h.sc,List.take_take,Nat.min_self] at hsp
      have hnil:J2 (A12 0 ((B6 st.1.1).take c)) c (st.1.2.drop c) = []:=by
       have h2:(B6 st.1.1).take c ++ []=(B6 st.1.1).take c++J2 (A12 0 ((B6 st.1.1).take c)) c (st.1.2.drop c):=by rw [List.append_nil];exact hsp
       exact (List.append_cancel_left h2).symm
      rw [hjc] at hs2 ⊢
      have hcl:c<st.1.2.length:=(List.getElem?_eq_some_iff.1 hs2).1
      rw [List.drop_eq_getElem_cons hcl,B2P] at hnil
      have:st.1.2[c]=s:=by rw [List.getElem?_eq_getElem hcl] at hs2;injection hs2
      rw [this] at hnil
      cases hg:A20 (A12 0 ((B6 st.1.1).take c)) c s with
      | false=>rfl
      | true=>rw [hg] at hnil;cases hnil
     ·rw [C4f (by omega) (by omega),h.ep (j-1) (by omega) (by omega)]
      exact D1U (h.inn j s hc (by omega) hs2) _
    rw [hs,List.append_nil]
 refine go ((B6 st.1.1).length-c) c (by have:=h.le;omega) (Nat.le_refl _) ?_
 refine List.ext_getElem? fun i=>?_
 by_cases hi:i<c
 ·rw [List.getElem?_take_of_lt hi,List.getElem?_take_of_lt hi]
  exact B4S h k (by have:=h.le;omega) (.inr (by omega))
 ·rw [List.getElem?_eq_none (by rw [List.length_take];omega),List.getElem?_eq_none (by rw [List.length_take];omega)]
theorem C9J{now sure:List ByteArray}{k:List Bool}(h:now.length=sure.length){s:ByteArray}(hs:s∈U4 now sure k):s∈now∨s∈sure:=by
 obtain ⟨i,hi,rfl⟩:=List.getElem_of_mem hs
 have hi':i<now.length:=by rw [B4Q] at hi;exact hi
 have:=B8c (k:=k) h hi'
 rw [List.getElem?_eq_getElem hi] at this
 split at this
 ·exact .inl (List.mem_of_getElem? this.symm)
 ·exact .inr (List.mem_of_getElem? this.symm)
theorem D1V{st:A7}{c:Nat}(h:Dur st c):∀ s∈st.1.2,(D5 s).2.1=true→(D5 s).1.1≤st.2.1:=by
 intro s hs hr
 obtain ⟨i,hi,rfl⟩:=List.getElem_of_mem hs
 by_cases hb:c≤i∧i<(B6 st.1.1).length
 ·have:=h.inn i _ hb.1 hb.2 (List.getElem?_eq_getElem hi)
  simp only [A2q,hr,Bool.true_and,decide_eq_false_iff_not] at this
  omega
 ·have:=h.out i hb
  rw [List.getElem?_eq_getElem hi] at this
  exact D60 h.g _ (List.mem_of_getElem? this.symm) hr
theorem B8d:∀ (l:List H3) (us us':List TUp) (m:Nat),I0 us l=some us'→∃ u,I0 us (l.take m)=some u
 | _,us,_,0,_=>⟨us,by simp [I0]⟩
 | [],us,us',m+1,h=>⟨us',by simpa using h⟩
 | r::l,us,us',m+1,h=>by
  simp only [I0] at h
  simp only [List.take_succ_cons,I0]
  split at h
  ·rename_i u1 e1
   exact B8d l u1 us' m h
  ·cases h
theorem E0x{l:List ByteArray}{b:Int}(hb:-1≤b)(h:∀ s∈l,(D5 s).2.1=true→(D5 s).1.1≤b):A2U l≤b:=by
 have h1:=B5Y (b+1) l (-1)
 have h2:(l.all fun s=>!A2q (b+1) s)=true:=List.all_eq_true.2 fun s hs=>by
  simp only [A2q,Bool.not_eq_true',Bool.and_eq_false_iff,decide_eq_false_iff_not]
  cases hr:(D5 s).2.1 with
  | false=>exact .inl rfl
  | true=>have:=h s hs hr;exact .inr (by omega)
 rw [h2,A0 (show (-1:Int)<b+1 by omega),Bool.and_true] at h1
 have:=of_decide_eq_true h1
 show l.foldl A3q (-1)≤b
 omega
def Y8(x:List ByteArray)(us:List TUp):A7:=((x,x),(A2U x+1,((List.length (B6 x):Int),us)))
theorem C1Y{x:List ByteArray}{us:List TUp}(hd:A3s (x,x)=true)(hu:I0 [] (B6 x)=some us)(ht:A2U x+1≤10000):GoodS (Y8 x us):=by
 have h0:=C3S x
 refine ⟨hd,⟨by show 0≤A2U x+1;omega,ht⟩,hu,rfl,?_,?_⟩
 ·show A12 0 (B6 x)≤A2U x+1
  have hg:∀ (i:Nat) (hi:i<(B6 x).length),∃ s,x[i]? = some s∧D5 s=((B6 x)[i],true,()):=C8F 0 0 x
  by_cases hl:0<(B6 x).length
  ·have e:=C4f (L:=B6 x) (e:=0) (j:=(B6 x).length) hl (Nat.le_refl _)
   rw [List.take_length] at e
   rw [e]
   obtain ⟨s,h1,h2⟩:=hg ((B6 x).length-1) (by omega)
   have h3:=D5z (List.mem_of_getElem? h1) (by rw [h2])
   rw [h2] at h3
   have h5:((B6 x)[(B6 x).length-1]'(by omega)).1≤A2U x:=h3
   have h6:@LE.le Int _ ((B6 x)[(B6 x).length-1]'(by omega)).1 (A2U x+1):=by omega
   exact h6
  ·rw [List.length_eq_zero_iff.1 (show (B6 x).length=0 by omega)]
   show (0:Int)≤_
   omega
 ·refine List.all_eq_true.2 fun s hs=>?_
  have hs2:s∈x:=List.mem_of_mem_drop hs
  simp only [A2q,Bool.not_eq_true',Bool.and_eq_false_iff,decide_eq_false_iff_not]
  cases hr:(D5 s).2.1 with
  | false=>exact .inl rfl
  | true=>
   have:=D5z hs2 hr
   refine .inr ?_
   show ¬ (D5 s).1.1≥A2U x+1
   omega
theorem B7a{st:A7}(h:GoodS st):Dur ((st.1.1,st.1.1),st.2) (B6 st.1.1).length:=
 ⟨⟨D78 h.dk,h.ep,h.up,h.nx,h.le,h.tl⟩,Nat.le_refl _,fun i _=>rfl,fun i s h1 h2 _=>by (have h3:i<(B6 st.1.1).length:=h2;omega),fun i h1 h2=>by (have h3:i<(B6 st.1.1).length:=h1;omega),(List.take_length).symm⟩
theorem D48{x:List ByteArray}{us:List TUp}(h:GoodS (Y8 x us)):Dur (Y8 x us) (B6 x).length:=B7a h
theorem D7F{st:A7}{c:Nat}(h:Dur st c){r:H3}(hr:B4K r)(h1:r.1=st.2.1)(h2:r.2.1=st.2.2.1)(hlt:st.2.2.1<(st.1.1.length:Int)){us:List TUp}(hf:K7 st.2.2.2 r=some us):Dur (wrote st r us) c:=by
 obtain ⟨hg,hsc⟩:=B7Z h.g hr h1 h2 hlt hf
 have hnx:=h.g.nx
 have hto:st.2.2.1.toNat=(B6 st.1.1).length:=by omega
 have hll:(B6 st.1.1).length<st.1.1.length:=by omega
 have hlen:((B6 st.1.1) ++ [r]).length=(B6 st.1.1).length+1:=by simp
 have hle:=h.le
 refine ⟨hg,by rw [hsc,hlen];omega,fun i hi=>?_,fun i s hc hi hs=>?_,fun i hi hc=>?_,?_⟩
 ·rw [hsc,hlen] at hi
  show st.1.2[i]? = (st.1.1.set st.2.2.1.toNat (W8 r))[i]?
  rw [hto,List.getElem?_set_ne (by omega)]
  exact h.out i (by omega)
 ·rw [hsc,hlen] at hi
  by_cases hi2:i<(B6 st.1.1).length
  ·exact h.inn i s hc hi2 hs
  ·have e:=h.out i (by omega)
   have hs':st.1.2[i]? = some s:=hs
   rw [e] at hs'
   have hm:s∈st.1.1.drop (B6 st.1.1).length:=by
    rw [List.mem_iff_getElem?]
    exact ⟨i-(B6 st.1.1).length,by rw [List.getElem?_drop,show (B6 st.1.1).length+(i-(B6 st.1.1).length)=i by omega];exact hs'⟩
   have:=List.all_eq_true.1 h.g.tl s hm
   have h7:A2q st.2.1 s=false:=by simpa using this
   exact h7
 ·have hi':=hi
  rw [hsc,hlen] at hi'
  have e:(B6 (wrote st r us).1.1)[i]=((B6 st.1.1) ++ [r])[i]'(by omega):=by simp only [hsc]
  rw [e]
  by_cases hi2:i<(B6 st.1.1).length
  ·rw [List.getElem_append_left hi2]
   exact h.ep i hi2 hc
  ·rw [List.getElem_append_right (by omega)]
   simp only [show i-(B6 st.1.1).length=0 by omega,List.getElem_cons_zero]
   exact h1
 ·show B6 st.1.2=_
  rw [hsc,List.take_append_of_le_length hle]
  exact h.sc
theorem D7G{st:A7}{c:Nat}(h:Dur st c)(k:List Bool)(hep:st.2.1≤9999):∃ m us,c≤m∧m≤(B6 st.1.1).length∧B6 (U4 st.1.1 st.1.2 k)=(B6 st.1.1).take m∧I0 [] ((B6 st.1.1).take m)=some us∧
  A2U (U4 st.1.1 st.1.2 k)≤st.2.1∧A3s (B6A st.1 k)=true∧GoodS (Y8 (U4 st.1.1 st.1.2 k) us):=by
 obtain ⟨_,k2,k3,k4,k5⟩:=A4l h.g.dk
 obtain ⟨m,h1,h2,h3⟩:=D9G h k
 obtain ⟨us,hu⟩:=B8d _ _ _ m h.g.up
 have hml:=B4Q st.1.1 st.1.2 k
 have hdb:A3s (U4 st.1.1 st.1.2 k,U4 st.1.1 st.1.2 k)=true:=by
  have hall:∀ s∈U4 st.1.1 st.1.2 k,s.size≤64:=fun s hs=>(C9J k2 hs).elim (k4 s) (k5 s)
  exact B8a rfl (by simp only [hml];exact k3) hall hall
 have ht:A2U (U4 st.1.1 st.1.2 k)≤st.2.1:=E0x (by have:=h.g.ep.1;omega) fun s hs hr=>(C9J k2 hs).elim (fun hs=>D60 h.g s hs hr) (fun hs=>D1V h s hs hr)
 exact ⟨m,us,h1,h2,h3,hu,ht,hdb,C1Y hdb (by rw [h3];exact hu) (by omega)⟩
inductive Steps (id:ByteArray) (st:A7):A7→Prop
 | refl:Steps id st st
 | step {st1:A7} {r:H3} {us:List TUp}:Steps id st st1→B4K r→r.1=st1.2.1→r.2.1=st1.2.2.1→st1.2.2.1<(st1.1.1.length:Int)→r.2.2.2.1=id→(r.2.2.1=1→r.2.2.2.2.1≤1000000)→K7 st1.2.2.2 r=some us→Steps id st (wrote st1 r us)
theorem E23{st:A7}(h:Rt st):0≤st.2.2.1∧st.1.1.length≤200:=⟨h.g.2.2.2.2.1.1,h.g.2.2.2.1⟩
theorem D1W{st:A7}{id:ByteArray}{n:Int}(h:Rt st):Steps id st (A2Q st id n).1:=by
 unfold A2Q
 split
 ·rename_i h1
  split
  ·exact Steps.refl
  ·rename_i h2
   split
   ·exact Steps.refl
   ·rename_i h3
    have hr:=A8C h.g 1 n id h1.1 (fun hx=>h3 (.inl hx)) (.inl ⟨rfl,h1.2.1,by omega⟩)
    exact .step Steps.refl ⟨hr,A08⟩ rfl rfl (by omega) rfl (fun _=>h1.2.2) (B5d h2 (fun hx=>h3 (.inr hx)))
 ·exact Steps.refl
theorem D1X{st:A7}{id:ByteArray}{n:Int}(h:Rt st):Steps id st (A1z st id n).1:=by
 unfold A1z
 split
 ·rename_i h1
  split
  ·rename_i h2
   split
   ·exact Steps.refl
   ·rename_i h3
    split
    ·exact Steps.refl
    ·split
     ·exact Steps.refl
     ·rename_i h5
      split
      ·exact Steps.refl
      ·rename_i h6
       have hr:=A8C h.g 3 0 id h1 h6 (.inr ⟨.inl rfl,rfl⟩)
       exact .step Steps.refl ⟨hr,A08⟩ rfl rfl (by omega) rfl (fun e=>by cases e) (B5e h.up h2 h3 h5)
  ·exact Steps.refl
 ·exact Steps.refl
theorem D1Y{st:A7}{id:ByteArray}(h:Rt st):Steps id st (A58 st id).1:=by
 unfold A58
 split
 ·rename_i h1
  split
  ·rename_i h2
   split
   ·exact Steps.refl
   ·rename_i h3
    have hr:=A8C h.g 4 0 id h1 h3 (.inr ⟨.inr rfl,rfl⟩)
    exact .step Steps.refl ⟨hr,A08⟩ rfl rfl (by omega) rfl (fun e=>by cases e) (C0N h2)
  ·exact Steps.refl
 ·exact Steps.refl
theorem C1Z{st:A7}{id:ByteArray}{off:Int}{dat:List Int}(hc:D41 st id off dat):∀ j,j≤nPc dat→Steps id st (putAt st id off dat j)
 | 0,_=>Steps.refl
 | j+1,hj=>by
  have hI:=B5b hc j (by omega)
  obtain ⟨hr,hf,_⟩:=B4O hc hI (by omega)
  have h1:=hc.nx.2
  have h2:=hI.nx
  have h3:=hI.len
  exact .step (C1Z hc j (by omega)) ⟨hr,A6T (A2n hc.byt _) _⟩ rfl rfl (by omega) rfl (fun e=>by cases e) hf
theorem D49{st:A7}{id:ByteArray}{off:Int}{dat:List Int}(h:Rt st)(hb:Byt dat):Steps id st (A4k st id off dat).1:=by
 unfold A4k
 split
 ·rename_i h1
  split
  ·rename_i h3
   split
   ·exact Steps.refl
   ·rename_i h4
    split
    ·exact Steps.refl
    ·rename_i h5
     exact C1Z (B5c h hb h1.1 h1.2 h3 h4 h5) _ (Nat.le_refl _)
  ·exact Steps.refl
 ·exact Steps.refl
theorem B8e{st:A7}(h:GoodS st):Rt st∧A8B st∧F7 st=some (true,())∧A1i st=some (true,()):=by
 have hU:=B8b h
 have hS:=A4l h.dk
 obtain ⟨b,h1,h2,h3⟩:=D1S st hS.1.1 (fun u hu=>(hU.2.2 u hu).2.2.2)
 rw [h3.2 h] at h1 h2
 exact ⟨C9I h hU,D45 hS.1 hU,h1,h2⟩
structure E2Z (k:Nat) (st:A7):Prop where
 dur:∃ c,Dur st c
 ep:st.2.1≤(k:Int)
 ids:∀ s,s∈st.1.1∨s∈st.1.2→(D5 s).2.1=true→(D5 s).1.2.2.2.1∈ [(⟨#[97]⟩:ByteArray),(⟨#[98]⟩:ByteArray),(⟨#[99]⟩:ByteArray)]
theorem C8G{x:List ByteArray}{us:List TUp}(h:GoodS (Y8 x us)):D9 (x,x)=some (Y8 x us,true,()):=by
 obtain ⟨hS,_,h200,_⟩:=A4l h.dk
 have hdk:A3s (x,x)=true:=h.dk
 have hl:x.length≤200:=h200
 have hll:=A5g 0 0 x
 have hfs:=A2p (B6 x) (by simp only [maxLen,B6];omega) (B2O 0 0 x)
 have hf:Q7 (B6 x)=(us,true,()):=by
  unfold Q7
  rw [show I0 [] (B6 x)=some us from h.up]
 have htop:=C3S x
 have hep:A2U x+1≤10000:=h.ep.2
 simp only [D9,P6,A6Z,hdk,B5f (x,x) hS.1,hfs,hf,A6A (x,x) hS.1,A02 (x,x) hS,bO,Bool.not_true,cond_false]
 rw [w64 (n:=A2U x+1) (by omega) (by omega),A3 (show ¬ A2U x+1>10000 by omega)]
 rfl
theorem D4A(last:Int)(i:Nat)(l:List ByteArray)(h:∀ s∈l,(D5 s).2.1=false):J2 last i l = []:=B7Y _ _ _ fun s hs=>by
 simp only [A20,h s (List.mem_of_mem_head? hs),Bool.false_and]
theorem B8f:(D5 ⟨#[]⟩).2.1=false:=by
 unfold D5 A9F
 have h0:(⟨#[]⟩:ByteArray).size=0:=rfl
 rw [h0,A3 (by omega)]
 rfl
theorem C6o(n:Int)(hn:n≤200):E2Z 0 (E6 n,(0,(0,[]))):=by
 have hall:∀ s,s∈(E6 n).1∨s∈(E6 n).2→s=⟨#[]⟩:=by
  intro s hs
  unfold E6 at hs
  split at hs
  ·rcases hs with hs | hs<;>exact (List.mem_replicate.1 hs).2
  ·rcases hs with hs | hs<;>cases hs
 have hg:∀ s∈(E6 n).1,(D5 s).2.1=false:=fun s hs=>by rw [hall s (.inl hs)];exact B8f
 have hsc:B6 (E6 n).1 = []:=D4A _ _ _ hg
 have hsz:∀ s,s∈(E6 n).1∨s∈(E6 n).2→s.size≤64:=fun s hs=>by rw [hall s hs];show 0≤64;omega
 have hlen:(E6 n).1.length=(E6 n).2.length∧(E6 n).1.length≤200:=by
  unfold E6
  split<;>simp<;>omega
 have heq:(E6 n).2=(E6 n).1:=by
  unfold E6
  split<;>rfl
 have hG:GoodS (E6 n,(0,(0,[]))):=by
  refine ⟨B8a hlen.1 hlen.2 (fun s hs=>hsz s (.inl hs)) (fun s hs=>hsz s (.inr hs)),by simp,?_,?_,?_,?_⟩
  ·show I0 [] (B6 (E6 n).1)=_;rw [hsc];rfl
  ·show (0:Int)=((B6 (E6 n).1).length:Int);rw [hsc];rfl
  ·show A12 0 (B6 (E6 n).1)≤0;rw [hsc];exact Int.le_refl _
  ·refine List.all_eq_true.2 fun s hs=>?_
   have:=hg s (List.mem_of_mem_drop hs)
   simp only [A2q,this,Bool.false_and,Bool.not_false]
 refine ⟨⟨0,hG,Nat.zero_le _,fun i _=>by rw [show ((E6 n,((0:Int),((0:Int),([]:List TUp)))):A7).1.2=(E6 n).1 from heq],fun i s _ h2 _=>?_,fun i h1 _=>?_,?_⟩,by simp,fun s hs hr=>?_⟩
 ·have h2':i<(B6 (E6 n).1).length:=h2
  rw [hsc] at h2';simp at h2'
 ·have h1':i<(B6 (E6 n).1).length:=h1
  rw [hsc] at h1';simp at h1'
 ·show B6 (E6 n).2=(B6 (E6 n).1).take 0
  rw [heq,hsc];rfl
 ·rw [hall s hs,B8f] at hr;cases hr
def lenOf(st:A7)(id:ByteArray):Int:=if H1 st.2.2.2 id=true then (List.length (rd kUp st.2.2.2 (B4 st.2.2.2 id:Int)).2.2.1:Int) else 0
def I8(st:A7)(code:Int)(id:ByteArray):S3:=
 if code=2 then (404,-1) else if code=3∨code=4 then (409,lenOf st id) else if code=5 then (507,-1) else if code=6 then (422,-1) else (400,-1)
def D1Z(st:A7)(r:A2A):S3:=
 if H1 st.2.2.2 r.2.1=true then (if r.1=5∧(rd kUp st.2.2.2 (B4 st.2.2.2 r.2.1:Int)).2.2.2=false then (409,lenOf st r.2.1) else (200,lenOf st r.2.1)) else (404,-1)
def B01(st:A7)(r:A2A)(dat:List Int):A7×S3:=
 if r.1=1 then ((A2Q st r.2.1 r.2.2).1,if (A2Q st r.2.1 r.2.2).2=0 then (201,0) else I8 st (A2Q st r.2.1 r.2.2).2 r.2.1)
 else if r.1=3 then ((A4k st r.2.1 r.2.2 dat).1,if (A4k st r.2.1 r.2.2 dat).2=0 then (204,r.2.2+(dat.length:Int)) else I8 st (A4k st r.2.1 r.2.2 dat).2 r.2.1)
 else if r.1=4 then ((A1z st r.2.1 r.2.2).1,if (A1z st r.2.1 r.2.2).2=0 then (200,-1) else I8 st (A1z st r.2.1 r.2.2).2 r.2.1)
 else if r.1=6 then ((A58 st r.2.1).1,if (A58 st r.2.1).2=0 then (204,-1) else I8 st (A58 st r.2.1).2 r.2.1)
 else (st,D1Z st r)
theorem B7b{st:A7}{id:ByteArray}{n:Int}(h:¬ (A2Q st id n).2=0):(A2Q st id n).1=st:=by
 unfold A2Q at h ⊢
 split
 ·rename_i h1
  rw [if_pos h1] at h
  split
  ·rfl
  ·rename_i h2
   rw [if_neg h2] at h
   split
   ·rfl
   ·rename_i h3
    rw [if_neg h3] at h
    exact absurd rfl h
 ·rfl
theorem C0P{st:A7}{id:ByteArray}{n:Int}{d:List Int}(h:¬ (A4k st id n d).2=0):(A4k st id n d).1=st:=by
 unfold A4k at h ⊢
 split
 ·rename_i h1
  rw [if_pos h1] at h
  split
  ·rename_i h2
   rw [if_pos h2] at h
   split
   ·rfl
   ·rename_i h3
    rw [if_neg h3] at h
    split
    ·rfl
    ·rename_i h4
     rw [if_neg h4] at h
     exact absurd rfl h
  ·rfl
 ·rfl
theorem B7c{st:A7}{id:ByteArray}{n:Int}(h:¬ (A1z st id n).2=0):(A1z st id n).1=st:=by
 unfold A1z at h ⊢
 split
 ·rename_i h1
  rw [if_pos h1] at h
  split
  ·rename_i h2
   rw [if_pos h2] at h
   split
   ·rfl
   ·rename_i h3
    rw [if_neg h3] at h
    split
    ·rfl
    ·rename_i h4
     rw [if_neg h4] at h
     split
     ·rfl
     ·rename_i h5
      rw [if_neg h5] at h
      split
      ·rfl
      ·rename_i h6
       rw [if_neg h6] at h
       exact absurd rfl h
  ·rfl
 ·rfl
theorem C4g{st:A7}{id:ByteArray}(h:¬ (A58 st id).2=0):(A58 st id).1=st:=by
 unfold A58 at h ⊢
 split
 ·rename_i h1
  rw [if_pos h1] at h
  split
  ·rename_i h2
   rw [if_pos h2] at h
   split
   ·rfl
   ·rename_i h4
    rw [if_neg h4] at h
    exact absurd rfl h
  ·rfl
 ·rfl
theorem B8g{st:A7}{id:ByteArray}{off:Int}{dat:List Int}(h:Rt st)(hb:Byt dat)(h0:(A4k st id off dat).2=0):lenOf (A4k st id off dat).1 id=off+(dat.length:Int)∧off=lenOf st id∧0≤off:=by
 unfold A4k at h0 ⊢
 split at h0
 ·rename_i h1
  rw [if_pos h1]
  split at h0
  ·rename_i h3
   rw [if_pos h3]
   split at h0
   ·simp at h0
   ·rename_i h4
    rw [if_neg h4]
    split at h0
    ·simp at h0
    ·rename_i h5
     rw [if_neg h5]
     have hc:=B5c h hb h1.1 h1.2 h3 h4 h5
     have hI:=B5b hc _ (Nat.le_refl _)
     have hn:dat.length≤nPc dat*24:=by
      have:¬ nPc dat<nPc dat:=Nat.lt_irrefl _
      rw [B4N] at this
      omega
     have hat:=hc.at'
     refine ⟨?_,?_,by omega⟩
     ·unfold lenOf
      rw [if_pos hI.has,hI.val]
      simp only [List.length_append,List.take_of_length_le hn]
      omega
     ·unfold lenOf
      rw [if_pos h3]
      exact hat
  ·simp at h0
 ·simp at h0
theorem C0Q(x:D0)(n:Int)(id:ByteArray)(hU:Ups x.1.2.2.2):N1 x n id=some ((n,lenOf x.1 id),x,()):=by
 have hul:=hU.2.1
 simp only [N1,A6m,lenOf]
 rw [A7Y x.1.2.2.2 id (by simp only [maxLen];omega)]
 cases hh:H1 x.1.2.2.2 id with
 | false=>
  simp only [Bool.false_eq_true,if_false,bO]
  rw [A0 (show (-1:Int)<0 by omega)]
  rfl
 | true=>
  simp only [if_true,bO]
  rw [A3 (show ¬ (B4 x.1.2.2.2 id:Int)<0 by omega)]
  rfl
theorem A7P(x:D0)(c:Int)(id:ByteArray)(hU:Ups x.1.2.2.2):J1 x c id=some (I8 x.1 c id,x,()):=by
 simp only [J1,A3b,C0Q x 409 id hU,I8,bO]
 by_cases h2:c=2
 ·rw [A0 h2,if_pos h2];rfl
 rw [A3 h2,if_neg h2]
 by_cases h3:c=3
 ·rw [A0 h3,if_pos (.inl h3)];rfl
 rw [A3 h3]
 by_cases h4:c=4
 ·rw [A0 h4,if_pos (.inr h4)];rfl
 rw [A3 h4,if_neg (fun h=>h.elim h3 h4)]
 simp only [cond_false,bO]
 by_cases h5:c=5
 ·rw [A0 h5,if_pos h5];rfl
 rw [A3 h5,if_neg h5]
 by_cases h6:c=6
 ·rw [A0 h6,if_pos h6];rfl
 rw [A3 h6,if_neg h6]
 rfl
theorem D7H(x:D0)(r:A2A)(hU:Ups x.1.2.2.2):A0w x r=some (D1Z x.1 r,x,()):=by
 have hul:=hU.2.1
 simp only [A0w,A6n,C0Q x _ r.2.1 hU,D1Z,bO]
 rw [A7Y x.1.2.2.2 r.2.1 (by simp only [maxLen];omega)]
 cases hh:H1 x.1.2.2.2 r.2.1 with
 | false=>
  simp only [Bool.false_eq_true,if_false,bO]
  rw [A0 (show (-1:Int)<0 by omega)]
  rfl
 | true=>
  simp only [if_true,bO]
  rw [A3 (show ¬ (B4 x.1.2.2.2 r.2.1:Int)<0 by omega)]
  simp only [cond_false]
  by_cases h5:r.1=5
  ·rw [A0 h5]
   simp only [cond_true,bO]
   cases hd:(rd kUp x.1.2.2.2 (B4 x.1.2.2.2 r.2.1:Int)).2.2.2 with
   | true=>rw [if_neg (fun h=>by cases h.2)];rfl
   | false=>rw [if_pos ⟨h5,rfl⟩];rfl
  ·rw [A3 h5,if_neg (fun h=>h5 h.1)]
   rfl
theorem C8H(st:A7)(id:ByteArray)(hU:Ups st.2.2.2):A7x st id=some (if H1 st.2.2.2 id=true then rd kUp st.2.2.2 (B4 st.2.2.2 id:Int) else (⟨#[]⟩,(0,([],false))),H1 st.2.2.2 id,()):=by
 simp only [A7x,C4F]
 rw [B8Y st.2.2.2 id hU]
 cases hh:H1 st.2.2.2 id with
 | false=>
  simp only [Bool.false_eq_true,if_false,bO]
  rw [A0 (show (-1:Int)<0 by omega)]
  rfl
 | true=>
  obtain ⟨hlt,hid2⟩:=J0.1 hh
  have hdl:=A9I hU _ (List.getElem_mem hlt)
  rw [← C7 (k:=kUp) hlt] at hdl
  simp only [if_true,bO]
  rw [A3 (show ¬ (B4 st.2.2.2 id:Int)<0 by omega),A0 (show (0:Int)≤(B4 st.2.2.2 id:Int) by omega),A0 (show (B4 st.2.2.2 id:Int)<(st.2.2.2.length:Int) by omega),A0 (by simp;omega),A0 (by simp;omega)]
  simp only [cond_true,cond_false,List.nil_append]
theorem B8h(st:A7)(id:ByteArray)(c:Int)(hU:Ups st.2.2.2):A7y st id c=some (I8 st c id,()):=by
 have hlo:(List.length (if H1 st.2.2.2 id=true then rd kUp st.2.2.2 (B4 st.2.2.2 id:Int) else ((⟨#[]⟩,(0,([],false))):TUp)).2.2.1:Int)=lenOf st id:=by
  unfold lenOf;split<;>rfl
 simp only [A7y,B7N,C8H st id hU,I8,bO,hlo]
 by_cases h2:c=2
 ·rw [A0 h2,if_pos h2];rfl
 rw [A3 h2,if_neg h2]
 by_cases h3:c=3
 ·rw [A0 h3,if_pos (.inl h3)];rfl
 rw [A3 h3]
 by_cases h4:c=4
 ·rw [A0 h4,if_pos (.inr h4)];rfl
 rw [A3 h4,if_neg (fun h=>h.elim h3 h4)]
 simp only [cond_false,bO]
 by_cases h5:c=5
 ·rw [A0 h5,if_pos h5];rfl
 rw [A3 h5,if_neg h5]
 by_cases h6:c=6
 ·rw [A0 h6,if_pos h6];rfl
 rw [A3 h6,if_neg h6]
 rfl
theorem D4B(st:A7)(r:A2A)(hU:Ups st.2.2.2):A4N st r=some (D1Z st r,()):=by
 simp only [A4N,B20,C8H st r.2.1 hU,D1Z,lenOf,bO]
 cases hh:H1 st.2.2.2 r.2.1 with
 | false=>rfl
 | true=>
  simp only [if_true,Bool.not_true,cond_false]
  by_cases h5:r.1=5
  ·rw [A0 h5]
   cases hd:(rd kUp st.2.2.2 (B4 st.2.2.2 r.2.1:Int)).2.2.2 with
   | true=>rw [if_neg (fun h=>by cases h.2)];rfl
   | false=>rw [if_pos ⟨h5,rfl⟩];rfl
  ·rw [A3 h5,if_neg (fun h=>h5 h.1)]
   rfl
theorem D1a(x:D0)(r:A2A)(dat:List Int)(hid:r.2.1.size≤maxLen)(h:Rt x.1)(hb:Byt dat)(hd:dat.length≤1048576)(ho:-9223372036854775808≤r.2.2∧r.2.2≤9223372036854775807) :
  Y6 x r dat=some ((B01 x.1 r dat).2,((B01 x.1 r dat).1,x.2),()):=by
 have hU:=h.up
 simp only [Y6,A4b,B01]
 by_cases h1:r.1=1
 ·rw [A0 h1,if_pos h1,D1J x.1 r.2.1 r.2.2 hid h]
  simp only [cond_true,bO,B7]
  by_cases hz:(A2Q x.1 r.2.1 r.2.2).2=0
  ·rw [A0 hz,if_pos hz];rfl
  ·rw [A3 hz,if_neg hz,B7b hz]
   simp only [Bool.not_false,cond_true]
   have e:=A7P x (A2Q x.1 r.2.1 r.2.2).2 r.2.1 hU
   have e':J1 (((x.1.1.1,x.1.1.2),(x.1.2.1,(x.1.2.2.1,x.1.2.2.2))),x.2) (A2Q x.1 r.2.1 r.2.2).2 r.2.1=_:=e
   rw [e']
   rfl
 rw [A3 h1,if_neg h1]
 by_cases h3:r.1=3
 ·rw [A0 h3,if_pos h3,D43 x.1 r.2.1 r.2.2 dat hid h hb hd ho]
  simp only [cond_true,cond_false,bO]
  have hU2:=(D1I (id:=r.2.1) (off:=r.2.2) (dat:=dat) h hb).1
  rw [C0Q ((A4k x.1 r.2.1 r.2.2 dat).1,x.2) 204 r.2.1 hU2]
  simp only [bO,B7]
  by_cases hz:(A4k x.1 r.2.1 r.2.2 dat).2=0
  ·rw [A0 hz,if_pos hz,(B8g h hb hz).1];rfl
  ·rw [A3 hz,if_neg hz,C0P hz]
   simp only [Bool.not_false,cond_true]
   have e:=A7P x (A4k x.1 r.2.1 r.2.2 dat).2 r.2.1 hU
   have e':J1 (((x.1.1.1,x.1.1.2),(x.1.2.1,(x.1.2.2.1,x.1.2.2.2))),x.2) (A4k x.1 r.2.1 r.2.2 dat).2 r.2.1=_:=e
   rw [e']
   rfl
 rw [A3 h3,if_neg h3]
 by_cases h4:r.1=4
 ·rw [A0 h4,if_pos h4,D1L x.1 r.2.1 r.2.2 hid h]
  simp only [cond_true,cond_false,bO,B7]
  by_cases hz:(A1z x.1 r.2.1 r.2.2).2=0
  ·rw [A0 hz,if_pos hz];rfl
  ·rw [A3 hz,if_neg hz,B7c hz]
   simp only [Bool.not_false,cond_true]
   have e:=A7P x (A1z x.1 r.2.1 r.2.2).2 r.2.1 hU
   have e':J1 (((x.1.1.1,x.1.1.2),(x.1.2.1,(x.1.2.2.1,x.1.2.2.2))),x.2) (A1z x.1 r.2.1 r.2.2).2 r.2.1=_:=e
   rw [e']
   rfl
 rw [A3 h4,if_neg h4]
 by_cases h6:r.1=6
 ·rw [A0 h6,if_pos h6,D1N x.1 r.2.1 hid h]
  simp only [cond_true,cond_false,bO,B7]
  by_cases hz:(A58 x.1 r.2.1).2=0
  ·rw [A0 hz,if_pos hz];rfl
  ·rw [A3 hz,if_neg hz,C4g hz]
   simp only [Bool.not_false,cond_true]
   have e:=A7P x (A58 x.1 r.2.1).2 r.2.1 hU
   have e':J1 (((x.1.1.1,x.1.1.2),(x.1.2.1,(x.1.2.2.1,x.1.2.2.2))),x.2) (A58 x.1 r.2.1).2 r.2.1=_:=e
   rw [e']
   rfl
 rw [A3 h6,if_neg h6,D7H x r hU]
 rfl
theorem C8I(st:A7)(r:A2A)(dat:List Int)(hid:r.2.1.size≤maxLen)(h:Rt st)(hS:A8B st)(hok:F7 st=some (true,()))(hb:Byt dat)(hd:dat.length≤1048576)(ho:-9223372036854775808≤r.2.2∧r.2.2≤9223372036854775807) :
  T3 st r dat=some ((B01 st r dat).1,(B01 st r dat).2,()):=by
 have hU:=h.up
 simp only [T3,A4T,B01]
 by_cases h1:r.1=1
 ·rw [A0 h1,if_pos h1,D1K st r.2.1 r.2.2 hid h hS hok]
  simp only [cond_true,bO,B7]
  by_cases hz:(A2Q st r.2.1 r.2.2).2=0
  ·rw [A0 hz,if_pos hz];rfl
  ·rw [A3 hz,if_neg hz,B7b hz]
   simp only [Bool.not_false,cond_true,B8h st r.2.1 _ hU,bO]
 rw [A3 h1,if_neg h1]
 by_cases h3:r.1=3
 ·rw [A0 h3,if_pos h3,D44 st r.2.1 r.2.2 dat hid h hS hok hb hd ho]
  simp only [cond_true,cond_false,bO,B7]
  by_cases hz:(A4k st r.2.1 r.2.2 dat).2=0
  ·rw [A0 hz,if_pos hz]
   have hl:=B8g h hb hz
   have hlo:lenOf st r.2.1≤2000000000:=by
    unfold lenOf
    split
    ·rename_i hh
     obtain ⟨hlt,_⟩:=J0.1 hh
     have hdl:=A9I hU _ (List.getElem_mem hlt)
     rw [← C7 (k:=kUp) hlt] at hdl
     omega
    ·omega
   rw [w64 (by omega) (by omega)]
   rfl
  ·rw [A3 hz,if_neg hz,C0P hz]
   simp only [Bool.not_false,cond_true,B8h st r.2.1 _ hU,bO]
 rw [A3 h3,if_neg h3]
 by_cases h4:r.1=4
 ·rw [A0 h4,if_pos h4,D1M st r.2.1 r.2.2 hid h hS hok]
  simp only [cond_true,cond_false,bO,B7]
  by_cases hz:(A1z st r.2.1 r.2.2).2=0
  ·rw [A0 hz,if_pos hz];rfl
  ·rw [A3 hz,if_neg hz,B7c hz]
   simp only [Bool.not_false,cond_true,B8h st r.2.1 _ hU,bO]
 rw [A3 h4,if_neg h4]
 by_cases h6:r.1=6
 ·rw [A0 h6,if_pos h6,D1O st r.2.1 hid h hS hok]
  simp only [cond_true,cond_false,bO,B7]
  by_cases hz:(A58 st r.2.1).2=0
  ·rw [A0 hz,if_pos hz];rfl
  ·rw [A3 hz,if_neg hz,C4g hz]
   simp only [Bool.not_false,cond_true,B8h st r.2.1 _ hU,bO]
 rw [A3 h6,if_neg h6,D4B st r hU]
 rfl
def H2(c:P2):P2:=if G3 c&&!A2m c then (c.1,c.2.1,2,c.2.2.2) else c
theorem A9J(c:P2)(h:c.1.size≤maxLen)(h2:c.2.1.length≤140737488355328):A0h c=some (H2 c,()):=by
 simp only [A0h,B7P,pe,B7V _ h2,A2l _ h,B7U,A4,H2]
 cases G3 c<;>cases A2m c<;>simp
theorem D1b(c:P2)(h:c.1.size≤maxLen)(h2:c.2.1.length≤140737488355328):A88 c=some (H2 c,()):=by
 simp only [A88,B7T,pe,A9z _ h2,A67 _ h,C0D,A4,H2]
 cases G3 c<;>cases A2m c<;>simp
theorem E0y{us:List TUp}(ho:Ord us){i j:Nat}(hi:i<us.length)(hj:j<us.length)(h:us[i].1.toList=us[j].1.toList):i=j:=by
 rcases Nat.lt_trichotomy i j with h1 | h1 | h1
 ·have:=List.pairwise_iff_getElem.1 ho i j hi hj h1
  rw [h] at this
  simp [A3p] at this
 ·exact h1
 ·have:=List.pairwise_iff_getElem.1 ho j i hj hi h1
  rw [h] at this
  simp [A3p] at this
theorem D1c{st:A7}(ho:Ord st.2.2.2){u:TUp}(hu:u∈st.2.2.2):C97 st u.1=(u,true,()):=by
 obtain ⟨i,hi,rfl⟩:=List.getElem_of_mem hu
 have hle:B8P st.2.2.2 st.2.2.2[i].1≤i:=by
  refine Nat.le_of_not_lt fun hlt=>?_
  have:=A6V _ st.2.2.2.length 0 i (by omega) hlt
  rw [C7 (k:=kUp) (xs:=st.2.2.2) hi] at this
  simp at this
 have hlt:B8P st.2.2.2 st.2.2.2[i].1<st.2.2.2.length:=by omega
 have hf:=A4i (fun j=>!((rd kUp st.2.2.2 (j:Int)).1.toList == st.2.2.2[i].1.toList)) st.2.2.2.length 0 (by have:B8P st.2.2.2 st.2.2.2[i].1<st.2.2.2.length:=hlt;unfold B8P at this;omega)
 have hf2:(!((rd kUp st.2.2.2 (B8P st.2.2.2 st.2.2.2[i].1:Int)).1.toList == st.2.2.2[i].1.toList))=false:=hf
 rw [C7 (k:=kUp) (xs:=st.2.2.2) hlt] at hf2
 simp only [Bool.not_eq_false',beq_iff_eq] at hf2
 have:=E0y ho hlt hi hf2
 unfold C97
 rw [if_pos hlt,C7 (k:=kUp) (xs:=st.2.2.2) hlt]
 simp only [this]
structure LeU (u v:TUp):Prop where
 id:u.1=v.1
 want:@Eq Int u.2.1 v.2.1
 len:List.length u.2.2.1≤List.length v.2.2.1
 dat:u.2.2.1=List.take (List.length u.2.2.1) v.2.2.1
 fin:u.2.2.2=true→v.2.2.2=true∧v.2.2.1=u.2.2.1
def C0R(us vs:List TUp):Prop:=∀ u∈us,∃ v∈vs,LeU u v
theorem C4h(u:TUp):LeU u u:=⟨rfl,rfl,Nat.le_refl _,(List.take_length).symm,fun h=>⟨h,rfl⟩⟩
theorem D7I{u v x:TUp}(h:LeU u v)(h':LeU v x):LeU u x:=
 ⟨h.id.trans h'.id,h.want.trans h'.want,Nat.le_trans h.len h'.len,by
  have h1:=h.dat
  rw [h'.dat,List.take_take,Nat.min_eq_left h.len] at h1
  exact h1,fun hd=>by
  obtain ⟨g1,g2⟩:=h.fin hd
  obtain ⟨g3,g4⟩:=h'.fin g1
  exact ⟨g3,g4.trans g2⟩⟩
theorem C8J(us:List TUp):C0R us us:=fun u hu=>⟨u,hu,C4h u⟩
theorem D4C{us vs xs:List TUp}(h:C0R us vs)(h':C0R vs xs):C0R us xs:=fun u hu=>by
 obtain ⟨v,hv,h1⟩:=h u hu
 obtain ⟨x,hx,h2⟩:=h' v hv
 exact ⟨x,hx,D7I h1 h2⟩
theorem D1d{us:List TUp}{p:Nat}{v:TUp}(h:∀ hp:p<us.length,LeU us[p] v):C0R us (us.set p v):=fun u hu=>by
 obtain ⟨j,hj,rfl⟩:=List.getElem_of_mem hu
 by_cases hjp:p=j
 ·subst hjp
  exact ⟨v,List.mem_iff_getElem.2 ⟨p,by rw [List.length_set];exact hj,List.getElem_set_self _⟩,h hj⟩
 ·exact ⟨us[j],List.mem_iff_getElem.2 ⟨j,by rw [List.length_set];exact hj,List.getElem_set_ne hjp _⟩,C4h _⟩
theorem C4i{us us':List TUp}{r:H3}(h:K7 us r=some us')(hk:r.2.2.1≠4):C0R us us':=by
 simp only [K7] at h
 split at h
 ·split at h
  ·cases h
  ·injection h with h;subst h
   intro u hu
   refine ⟨u,?_,C4h u⟩
   rw [← List.take_append_drop (B4 us r.2.2.2.1) us] at hu
   rcases List.mem_append.1 hu with hu | hu
   ·exact List.mem_append_left _ hu
   ·exact List.mem_append_right _ (List.mem_cons_of_mem _ hu)
 ·split at h
  ·cases h
  ·split at h
   ·split at h
    ·cases h
    ·rename_i hc
     injection h with h;subst h
     refine D1d fun hp=>?_
     rw [C7 (k:=kUp) (xs:=us) hp] at hc ⊢
     rw [not_or] at hc
     refine ⟨rfl,rfl,?_,?_,fun hd=>absurd hd hc.1⟩
     ·simp only [List.length_append];omega
     ·simp only [List.take_left]
   ·split at h
    ·split at h
     ·cases h
     ·injection h with h;subst h
      refine D1d fun hp=>?_
      rw [C7 (k:=kUp) (xs:=us) hp]
      refine ⟨rfl,rfl,Nat.le_refl _,(List.take_length).symm,fun _=>⟨rfl,rfl⟩⟩
    ·cases h
theorem C4j:∀ {l:List H3} {us us':List TUp},I0 us l=some us'→(∀ r∈l,r.2.2.1≠4)→C0R us us'
 | [],us,us',h,_=>by
  simp only [I0,Option.some.injEq] at h;subst h
  exact C8J _
 | r::l,us,us',h,hk=>by
  simp only [I0] at h
  split at h
  ·rename_i us1 e1
   exact D4C (C4i e1 (hk r List.mem_cons_self)) (C4j h fun x hx=>hk x (List.mem_cons_of_mem _ hx))
  ·cases h
theorem C0S{L:List H3}{a b:Nat}{ua ub:List TUp}(hab:a≤b)(ha:I0 [] (L.take a)=some ua)(hb:I0 [] (L.take b)=some ub)(hk:∀ r∈L,r.2.2.1≠4):C0R ua ub:=by
 have e:L.take b=L.take a++(L.take b).drop a:=by
  have:=List.take_append_drop a (L.take b)
  rw [List.take_take,Nat.min_eq_left hab] at this
  exact this.symm
 rw [e,B4P,ha] at hb
 exact C4j hb fun r hr=>hk r (List.mem_of_mem_take (List.mem_of_mem_drop hr))
structure OkU (f:List Int) (u:TUp):Prop where
 want:@Eq Int u.2.1 (f.length:Int)
 len:List.length u.2.2.1≤f.length
 dat:u.2.2.1=f.take (List.length u.2.2.1)
 fin:u.2.2.2=true→List.length u.2.2.1=f.length
theorem E24{f:List Int}{u v:TUp}(h:LeU u v)(hv:OkU f v):OkU f u:=by
 refine ⟨h.want.trans hv.want,Nat.le_trans h.len hv.len,?_,fun hd=>?_⟩
 ·have h1:=h.dat
  rw [hv.dat,List.take_take,Nat.min_eq_left h.len] at h1
  exact h1
 ·obtain ⟨g1,g2⟩:=h.fin hd
  rw [← g2]
  exact hv.fin g1
structure ClG (c:A8):Prop where
 ok:G3 c=true
 lo:c.2.2.1≠6
 byt:Byt c.2.1
 off:c.2.2.1=3→c.2.2.2<(c.2.1.length:Int)
def Fits(c:A8)(r:S3):Prop:=
 (c.2.2.1=1∧(r=(201,0)∨(∃ o:Nat,o≤c.2.1.length∧r=(409,(o:Int)))∨r=(507,-1)))∨
 (c.2.2.1=2∧(r=(404,-1)∨∃ o:Nat,o≤c.2.1.length∧r=(200,(o:Int))))∨
 (c.2.2.1=3∧((∃ o:Nat,o≤c.2.1.length∧(r=(204,(o:Int))∨r=(409,(o:Int))))∨r=(404,-1)∨r=(507,-1)))∨
 (c.2.2.1=4∧(r=(200,-1)∨r=(404,-1)∨(∃ o:Nat,o≤c.2.1.length∧r=(409,(o:Int)))∨r=(507,-1)))
def Told(c:A8)(r:S3)(us:List TUp):Prop:=
 (r.2=-1∨∃ u∈us,u.1=c.1∧r.2≤(List.length u.2.2.1:Int))∧(c.2.2.1=4→r.1=200→∃ u∈us,u.1=c.1∧u.2.2.2=true)
theorem C8K{c:A8}{r:S3}{us vs:List TUp}(h:Told c r us)(hl:C0R us vs):Told c r vs:=by
 refine ⟨h.1.elim .inl fun ⟨u,hu,e,hle⟩=>?_,fun h4 h2=>?_⟩
 ·obtain ⟨v,hv,hlu⟩:=hl u hu
  have:=hlu.len
  exact .inr ⟨v,hv,hlu.id.symm.trans e,by omega⟩
 ·obtain ⟨u,hu,e,hd⟩:=h.2 h4 h2
  obtain ⟨v,hv,hlu⟩:=hl u hu
  exact ⟨v,hv,hlu.id.symm.trans e,(hlu.fin hd).1⟩
def E25(c:A8)(st st':A7):Prop:=st' = st∨∃ r us,B4K r∧r.1=st.2.1∧r.2.1=st.2.2.1∧st.2.2.1<(st.1.1.length:Int)∧K7 st.2.2.2 r=some us∧r.2.2.1≠4∧st' = wrote st r us∧∀ u∈us,u∈st.2.2.2∨(u.1=c.1∧OkU c.2.1 u)
theorem B5g{st:A7}{id:ByteArray}(h:H1 st.2.2.2 id=true):∃ u∈st.2.2.2,u.1=id∧lenOf st id=(List.length u.2.2.1:Int)∧rd kUp st.2.2.2 (B4 st.2.2.2 id:Int)=u:=by
 obtain ⟨hlt,e⟩:=J0.1 h
 refine ⟨_,List.getElem_mem hlt,B8X e,?_,C7 (k:=kUp) (xs:=st.2.2.2) hlt⟩
 unfold lenOf
 rw [if_pos h,C7 (k:=kUp) (xs:=st.2.2.2) hlt]
theorem A0N{c:A8}(h:ClG c):idB c.1=true∧c.2.1.length≤400∧1≤c.2.2.1∧c.2.2.1≤5∧0≤c.2.2.2∧c.2.2.2≤(c.2.1.length:Int):=by
 have h1:=h.ok
 simp only [G3,Bool.and_eq_true,decide_eq_true_eq] at h1
 have:=h.lo
 refine ⟨h1.1.1.1,?_⟩
 omega
theorem D7J{c:A8}(hc:ClG c){st:A7}(hR:Rt st)(hu:∀ u∈st.2.2.2,u.1=c.1→OkU c.2.1 u){r:A2A}{dat:List Int}(hq:H9 c=(r,dat,true,())) :
  E25 c st (B01 st r dat).1∧Fits c (B01 st r dat).2∧Told c (B01 st r dat).2 (B01 st r dat).1.2.2.2:=by
 obtain ⟨hid,hlen,h1,h5,o0,o1⟩:=A0N hc
 obtain ⟨r5,r200⟩:=E23 hR
 have tell:H1 st.2.2.2 c.1=true→∃ o:Nat,o≤c.2.1.length∧lenOf st c.1=(o:Int)∧∃ u∈st.2.2.2,u.1=c.1∧(o:Int)≤(List.length u.2.2.1:Int):=fun hh=>by
  obtain ⟨u,hm,e,hl,_⟩:=B5g hh
  exact ⟨_,(hu u hm e).len,hl,u,hm,e,Int.le_refl _⟩
 unfold H9 at hq
 rw [hc.ok] at hq
 simp only [Bool.true_eq_false,if_false] at hq
 split at hq
 ·rename_i s1
  injection hq with q1 q2
  injection q2 with q2 _
  subst q1;subst q2
  simp only [B01,if_true]
  have hcode:∀ k,(A2Q st c.1 (c.2.1.length:Int)).2=k→k=0∨k=3∧H1 st.2.2.2 c.1=true∨k=5:=by
   intro k hk
   unfold A2Q at hk
   rw [if_pos ⟨hid,by omega,by omega⟩] at hk
   split at hk
   ·rename_i hh;exact .inr (.inl ⟨hk.symm,hh⟩)
   ·split at hk
    ·exact .inr (.inr hk.symm)
    ·exact .inl hk.symm
  by_cases hz:(A2Q st c.1 (c.2.1.length:Int)).2=0
  ·rw [if_pos hz]
   have hz':=hz
   unfold A2Q at hz' ⊢
   rw [if_pos ⟨hid,by omega,by omega⟩] at hz' ⊢
   split at hz'
   ·simp at hz'
   ·rename_i hh
    rw [if_neg hh]
    split at hz'
    ·simp at hz'
    ·rename_i h10
     rw [if_neg h10]
     have hr:=A8C hR.g 1 (c.2.1.length:Int) c.1 hid (fun hx=>h10 (.inl hx)) (.inl ⟨rfl,by omega,by omega⟩)
     have hf:=B5d (st:=st) (id:=c.1) (want:=(c.2.1.length:Int)) hh (fun hx=>h10 (.inr hx))
     refine ⟨.inr ⟨_,_,⟨hr,A08⟩,rfl,rfl,by omega,hf,by simp,rfl,fun u hm=>?_⟩,.inl ⟨s1,.inl rfl⟩,.inr ⟨(c.1,(c.2.1.length:Int),[],false),?_,rfl,by simp⟩,fun h4=>by rw [s1] at h4;cases h4⟩
     ·rcases List.mem_append.1 hm with hm | hm
      ·exact .inl (List.mem_of_mem_take hm)
      ·rcases List.mem_cons.1 hm with rfl | hm
       ·exact .inr ⟨rfl,rfl,Nat.zero_le _,rfl,fun h=>by cases h⟩
       ·exact .inl (List.mem_of_mem_drop hm)
     ·show _∈_++_::_
      simp
  ·rw [if_neg hz,B7b hz]
   rcases hcode _ rfl with h | ⟨h,hh⟩ | h
   ·exact absurd h hz
   ·obtain ⟨o,g1,g2,g3⟩:=tell hh
    rw [h]
    have e:I8 st 3 c.1=(409,(o:Int)):=by unfold I8;rw [if_neg (by omega),if_pos (.inl rfl),g2]
    rw [e]
    exact ⟨.inl rfl,.inl ⟨s1,.inr (.inl ⟨o,g1,rfl⟩)⟩,.inr g3,fun h4=>by rw [s1] at h4;cases h4⟩
   ·rw [h]
    have e:I8 st 5 c.1=(507,-1):=by unfold I8;rw [if_neg (by omega),if_neg (by omega),if_pos rfl]
    rw [e]
    exact ⟨.inl rfl,.inl ⟨s1,.inr (.inr rfl)⟩,.inl rfl,fun h4=>by rw [s1] at h4;cases h4⟩
 ·split at hq
  ·rename_i s2
   injection hq with q1 q2
   injection q2 with q2 _
   subst q1;subst q2
   simp only [B01]
   rw [if_neg (by omega),if_neg (by omega),if_neg (by omega),if_neg (by omega)]
   refine ⟨.inl rfl,?_⟩
   unfold D1Z
   simp only
   split
   ·rename_i hh
    obtain ⟨o,g1,g2,g3⟩:=tell hh
    rw [if_neg (by simp),g2]
    exact ⟨.inr (.inl ⟨s2,.inr ⟨o,g1,rfl⟩⟩),.inr g3,fun h4=>by rw [s2] at h4;cases h4⟩
   ·exact ⟨.inr (.inl ⟨s2,.inl rfl⟩),.inl rfl,fun h4=>by rw [s2] at h4;cases h4⟩
  ·split at hq
   ·rename_i s3
    injection hq with q1 q2
    injection q2 with q2 _
    subst q1
    have hoff:=hc.off s3
    obtain ⟨ho,hoe⟩:∃ o:Nat,c.2.2.2=(o:Int):=⟨c.2.2.2.toNat,by omega⟩
    rw [hoe,Int.toNat_natCast] at q2
    have hdl:dat.length=min (ho+24) c.2.1.length-ho:=by rw [← q2];simp [List.length_drop,List.length_take]
    have hbd:Byt dat:=by rw [← q2];exact A6T (A2n hc.byt _) _
    have hpc:nPc dat=1:=by unfold nPc;omega
    simp only [B01]
    rw [if_neg (by omega),if_pos trivial]
    have hcode:∀ k,(A4k st c.1 c.2.2.2 dat).2=k→k=0∨k=2∨k=4∧H1 st.2.2.2 c.1=true∨k=5:=by
     intro k hk
     unfold A4k at hk
     rw [if_pos ⟨hid,by omega,by omega⟩] at hk
     split at hk
     ·rename_i hh
      split at hk
      ·exact .inr (.inr (.inl ⟨hk.symm,hh⟩))
      ·split at hk
       ·exact .inr (.inr (.inr hk.symm))
       ·exact .inl hk.symm
     ·exact .inr (.inl hk.symm)
    by_cases hz:(A4k st c.1 c.2.2.2 dat).2=0
    ·rw [if_pos hz]
     obtain ⟨e1,e2,e3⟩:=B8g hR hbd hz
     have hz':=hz
     unfold A4k at hz' e1 ⊢
     rw [if_pos ⟨hid,by omega,by omega⟩] at hz' e1 ⊢
     split at hz'
     ·rename_i hh
      rw [if_pos hh] at e1 ⊢
      split at hz'
      ·simp at hz'
      ·rename_i h4
       rw [if_neg h4] at e1 ⊢
       split at hz'
       ·simp at hz'
       ·rename_i hl5
        rw [if_neg hl5] at e1 ⊢
        simp only [hpc] at e1 ⊢
        have hcc:=B5c hR hbd hid (by omega) hh h4 hl5
        obtain ⟨hr,hf,hI⟩:=B4O hcc (D9C hcc) (show 0<nPc dat by omega)
        have hpl:L7 24 dat 0=dat:=by unfold L7;rw [Nat.zero_mul,Nat.zero_add,List.drop_zero,List.take_of_length_le (by omega)]
        have hnx:=hcc.nx
        obtain ⟨u0,hm0,hid0,hl0,hrd0⟩:=B5g hh
        have hok0:=hu u0 hm0 hid0
        have hnd:u0.2.2.2=false:=by have:=hcc.nd;rw [hrd0] at this;exact this
        have hat:c.2.2.2=(List.length u0.2.2.1:Int):=by rw [e2,hl0]
        have hnew:OkU c.2.1 (u0.1,u0.2.1,u0.2.2.1++dat,u0.2.2.2):=by
         refine ⟨hok0.want,?_,?_,fun hd=>by rw [hnd] at hd;cases hd⟩
         ·simp only [List.length_append];omega
         ·simp only [List.length_append]
          have hou:List.length u0.2.2.1=ho:=by omega
          have hd0:=hok0.dat
          rw [hou] at hd0
          rw [hou,hdl]
          rw [hd0,← q2]
          have:=List.take_append_drop ho (c.2.1.take (min (ho+24) c.2.1.length))
          rw [List.take_take,Nat.min_eq_left (by omega)] at this
          rw [this]
          congr 1
          omega
        have hcat:B8Z st.2.2.2 c.1 dat=st.2.2.2.set (B4 st.2.2.2 c.1) (u0.1,u0.2.1,u0.2.2.1++dat,u0.2.2.2):=by unfold B8Z;rw [hrd0]
        rw [hpl] at hr hf
        have hmem:∀ u∈B8Z st.2.2.2 c.1 dat,u∈st.2.2.2∨(u.1=c.1∧OkU c.2.1 u):=fun u hm=>by
         rw [hcat] at hm
         rcases List.mem_or_eq_of_mem_set hm with hm | rfl
         ·exact .inl hm
         ·exact .inr ⟨hid0,hnew⟩
        have hput1:putAt st c.1 c.2.2.2 dat 1=wrote st (st.2.1,st.2.2.1,2,c.1,c.2.2.2+((0*24:Nat):Int),dat) (B8Z st.2.2.2 c.1 dat):=by
         show D40 (putAt st c.1 c.2.2.2 dat 0) c.1 _ (L7 24 dat 0)=_
         rw [hpl];rfl
        rw [hput1]
        refine ⟨.inr ⟨_,_,⟨hr,hbd⟩,rfl,rfl,by omega,hf,by simp,rfl,hmem⟩,.inr (.inr (.inl ⟨s3,.inl ⟨(c.2.2.2+(dat.length:Int)).toNat,by omega,.inl ?_⟩⟩)),.inr ?_,fun h4=>by rw [s3] at h4;cases h4⟩
        ·rw [Int.toNat_of_nonneg (by omega)]
        ·refine ⟨(u0.1,u0.2.1,u0.2.2.1++dat,u0.2.2.2),?_,hid0,by simp only [List.length_append];omega⟩
         show _∈B8Z st.2.2.2 c.1 dat
         rw [hcat]
         obtain ⟨hlt,_⟩:=J0.1 hh
         exact List.mem_iff_getElem.2 ⟨_,by rw [List.length_set];exact hlt,List.getElem_set_self _⟩
     ·simp at hz'
    ·rw [if_neg hz,C0P hz]
     rcases hcode _ rfl with h | h | ⟨h,hh⟩ | h
     ·exact absurd h hz
     ·rw [h]
      have e:I8 st 2 c.1=(404,-1):=by unfold I8;rw [if_pos rfl]
      rw [e]
      exact ⟨.inl rfl,.inr (.inr (.inl ⟨s3,.inr (.inl rfl)⟩)),.inl rfl,fun h4=>by rw [s3] at h4;cases h4⟩
     ·obtain ⟨o,g1,g2,g3⟩:=tell hh
      rw [h]
      have e:I8 st 4 c.1=(409,(o:Int)):=by unfold I8;rw [if_neg (by omega),if_pos (.inr rfl),g2]
      rw [e]
      exact ⟨.inl rfl,.inr (.inr (.inl ⟨s3,.inl ⟨o,g1,.inr rfl⟩⟩)),.inr g3,fun h4=>by rw [s3] at h4;cases h4⟩
     ·rw [h]
      have e:I8 st 5 c.1=(507,-1):=by unfold I8;rw [if_neg (by omega),if_neg (by omega),if_pos rfl]
      rw [e]
      exact ⟨.inl rfl,.inr (.inr (.inl ⟨s3,.inr (.inr rfl)⟩)),.inl rfl,fun h4=>by rw [s3] at h4;cases h4⟩
   ·split at hq
    ·rename_i s4
     injection hq with q1 q2
     injection q2 with q2 _
     subst q1;subst q2
     simp only [B01]
     rw [if_neg (by omega),if_neg (by omega),if_pos trivial]
     have hcrc:∀ u∈st.2.2.2,u.1=c.1→¬ (List.length u.2.2.1:Int)<u.2.1→u.2.2.1=c.2.1:=fun u hm e hl=>by
      have hk:=hu u hm e
      have h7:=hk.want
      have h8:=hk.len
      have h9:=hk.dat
      rw [List.take_of_length_le (by omega)] at h9
      exact h9
     have hcode:∀ k,(A1z st c.1 ((A6R c.2.1 ^^^ 4294967295:Nat):Int)).2=k→(k=0∧∃ u∈(A1z st c.1 ((A6R c.2.1 ^^^ 4294967295:Nat):Int)).1.2.2.2,u.1=c.1∧u.2.2.2=true)∨k=2∨k=4∧H1 st.2.2.2 c.1=true∨k=5:=by
      intro k hk
      unfold A1z at hk ⊢
      rw [if_pos hid] at hk ⊢
      split at hk
      ·rename_i hh
       obtain ⟨u0,hm0,hid0,hl0,hrd0⟩:=B5g hh
       rw [if_pos hh]
       rw [hrd0] at hk ⊢
       split at hk
       ·exact .inr (.inr (.inl ⟨hk.symm,hh⟩))
       ·rename_i hl
        rw [if_neg hl]
        have hfd:=hcrc u0 hm0 hid0 hl
        rw [hfd] at hk ⊢
        simp only [ne_eq,not_true_eq_false,if_false] at hk ⊢
        split at hk
        ·rename_i hd
         rw [if_pos hd]
         exact .inl ⟨hk.symm,u0,hm0,hid0,hd⟩
        ·rename_i hd
         rw [if_neg hd]
         split at hk
         ·exact .inr (.inr (.inr hk.symm))
         ·rename_i hle
          rw [if_neg hle]
          refine .inl ⟨hk.symm,(u0.1,u0.2.1,c.2.1,true),?_,hid0,rfl⟩
          obtain ⟨hlt,_⟩:=J0.1 hh
          show _∈List.set _ _ _
          exact List.mem_iff_getElem.2 ⟨_,by rw [List.length_set];exact hlt,List.getElem_set_self _⟩
      ·exact .inr (.inl hk.symm)
     by_cases hz:(A1z st c.1 ((A6R c.2.1 ^^^ 4294967295:Nat):Int)).2=0
     ·rw [if_pos hz]
      rcases hcode _ rfl with ⟨_,hd⟩ | h | ⟨h,_⟩ | h
      ·refine ⟨?_,.inr (.inr (.inr ⟨s4,.inl rfl⟩)),.inl rfl,fun _ _=>hd⟩
       have hz':=hz
       unfold A1z at hz' ⊢
       rw [if_pos hid] at hz' ⊢
       split at hz'
       ·rename_i hh
        rw [if_pos hh]
        split at hz'
        ·simp at hz'
        ·rename_i hl
         rw [if_neg hl]
         split at hz'
         ·simp at hz'
         ·rename_i hcr
          rw [if_neg hcr]
          split at hz'
          ·rename_i hd
           rw [if_pos hd]
           exact .inl rfl
          ·rename_i hd
           rw [if_neg hd]
           split at hz'
           ·simp at hz'
           ·rename_i hle
            rw [if_neg hle]
            have hr:=A8C hR.g 3 0 c.1 hid hle (.inr ⟨.inl rfl,rfl⟩)
            have hf:=B5e hR.up hh hl hd
            obtain ⟨u0,hm0,hid0,hl0,hrd0⟩:=B5g hh
            have hok0:=hu u0 hm0 hid0
            refine .inr ⟨_,_,⟨hr,A08⟩,rfl,rfl,by omega,hf,by simp,rfl,fun u hm=>?_⟩
            rw [hrd0] at hm hl
            rcases List.mem_or_eq_of_mem_set hm with hm | rfl
            ·exact .inl hm
            ·have h7:=hok0.want
             have h8:=hok0.len
             exact .inr ⟨hid0,hok0.want,hok0.len,hok0.dat,fun _=>by show List.length u0.2.2.1=_;omega⟩
       ·simp at hz'
      ·rw [h] at hz;cases hz
      ·rw [h] at hz;cases hz
      ·rw [h] at hz;cases hz
     ·rw [if_neg hz,B7c hz]
      rcases hcode _ rfl with ⟨h,_⟩ | h | ⟨h,hh⟩ | h
      ·exact absurd h hz
      ·rw [h]
       have e:I8 st 2 c.1=(404,-1):=by unfold I8;rw [if_pos rfl]
       rw [e]
       exact ⟨.inl rfl,.inr (.inr (.inr ⟨s4,.inr (.inl rfl)⟩)),.inl rfl,fun _ h2=>by cases h2⟩
      ·obtain ⟨o,g1,g2,g3⟩:=tell hh
       rw [h]
       have e:I8 st 4 c.1=(409,(o:Int)):=by unfold I8;rw [if_neg (by omega),if_pos (.inr rfl),g2]
       rw [e]
       exact ⟨.inl rfl,.inr (.inr (.inr ⟨s4,.inr (.inr (.inl ⟨o,g1,rfl⟩))⟩)),.inr g3,fun _ h2=>by cases h2⟩
      ·rw [h]
       have e:I8 st 5 c.1=(507,-1):=by unfold I8;rw [if_neg (by omega),if_neg (by omega),if_pos rfl]
       rw [e]
       exact ⟨.inl rfl,.inr (.inr (.inr ⟨s4,.inr (.inr (.inr rfl))⟩)),.inl rfl,fun _ h2=>by cases h2⟩
    ·unfold C1U at hq
     injection hq with _ hq
     injection hq with _ hq
     injection hq with hq _
     cases hq
theorem D7K{c:A8}(hc:ClG c){r:S3}(hf:Fits c r):ClG (hear c r)∧(hear c r).1=c.1∧(hear c r).2.1=c.2.1∧((hear c r).2.2.1=5→c.2.2.1=4∧r.1=200)∧A2m c=false:=by
 obtain ⟨hid,hlen,h1,h5,o0,o1⟩:=A0N hc
 have mk:∀ (s o:Int),1≤s→s≤5→0≤o→o≤(c.2.1.length:Int)→(s=3→o<(c.2.1.length:Int))→ClG (c.1,c.2.1,s,o):=fun s o g1 g2 g3 g4 g5=>by
  refine ⟨?_,by show s≠6;omega,hc.byt,g5⟩
  simp only [G3,Bool.and_eq_true,decide_eq_true_eq]
  refine ⟨⟨⟨hid,by omega⟩,by omega⟩,by omega⟩
 have far_ok:∀ o:Nat,o≤c.2.1.length→ClG (far c (o:Int))∧(far c (o:Int)).1=c.1∧(far c (o:Int)).2.1=c.2.1∧(far c (o:Int)).2.2.1≠5:=fun o ho=>by
  unfold far
  rw [if_pos ⟨by omega,by omega⟩]
  split
  ·exact ⟨mk 4 _ (by omega) (by omega) (by omega) (by omega) (fun h=>by cases h),rfl,rfl,by simp⟩
  ·exact ⟨mk 3 _ (by omega) (by omega) (by omega) (by omega) (fun _=>by omega),rfl,rfl,by simp⟩
 have ov:∀ s:Int,c.2.2.1=s→s≠5→s≠6→A2m c=false:=fun s e n5 n6=>by
  unfold A2m
  rw [e,A3 n5,A3 n6]
  rfl
 have stay:∀ (st o:Int) (s:Int),A1x c.2.2.1 st=s→s≠0→s≠5→1≤s→s≤4→(s=3→c.2.2.2<(c.2.1.length:Int))→ClG (hear c (st,o))∧(hear c (st,o)).1=c.1∧(hear c (st,o)).2.1=c.2.1∧(hear c (st,o)).2.2.1≠5:=fun st o s e n0 n5 g1 g2 g3=>by
  unfold hear
  simp only [e]
  rw [if_neg n0]
  exact ⟨mk s _ g1 (by omega) o0 o1 g3,rfl,rfl,n5⟩
 have goFar:∀ (st:Int) (o:Nat),A1x c.2.2.1 st=0→o≤c.2.1.length→ClG (hear c (st,(o:Int)))∧(hear c (st,(o:Int))).1=c.1∧(hear c (st,(o:Int))).2.1=c.2.1∧(hear c (st,(o:Int))).2.2.1≠5:=fun st o e ho=>by
  unfold hear
  simp only [e]
  exact far_ok o ho
 have fin:∀ {r:S3},(ClG (hear c r)∧(hear c r).1=c.1∧(hear c r).2.1=c.2.1∧(hear c r).2.2.1≠5)→A2m c=false→ClG (hear c r)∧(hear c r).1=c.1∧(hear c r).2.1=c.2.1∧((hear c r).2.2.1=5→c.2.2.1=4∧r.1=200)∧A2m c=false:=fun h ho=>⟨h.1,h.2.1,h.2.2.1,fun e=>absurd e h.2.2.2,ho⟩
 rcases hf with ⟨s,h | ⟨o,ho,h⟩ | h⟩ | ⟨s,h | ⟨o,ho,h⟩⟩ | ⟨s,⟨o,ho,h | h⟩ | h | h⟩ | ⟨s,h | h | ⟨o,ho,h⟩ | h⟩<;>subst h
 ·exact fin (goFar 201 0 (by rw [s];rfl) (Nat.zero_le _)) (ov _ s (by omega) (by omega))
 ·exact fin (stay 409 _ 2 (by rw [s];rfl) (by omega) (by omega) (by omega) (by omega) (fun h=>by cases h)) (ov _ s (by omega) (by omega))
 ·exact fin (stay 507 _ 1 (by rw [s];rfl) (by omega) (by omega) (by omega) (by omega) (fun h=>by cases h)) (ov _ s (by omega) (by omega))
 ·exact fin (stay 404 _ 1 (by rw [s];rfl) (by omega) (by omega) (by omega) (by omega) (fun h=>by cases h)) (ov _ s (by omega) (by omega))
 ·exact fin (goFar 200 o (by rw [s];rfl) ho) (ov _ s (by omega) (by omega))
 ·exact fin (goFar 204 o (by rw [s];rfl) ho) (ov _ s (by omega) (by omega))
 ·exact fin (goFar 409 o (by rw [s];rfl) ho) (ov _ s (by omega) (by omega))
 ·exact fin (stay 404 _ 1 (by rw [s];rfl) (by omega) (by omega) (by omega) (by omega) (fun h=>by cases h)) (ov _ s (by omega) (by omega))
 ·exact fin (stay 507 _ 3 (by rw [s];rfl) (by omega) (by omega) (by omega) (by omega) (fun _=>hc.off s)) (ov _ s (by omega) (by omega))
 ·refine ⟨?_,?_,?_,fun _=>⟨s,rfl⟩,ov _ s (by omega) (by omega)⟩
  ·have e:hear c (200,-1)=(c.1,c.2.1,5,c.2.2.2):=by unfold hear;rw [s];rfl
   rw [e]
   exact mk 5 _ (by omega) (by omega) o0 o1 (fun h=>by cases h)
  ·unfold hear;rw [s];rfl
  ·unfold hear;rw [s];rfl
 ·exact fin (stay 404 _ 1 (by rw [s];rfl) (by omega) (by omega) (by omega) (by omega) (fun h=>by cases h)) (ov _ s (by omega) (by omega))
 ·exact fin (stay 409 _ 2 (by rw [s];rfl) (by omega) (by omega) (by omega) (by omega) (fun h=>by cases h)) (ov _ s (by omega) (by omega))
 ·exact fin (stay 507 _ 4 (by rw [s];rfl) (by omega) (by omega) (by omega) (by omega) (fun h=>by cases h)) (ov _ s (by omega) (by omega))
theorem A8E{c:A8}(hc:ClG c):ClG (H2 c)∧(H2 c).1=c.1∧(H2 c).2.1=c.2.1∧((H2 c).2.2.1=5→c.2.2.1=5):=by
 obtain ⟨hid,hlen,h1,h5,o0,o1⟩:=A0N hc
 unfold H2
 split
 ·refine ⟨⟨?_,by show (2:Int)≠6;omega,hc.byt,fun h=>by cases h⟩,rfl,rfl,fun h=>by cases h⟩
  simp only [G3,Bool.and_eq_true,decide_eq_true_eq]
  refine ⟨⟨⟨hid,by omega⟩,by omega⟩,by omega⟩
 ·exact ⟨hc,rfl,rfl,fun h=>h⟩
abbrev B8i:K:=(.pair .str (.pair (.rs 5 (.int .u8)) E5))
abbrev C9K:K:=(.pair (.int .i64) (.pair U1 (.rs 5 (.int .u8))))
theorem A0O(k:K){xs:List k.T}{i:Nat}{x:k.T}(h:xs[i]? = some x):rd k xs (i:Int)=x:=by
 obtain ⟨hi,e⟩:=List.getElem?_eq_some_iff.1 h
 rw [C7 (k:=k) hi,e]
def cW(i:Nat)(l:List I2):Nat:=l.countP fun a=>decide (a.1=(i:Int))
def cH(i:Nat)(l:List B8):Nat:=l.countP fun a=>decide (a.1=(i:Int))
structure WI (k c:Nat) (uc:List TUp) (st:A7) (held:List B8) (cls:List A8) (busy:List Bool) (asks:List I2) (tells:List B8) (best:List Int):Prop where
 dur:Dur st c
 ep:st.2.1≤(k:Int)
 nd:∀ r∈B6 st.1.1,r.2.2.1≠4
 fuc:I0 [] ((B6 st.1.1).take c)=some uc
 n6:cls.length≤6
 lb:busy.length=cls.length
 lt:best.length=cls.length
 dist:∀ (i j:Nat) (a b:A8),cls[i]? = some a→cls[j]? = some b→a.1=b.1→i=j
 cl:∀ (i:Nat) (a:A8),cls[i]? = some a→ClG a
 cnt:∀ (i:Nat) b,busy[i]? = some b→cW i asks+cH i held+cH i tells=if b=true then 1 else 0
 dn:∀ (i:Nat) (a:A8),cls[i]? = some a→a.2.2.1=5→busy[i]? = some false
 ask:∀ a∈asks,∃ (i:Nat) (cl:A8),cls[i]? = some cl∧a.1=(i:Int)∧H9 cl=(a.2.1,a.2.2,true,())
 hld:∀ h∈held,∃ (i:Nat) (cl:A8),cls[i]? = some cl∧h.1=(i:Int)∧Fits cl h.2∧Told cl h.2 st.2.2.2
 tell:∀ h∈tells,∃ (i:Nat) (cl:A8),cls[i]? = some cl∧h.1=(i:Int)∧Fits cl h.2∧Told cl h.2 uc
 bst:∀ (i:Nat) (a:A8) (b:Int),cls[i]? = some a→best[i]? = some b→b=-1∨∃ u∈uc,u.1=a.1∧b≤(List.length u.2.2.1:Int)
 ends:∀ (i:Nat) (a:A8),cls[i]? = some a→a.2.2.1=5→∃ u∈uc,u.1=a.1∧u.2.2.2=true
 oku:∀ u∈st.2.2.2,∃ (i:Nat) (a:A8),cls[i]? = some a∧u.1=a.1∧OkU a.2.1 u
 la:asks.length≤60
 l6:tells.length≤60
 lh:held.length≤200
def WIw(k:Nat)(w:A5):Prop:=∃ c uc,WI k c uc w.1.1 w.1.2 w.2.1 w.2.2.1 w.2.2.2.1 w.2.2.2.2.1 w.2.2.2.2.2
theorem wiw{k c:Nat}{uc:List TUp}{st:A7}{held cls busy asks tells best}(h:WI k c uc st held cls busy asks tells best):WIw k (((st,held),(cls,(busy,(asks,(tells,best))))):A5):=⟨c,uc,h⟩
theorem D9H{k c:Nat}{uc:List TUp}{st:A7}{held cls busy asks tells best}(h:WI k c uc st held cls busy asks tells best):C0R uc st.2.2.2:=by
 have h1:=h.dur.g.up
 rw [← List.take_length (l:=B6 st.1.1)] at h1
 exact C0S h.dur.le h.fuc h1 h.nd
def rm{α:Type}(l:List α)(j:Nat):List α:=l.take j++l.drop (j+1)
theorem D9I{α:Type}{l:List α}{j:Nat}{a:α}(h:l[j]? = some a):l=l.take j++a::l.drop (j+1):=by
 obtain ⟨hj,e⟩:=List.getElem?_eq_some_iff.1 h
 rw [← e,← List.drop_eq_getElem_cons hj,List.take_append_drop]
theorem D1e{α:Type}(p:α→Bool){l:List α}{j:Nat}{a:α}(h:l[j]? = some a):l.countP p=(rm l j).countP p+(if p a=true then 1 else 0):=by
 conv=>lhs;rw [D9I h]
 unfold rm
 rw [List.countP_append,List.countP_append,List.countP_cons]
 omega
theorem C4k{α:Type}{l:List α}{j:Nat}{x:α}(h:x∈rm l j):x∈l:=(List.mem_append.1 h).elim List.mem_of_mem_take List.mem_of_mem_drop
theorem C9L{α:Type}{l:List α}{j:Nat}(h:j<l.length):(rm l j).length+1=l.length:=by
 simp only [rm,List.length_append,List.length_take,List.length_drop]
 omega
theorem B5h{α:Type}{l:List α}{i j:Nat}{v x:α}(h:(l.set i v)[j]? = some x):(j=i∧x=v)∨(j≠i∧l[j]? = some x):=by
 rw [List.getElem?_set] at h
 split at h
 ·rename_i e
  split at h
  ·injection h with h
   exact .inl ⟨e.symm,h.symm⟩
  ·cases h
 ·rename_i e
  exact .inr ⟨fun x=>e x.symm,h⟩
theorem B7d{α:Type}{p:α→Bool}{l:List α}(h:l.countP p=0){a:α}(ha:a∈l):¬ p a=true:=List.countP_eq_zero.1 h a ha
theorem B8j{k c:Nat}{uc:List TUp}{st:A7}{held cls busy asks tells best}(h:WI k c uc st held cls busy asks tells best):Rt st∧A8B st∧F7 st=some (true,()):=by
 obtain ⟨a,b,c,_⟩:=B8e h.dur.g
 exact ⟨a,b,c⟩
theorem A9K{a:A8}(h:ClG a):a.1.size≤maxLen:=by
 obtain ⟨h1,_⟩:=A0N h
 have:a.1.size≤8:=by simp only [idB,Bool.and_eq_true,decide_eq_true_eq] at h1;omega
 simp only [maxLen];omega
theorem E0z(k:Nat)(w:A5)(h:WIw k w)(i:Int)(hi:i<9223372036854775807):∃ b w',Z3 w i=some (b,w',())∧WIw k w':=by
 obtain ⟨⟨st,held⟩,cls,busy,asks,tells,best⟩:=w
 obtain ⟨c,uc,h⟩:=h
 simp only at h
 have hn:=h.n6
 have hlb:=h.lb
 have same:WIw k (((st,held),(cls,(busy,(asks,(tells,best))))):A5):=⟨c,uc,h⟩
 simp only [Z3,A5y,N2,bO]
 rw [w64 (n:=(cls.length:Int)-1) (by omega) (by omega)]
 by_cases hr:0≤i∧i≤(cls.length:Int)-1
 ·obtain ⟨i,rfl⟩:∃ j:Nat,i=(j:Int):=⟨i.toNat,by omega⟩
  have hic:i<cls.length:=by omega
  obtain ⟨cl,hcl⟩:∃ x,cls[i]? = some x:=⟨_,List.getElem?_eq_getElem hic⟩
  obtain ⟨b,hb⟩:∃ x,busy[i]? = some x:=⟨_,List.getElem?_eq_getElem (by omega)⟩
  have hg:=h.cl i cl hcl
  rw [A0 hr,A0 (show (0:Int)≤(i:Int) by omega),A0 (show (i:Int)<(busy.length:Int) by omega),A0 (show (i:Int)<(cls.length:Int) by omega),A0O .bool hb,A0O B8i hcl,B8O cl (A9K hg) hg.byt]
  simp only [Bool.not_true,cond_false,cond_true]
  cases b with
  | true=>exact ⟨false,_,rfl,same⟩
  | false=>
   simp only [cond_false]
   by_cases h60:(asks.length:Int)=60
   ·rw [A0 h60];exact ⟨false,_,rfl,same⟩
   ·rw [A3 h60]
    have hla:=h.la
    simp only [cond_false,B7,bO]
    generalize hq:H9 cl=q
    obtain ⟨r,dat,ok,u⟩:=q
    cases ok with
    | false=>exact ⟨false,_,rfl,same⟩
    | true=>
     simp only [Bool.not_true,cond_false]
     rw [A0 (by simp;omega),A0 (by simp;omega)]
     refine ⟨true,_,rfl,wiw (c:=c) (uc:=uc) ?_⟩
     have hpend:=h.cnt i false hb
     simp only [Bool.false_eq_true,if_false] at hpend
     have hcount:∀ j:Nat,cW j (asks ++ [((i:Int),(r,dat))])=cW j asks+if j=i then 1 else 0:=fun j=>by
      unfold cW
      rw [List.countP_append,List.countP_singleton]
      by_cases hji:j=i
      ·subst hji;simp
      ·rw [if_neg hji];simp;omega
     have hs5:cl.2.2.1≠5:=fun e=>by
      unfold H9 at hq
      rw [hg.ok,e] at hq
      simp [C1U] at hq
     refine {h with lb:=?_,cnt:=?_,dn:=?_,ask:=?_,la:=?_}
     ·simp only [List.length_set];exact h.lb
     ·intro j b' hb'
      rw [hcount j]
      rw [Int.toNat_natCast] at hb'
      rcases B5h hb' with ⟨rfl,rfl⟩ | ⟨hne,hb'⟩
      ·rw [if_pos rfl,if_pos rfl];omega
      ·have:=h.cnt j b' hb'
       rw [if_neg hne];omega
     ·intro j a ha h5
      rw [Int.toNat_natCast,List.getElem?_set_ne (fun e=>?_)]
      ·exact h.dn j a ha h5
      ·subst e
       rw [hcl] at ha
       injection ha with ha
       rw [ha] at hs5
       exact hs5 h5
     ·intro a ha
      rcases List.mem_append.1 ha with ha | ha
      ·exact h.ask a ha
      ·rw [List.mem_singleton.1 ha]
       exact ⟨i,cl,hcl,rfl,hq⟩
     ·simp only [List.length_append,List.length_cons,List.length_nil];omega
 ·rw [A3 hr]
  exact ⟨false,_,rfl,same⟩
theorem D9J(k:Nat)(w:A5)(h:WIw k w)(j:Int)(hj:j<9223372036854775807):∃ b w',W4 w j=some (b,w',())∧WIw k w':=by
 obtain ⟨⟨st,held⟩,cls,busy,asks,tells,best⟩:=w
 obtain ⟨c,uc,h⟩:=h
 simp only at h
 have hn:=h.n6
 have hla:=h.la
 have hlh:=h.lh
 have same:WIw k (((st,held),(cls,(busy,(asks,(tells,best))))):A5):=⟨c,uc,h⟩
 simp only [W4,A4V,N2,bO]
 rw [w64 (n:=(asks.length:Int)-1) (by omega) (by omega)]
 by_cases hr:0≤j∧j≤(asks.length:Int)-1
 ·obtain ⟨j,rfl⟩:∃ q:Nat,j=(q:Int):=⟨j.toNat,by omega⟩
  have hjl:j<asks.length:=by omega
  rw [A0 hr]
  simp only [Bool.not_true,cond_false]
  by_cases h200:(held.length:Int)=200
  ·rw [A0 h200];exact ⟨false,_,rfl,same⟩
  rw [A3 h200]
  obtain ⟨a,ha⟩:∃ x,asks[j]? = some x:=⟨_,List.getElem?_eq_getElem hjl⟩
  obtain ⟨i,cl,hcl,hai,hq⟩:=h.ask a (List.mem_of_getElem? ha)
  have hg:=h.cl i cl hcl
  obtain ⟨hR,hS,hok⟩:=B8j h
  have huc:=D9H h
  simp only [cond_false,B7]
  rw [A0O C9K ha,w64 (n:=(j:Int)+1) (by omega) (by omega),A0 (show (0:Int)≤(j:Int) by omega),A0 (show (j:Int)<(asks.length:Int) by omega),A0 (show (j:Int)≤(asks.length:Int) by omega),
   A0 (show (0:Int)≤(j:Int)+1 by omega),A0 (show (j:Int)+1≤(asks.length:Int) by omega),A0 (by simp;omega),A0 (by simp;omega),A0 (by simp;omega),A0 (by simp;omega)]
  simp only [cond_true]
  have hdat:Byt a.2.2∧List.length a.2.2≤1048576:=by
   obtain ⟨_,h400,_⟩:=A0N hg
   have hl:=B4E cl
   rw [hq] at hl
   refine ⟨?_,by have:List.length a.2.2≤cl.2.1.length:=hl;omega⟩
   have hbb:Byt (H9 cl).2.1:=by
    unfold H9 C1U
    repeat' split
    all_goals first | exact A08 | exact A6T (A2n hg.byt _) _
   rw [hq] at hbb
   exact hbb
  have hreq:a.2.1.2.1.size≤maxLen∧(-9223372036854775808≤a.2.1.2.2∧a.2.1.2.2≤9223372036854775807):=by
   obtain ⟨_,h400,_,_,o0,o1⟩:=A0N hg
   have hcs:=A9K hg
   have hcrc:=A9C hg.byt
   have hx:A6R cl.2.1 ^^^ 4294967295<2 ^ 32:=Nat.xor_lt_two_pow hcrc (by omega)
   have e:(H9 cl).1.2.1.size≤maxLen∧(-9223372036854775808≤(H9 cl).1.2.2∧(H9 cl).1.2.2≤9223372036854775807):=by
    unfold H9 C1U
    repeat' split
    all_goals first | exact ⟨hcs,by simp only;omega⟩ | exact ⟨Nat.zero_le _,by simp only;omega⟩
   rw [hq] at e
   exact e
  have hdo:=C8I st a.2.1 a.2.2 hreq.1 hR hS hok hdat.1 hdat.2 hreq.2
  have hdo':T3 ((st.1.1,st.1.2),(st.2.1,(st.2.2.1,st.2.2.2))) a.2.1 a.2.2=_:=hdo
  rw [hdo]
  simp only [bO]
  rw [A0 (by simp;omega),A0 (by simp;omega)]
  have hser:=D7J hg hR (fun u hu e=>by
   obtain ⟨i',a',h1,h2,h3⟩:=h.oku u hu
   have:=h.dist i' i a' cl h1 hcl (by rw [← h2,e])
   subst this
   rw [hcl] at h1;injection h1 with h1;rw [h1];exact h3) hq
  generalize B01 st a.2.1 a.2.2=ans at hser ⊢
  obtain ⟨st',resp⟩:=ans
  obtain ⟨hsv,hfit,htold⟩:=hser
  simp only at hsv hfit htold
  refine ⟨true,_,rfl,wiw (c:=c) (uc:=uc) ?_⟩
  have hst:Dur st' c∧st'.2.1=st.2.1∧(∀ r∈B6 st'.1.1,r.2.2.1≠4)∧(B6 st'.1.1).take c=(B6 st.1.1).take c∧C0R st.2.2.2 st'.2.2.2∧∀ u∈st'.2.2.2,u∈st.2.2.2∨(u.1=cl.1∧OkU cl.2.1 u):=by
   rcases hsv with rfl | ⟨r,us,g1,g2,g3,g4,g5,g6,rfl,g7⟩
   ·exact ⟨h.dur,rfl,h.nd,rfl,C8J _,fun u hu=>.inl hu⟩
   ·have hsc:=(B7Z h.dur.g g1 g2 g3 g4 g5).2
    refine ⟨D7F h.dur g1 g2 g3 g4 g5,rfl,fun x hx=>?_,?_,C4i g5 g6,g7⟩
    ·rw [hsc] at hx
     rcases List.mem_append.1 hx with hx | hx
     ·exact h.nd x hx
     ·rw [List.mem_singleton.1 hx];exact g6
    ·rw [hsc,List.take_append_of_le_length h.dur.le]
  obtain ⟨k1,k2,k3,k4,k5,k6⟩:=hst
  have hrm:([]++(asks.take (j:Int).toNat).drop 0)++(asks.take asks.length).drop ((j:Int)+1).toNat=rm asks j:=by
   unfold rm
   rw [Int.toNat_natCast,show ((j:Int)+1).toNat=j+1 by omega,List.drop_zero,List.take_length]
   rfl
  simp only [hrm]
  have hcn:∀ i':Nat,cW i' asks=cW i' (rm asks j)+if (i':Int)=a.1 then 1 else 0:=fun i'=>by
   have:=D1e (fun x:I2=>decide (x.1=(i':Int))) ha
   unfold cW
   rw [this]
   by_cases e:(i':Int)=a.1
   ·rw [if_pos e,if_pos (by simp [e])]
   ·rw [if_neg e,if_neg (by simp;omega)]
  have hch:∀ i':Nat,cH i' (held ++ [(a.1,resp)])=cH i' held+if (i':Int)=a.1 then 1 else 0:=fun i'=>by
   unfold cH
   rw [List.countP_append,List.countP_singleton]
   by_cases e:(i':Int)=a.1
   ·rw [if_pos e,if_pos (by simp [e])]
   ·rw [if_neg e,if_neg (by simp;omega)]
  refine {h with dur:=k1,ep:=by rw [k2];exact h.ep,nd:=k3,fuc:=by rw [k4];exact h.fuc,cnt:=?_,ask:=?_,hld:=?_,oku:=?_,la:=?_,lh:=?_}
  ·intro i' b hb
   have:=h.cnt i' b hb
   have h1:=hcn i'
   have h2:=hch i'
   omega
  ·exact fun x hx=>h.ask x (C4k hx)
  ·intro x hx
   rcases List.mem_append.1 hx with hx | hx
   ·obtain ⟨i',a',h1,h2,h3,h4⟩:=h.hld x hx
    exact ⟨i',a',h1,h2,h3,C8K h4 k5⟩
   ·rw [List.mem_singleton.1 hx]
    exact ⟨i,cl,hcl,hai,hfit,htold⟩
  ·intro u hu
   rcases k6 u hu with hu | ⟨e,hu⟩
   ·exact h.oku u hu
   ·exact ⟨i,cl,hcl,e,hu⟩
  ·have:=C9L hjl;omega
  ·simp only [List.length_append,List.length_cons,List.length_nil];omega
 ·rw [A3 hr]
  exact ⟨false,_,rfl,same⟩
theorem E10(k:Nat)(w:A5)(h:WIw k w):∃ b w',A1m w=some (b,w',())∧WIw k w':=by
 obtain ⟨⟨st,held⟩,cls,busy,asks,tells,best⟩:=w
 obtain ⟨c,uc,h⟩:=h
 simp only at h
 have hl6:=h.l6
 have hlh:=h.lh
 have same:WIw k (((st,held),(cls,(busy,(asks,(tells,best))))):A5):=⟨c,uc,h⟩
 obtain ⟨hR,hS,hok⟩:=B8j h
 have huc:=D9H h
 simp only [A1m,A8y]
 rw [w64 (n:=(tells.length:Int)+(held.length:Int)) (by omega) (by omega)]
 by_cases h60:(tells.length:Int)+(held.length:Int)>60
 ·rw [A0 h60];exact ⟨false,_,rfl,same⟩
 ·rw [A3 h60,A0 (by omega),A0 (by omega),C4X st.1 hS.1]
  simp only [cond_false,cond_true,bO]
  refine ⟨true,_,rfl,wiw (c:=(B6 st.1.1).length) (uc:=st.2.2.2) ?_⟩
  have hup:=h.dur.g.up
  have hd:=B7a h.dur.g
  refine {h with dur:=hd,fuc:=by show I0 [] ((B6 st.1.1).take (B6 st.1.1).length)=_;rw [List.take_length];exact hup,cnt:=?_,hld:=fun x hx=>by (cases hx),tell:=?_,bst:=?_,ends:=?_,l6:=?_,lh:=by simp}
  ·intro i b hb
   have:=h.cnt i b hb
   have e:cH i (tells++held)=cH i tells+cH i held:=List.countP_append
   rw [e]
   have e0:cH i ([]:List B8)=0:=rfl
   rw [e0]
   omega
  ·intro x hx
   rcases List.mem_append.1 hx with hx | hx
   ·obtain ⟨i,a,h1,h2,h3,h4⟩:=h.tell x hx
    exact ⟨i,a,h1,h2,h3,C8K h4 huc⟩
   ·exact h.hld x hx
  ·intro i a b ha hb
   rcases h.bst i a b ha hb with h1 | ⟨u,hu,e,hle⟩
   ·exact .inl h1
   ·obtain ⟨v,hv,hlu⟩:=huc u hu
    have:=hlu.len
    exact .inr ⟨v,hv,hlu.id.symm.trans e,by omega⟩
  ·intro i a ha h5
   obtain ⟨u,hu,e,hd⟩:=h.ends i a ha h5
   obtain ⟨v,hv,hlu⟩:=huc u hu
   exact ⟨v,hv,hlu.id.symm.trans e,(hlu.fin hd).1⟩
  ·simp only [List.length_append];omega
theorem E11(k:Nat)(w:A5)(h:WIw k w)(j:Int)(hj:j<9223372036854775807):∃ b w',Z6 w j=some (b,w',())∧WIw k w':=by
 obtain ⟨⟨st,held⟩,cls,busy,asks,tells,best⟩:=w
 obtain ⟨c,uc,h⟩:=h
 simp only at h
 have hn:=h.n6
 have hl6:=h.l6
 have hlb:=h.lb
 have hlt:=h.lt
 have same:WIw k (((st,held),(cls,(busy,(asks,(tells,best))))):A5):=⟨c,uc,h⟩
 simp only [Z6,A61,N2,bO]
 rw [w64 (n:=(tells.length:Int)-1) (by omega) (by omega)]
 by_cases hr:0≤j∧j≤(tells.length:Int)-1
 ·obtain ⟨j,rfl⟩:∃ q:Nat,j=(q:Int):=⟨j.toNat,by omega⟩
  have hjl:j<tells.length:=by omega
  obtain ⟨a,ha⟩:∃ x,tells[j]? = some x:=⟨_,List.getElem?_eq_getElem hjl⟩
  obtain ⟨i,cl,hcl,hai,hfit,htold⟩:=h.tell a (List.mem_of_getElem? ha)
  have hg:=h.cl i cl hcl
  have hic:i<cls.length:=(List.getElem?_eq_some_iff.1 hcl).1
  obtain ⟨b,hb⟩:∃ x,busy[i]? = some x:=⟨_,List.getElem?_eq_getElem (show i<busy.length by omega)⟩
  obtain ⟨bt0,hbt⟩:∃ x,best[i]? = some x:=⟨_,List.getElem?_eq_getElem (show i<best.length by omega)⟩
  have hct:∀ i':Nat,cH i' tells=cH i' (rm tells j)+if (i':Int)=a.1 then 1 else 0:=fun i'=>by
   have:=D1e (fun x:B8=>decide (x.1=(i':Int))) ha
   unfold cH
   rw [this]
   by_cases e:(i':Int)=a.1
   ·rw [if_pos e,if_pos (by simp [e])]
   ·rw [if_neg e,if_neg (by simp;omega)]
  have hpend:=h.cnt i b hb
  have hcti:=hct i
  rw [if_pos hai.symm] at hcti
  have hbt':b=true:=by
   cases b with
   | true=>rfl
   | false=>simp only [Bool.false_eq_true,if_false] at hpend;omega
  subst hbt'
  simp only [if_true] at hpend
  have hz:cW i asks=0∧cH i held=0∧cH i (rm tells j)=0:=by omega
  obtain ⟨hearG,he1,he2,he5,hov⟩:=D7K hg hfit
  have hrm:([]++(tells.take j).drop 0)++(tells.take tells.length).drop ((j:Int)+1).toNat=rm tells j:=by
   unfold rm
   rw [show ((j:Int)+1).toNat=j+1 by omega,List.drop_zero,List.take_length]
   rfl
  obtain ⟨who,resp⟩:=a
  simp only at hai hfit htold hearG he1 he2 he5 hov ha hct
  subst hai
  rw [A0 hr,A0O A9 ha]
  simp only [Bool.not_true,cond_false]
  rw [w64 (n:=(j:Int)+1) (by omega) (by omega),A0 (show (0:Int)≤(j:Int) by omega),A0 (show (j:Int)<(tells.length:Int) by omega),A0 (show (j:Int)≤(tells.length:Int) by omega),
   A0 (show (0:Int)≤(j:Int)+1 by omega),A0 (show (j:Int)+1≤(tells.length:Int) by omega),A0 (by simp;omega),A0 (by simp;omega),A0 (by simp;omega),A0 (by simp;omega),
   A0 (show (0:Int)≤(i:Int) by omega),A0 (show (i:Int)<(busy.length:Int) by omega),A0 (show (i:Int)<(cls.length:Int) by omega),A0O .bool hb,A0O B8i hcl,B7U,C4N,hov]
  simp only [cond_true,Bool.not_false,bO,Int.toNat_natCast]
  rw [hrm]
  rw [A0 (show (i:Int)<(best.length:Int) by omega),A0O (.int .i64) hbt]
  have main:∀ best',best'.length=cls.length→(∀ (i':Nat) (b':Int),best'[i']? = some b'→(i'≠i∧best[i']? = some b')∨(i' = i∧(b' = bt0∨b' = resp.2)))→
    WIw k (((st,held),(cls.set i (hear cl resp),(busy.set i false,(asks,(rm tells j,best'))))):A5):=fun best' hbl hbb=>by
   refine wiw (c:=c) (uc:=uc) ?_
   have hsetn:∀ (i':Nat) (x:A8),(cls.set i (hear cl resp))[i']? = some x→(i' = i∧x=hear cl resp)∨(i'≠i∧cls[i']? = some x):=fun i' x hx=>B5h hx
   have hget:∀ (i':Nat) (x:A8),i'≠i→cls[i']? = some x→(cls.set i (hear cl resp))[i']? = some x:=fun i' x hne hx=>by rw [List.getElem?_set_ne (fun e=>hne e.symm)];exact hx
   have hgeti:(cls.set i (hear cl resp))[i]? = some (hear cl resp):=by rw [List.getElem?_set_self hic]
   refine {h with n6:=by simp only [List.length_set];exact h.n6,lb:=by simp only [List.length_set];exact h.lb,lt:=by simp only [List.length_set];exact hbl,dist:=?_,cl:=?_,cnt:=?_,dn:=?_,ask:=?_,hld:=?_,tell:=?_,bst:=?_,ends:=?_,oku:=?_,l6:=?_}
   ·intro p q x y hx hy e
    rcases hsetn p x hx with ⟨e1,rfl⟩ | ⟨n1,hx1⟩<;>rcases hsetn q y hy with ⟨e2,rfl⟩ | ⟨n2,hy1⟩
    ·exact e1.trans e2.symm
    ·exact e1.trans (h.dist _ _ cl y hcl hy1 (by rw [← he1];exact e))
    ·exact (h.dist _ _ x cl hx1 hcl (by rw [← he1];exact e)).trans e2.symm
    ·exact h.dist _ _ x y hx1 hy1 e
   ·intro p x hx
    rcases hsetn p x hx with ⟨_,rfl⟩ | ⟨_,hx⟩
    ·exact hearG
    ·exact h.cl p x hx
   ·intro p b' hb'
    rcases B5h hb' with ⟨rfl,rfl⟩ | ⟨hne,hb'⟩
    ·simp only [Bool.false_eq_true,if_false];omega
    ·have h1:=h.cnt p b' hb'
     have h2:=hct p
     rw [if_neg (by omega)] at h2
     omega
   ·intro p x hx h5
    rcases hsetn p x hx with ⟨rfl,rfl⟩ | ⟨hne,hx⟩
    ·rw [List.getElem?_set_self (show p<busy.length by omega)]
    ·rw [List.getElem?_set_ne (fun e=>hne e.symm)]
     exact h.dn p x hx h5
   ·intro x hx
    obtain ⟨i',a',h1,h2,h3⟩:=h.ask x hx
    have hne:i'≠i:=fun e=>by
     subst e
     exact B7d hz.1 hx (decide_eq_true h2)
    exact ⟨i',a',hget i' a' hne h1,h2,h3⟩
   ·intro x hx
    obtain ⟨i',a',h1,h2,h3⟩:=h.hld x hx
    have hne:i'≠i:=fun e=>by
     subst e
     exact B7d hz.2.1 hx (decide_eq_true h2)
    exact ⟨i',a',hget i' a' hne h1,h2,h3⟩
   ·intro x hx
    obtain ⟨i',a',h1,h2,h3⟩:=h.tell x (C4k hx)
    have hne:i'≠i:=fun e=>by
     subst e
     exact B7d hz.2.2 hx (decide_eq_true h2)
    exact ⟨i',a',hget i' a' hne h1,h2,h3⟩
   ·intro p x b' hx hb'
    rcases hsetn p x hx with ⟨rfl,rfl⟩ | ⟨hne,hx⟩
    ·rw [he1]
     rcases hbb p b' hb' with ⟨hne,_⟩ | ⟨_,rfl | rfl⟩
     ·exact absurd rfl hne
     ·exact h.bst p cl _ hcl hbt
     ·exact htold.1
    ·rcases hbb p b' hb' with ⟨_,hb'⟩ | ⟨e,_⟩
     ·exact h.bst p x b' hx hb'
     ·exact absurd e hne
   ·intro p x hx h5
    rcases hsetn p x hx with ⟨rfl,rfl⟩ | ⟨hne,hx⟩
    ·obtain ⟨g1,g2⟩:=he5 h5
     rw [he1]
     exact htold.2 g1 g2
    ·exact h.ends p x hx h5
   ·intro u hu
    obtain ⟨i',a',h1,h2,h3⟩:=h.oku u hu
    by_cases e:i' = i
    ·subst e
     rw [hcl] at h1;injection h1 with h1;subst h1
     exact ⟨i',_,hgeti,by rw [he1];exact h2,by rw [he2];exact h3⟩
    ·exact ⟨i',a',hget i' a' e h1,h2,h3⟩
   ·have:=C9L hjl;omega
  by_cases hgt:resp.2>bt0
  ·rw [A0 hgt]
   simp only [cond_true]
   refine ⟨true,_,rfl,main (best.set i resp.2) (by rw [List.length_set];exact hlt) fun i' b' hb'=>?_⟩
   rcases B5h hb' with ⟨e,rfl⟩ | ⟨hne,hb'⟩
   ·exact .inr ⟨e,.inr rfl⟩
   ·exact .inl ⟨hne,hb'⟩
  ·rw [A3 hgt]
   simp only [cond_true,cond_false]
   refine ⟨true,_,rfl,main best hlt fun i' b' hb'=>?_⟩
   by_cases e:i' = i
   ·subst e
    rw [hbt] at hb';injection hb' with hb'
    exact .inr ⟨rfl,.inl hb'.symm⟩
   ·exact .inl ⟨e,hb'⟩
 ·rw [A3 hr]
  exact ⟨false,_,rfl,same⟩
theorem B5i(l:List B8)(i:Int)(hl:l.length≤1048576):A2d l i=some (l.filter (fun x=>!decide (x.1=i)),()):=by
 simp only [A2d,A9r]
 refine D4 (A3M l i) (fun j=>((j:Int),(l.take j).filter (fun x=>!decide (x.1=i)),())) l.length (l.filter (fun x=>!decide (x.1=i)),()) (fun j hj=>?_) ?_
 ·have h1:((j:Int)<(l.length:Int)):=by omega
  have h2:(0:Int)≤(j:Int):=by omega
  have hlen:=List.length_filter_le (fun x:B8=>!decide (x.1=i)) (l.take j)
  rw [List.length_take] at hlen
  simp only [A3M,A0 h1,A0 h2,cond_true]
  rw [A0O A9 (List.getElem?_eq_getElem hj),w64 (by omega) (by omega),List.take_succ_eq_append_getElem hj,List.filter_append]
  by_cases e:l[j].1=i
  ·rw [A0 e]
   simp only [Bool.not_true,cond_false]
   have:([l[j]].filter fun x=>!decide (x.1=i)) = []:=by simp [e]
   rw [this,List.append_nil]
   rfl
  ·rw [A3 e]
   simp only [Bool.not_false,cond_true]
   rw [A0 (by simp;omega),A0 (by simp;omega)]
   have:([l[j]].filter fun x=>!decide (x.1=i)) = [l[j]]:=by simp [e]
   rw [this]
   rfl
 ·simp only [A3M,List.take_length]
  rw [A3 (by omega)]
  rfl
theorem C4l(w:A5)(i:Int)(hl:w.2.2.2.1.length≤1048576):B9 (A1p w i) (0,[],())=some (w.2.2.2.1.filter (fun x=>!decide (x.1=i)),()):=by
 refine D4 (A1p w i) (fun j=>((j:Int),(w.2.2.2.1.take j).filter (fun x=>!decide (x.1=i)),())) w.2.2.2.1.length (w.2.2.2.1.filter (fun x=>!decide (x.1=i)),()) (fun j hj=>?_) ?_
 ·have h1:((j:Int)<(w.2.2.2.1.length:Int)):=by omega
  have h2:(0:Int)≤(j:Int):=by omega
  have hlen:=List.length_filter_le (fun x:I2=>!decide (x.1=i)) (w.2.2.2.1.take j)
  rw [List.length_take] at hlen
  simp only [A1p,A0 h1,A0 h2,cond_true]
  rw [A0O C9K (List.getElem?_eq_getElem hj),w64 (by omega) (by omega),List.take_succ_eq_append_getElem hj,List.filter_append]
  by_cases e:w.2.2.2.1[j].1=i
  ·rw [A0 e]
   simp only [Bool.not_true,cond_false]
   have:([w.2.2.2.1[j]].filter fun x=>!decide (x.1=i)) = []:=by simp [e]
   rw [this,List.append_nil]
   rfl
  ·rw [A3 e]
   simp only [Bool.not_false,cond_true]
   rw [A0 (by simp;omega),A0 (by simp;omega)]
   have:([w.2.2.2.1[j]].filter fun x=>!decide (x.1=i)) = [w.2.2.2.1[j]]:=by simp [e]
   rw [this]
   rfl
 ·simp only [A1p,List.take_length]
  rw [A3 (by omega)]
  rfl
theorem A6r{α:Type}{f:α→Int}{i j:Int}(hne:j≠i)(l:List α):(l.filter fun x=>!decide (f x=i)).countP (fun x=>decide (f x=j))=l.countP (fun x=>decide (f x=j)):=by
 rw [List.countP_filter]
 refine List.countP_congr fun x _=>?_
 simp only [Bool.and_eq_true,decide_eq_true_eq,Bool.not_eq_true',decide_eq_false_iff_not]
 omega
theorem A6s{α:Type}{f:α→Int}{i:Int}(l:List α):(l.filter fun x=>!decide (f x=i)).countP (fun x=>decide (f x=i))=0:=by
 rw [List.countP_eq_zero]
 intro x hx
 have:=(List.mem_filter.1 hx).2
 simpa using this
theorem E26(k:Nat)(w:A5)(h:WIw k w)(i:Int)(hi:i<9223372036854775807):∃ b w',A0k w i=some (b,w',())∧WIw k w':=by
 obtain ⟨⟨st,held⟩,cls,busy,asks,tells,best⟩:=w
 obtain ⟨c,uc,h⟩:=h
 simp only at h
 have hn:=h.n6
 have hl6:=h.l6
 have hla:=h.la
 have hlh:=h.lh
 have hlb:=h.lb
 have hlt:=h.lt
 have same:WIw k (((st,held),(cls,(busy,(asks,(tells,best))))):A5):=⟨c,uc,h⟩
 simp only [A0k,A7L,N2,bO]
 rw [w64 (n:=(cls.length:Int)-1) (by omega) (by omega)]
 by_cases hr:0≤i∧i≤(cls.length:Int)-1
 ·obtain ⟨i,rfl⟩:∃ q:Nat,i=(q:Int):=⟨i.toNat,by omega⟩
  have hic:i<cls.length:=by omega
  obtain ⟨cl,hcl⟩:∃ x,cls[i]? = some x:=⟨_,List.getElem?_eq_getElem hic⟩
  have hg:=h.cl i cl hcl
  obtain ⟨_,h400,_⟩:=A0N hg
  obtain ⟨cutG,he1,he2,he5⟩:=A8E hg
  rw [A0 hr,C4l (((st,held),(cls,(busy,(asks,(tells,best))))):A5) (i:Int) (by show asks.length≤_;omega),B5i tells _ (by omega),B5i held _ (by omega),A0 (show (0:Int)≤(i:Int) by omega),A0 (show (i:Int)<(cls.length:Int) by omega),A0 (show (i:Int)<(busy.length:Int) by omega),A0O B8i hcl,A9J cl (A9K hg) (by omega)]
  simp only [Bool.not_true,cond_false,cond_true,bO,Int.toNat_natCast]
  refine ⟨true,_,rfl,wiw (c:=c) (uc:=uc) ?_⟩
  have hsetn:∀ (i':Nat) (x:A8),(cls.set i (H2 cl))[i']? = some x→(i' = i∧x=H2 cl)∨(i'≠i∧cls[i']? = some x):=fun i' x hx=>B5h hx
  have hget:∀ (i':Nat) (x:A8),i'≠i→cls[i']? = some x→(cls.set i (H2 cl))[i']? = some x:=fun i' x hne hx=>by rw [List.getElem?_set_ne (fun e=>hne e.symm)];exact hx
  have hgeti:(cls.set i (H2 cl))[i]? = some (H2 cl):=by rw [List.getElem?_set_self hic]
  have hni:∀ {x:Int} {i':Nat},(!decide (x=(i:Int)))=true→x=(i':Int)→i'≠i:=fun hx e hh=>by
   subst hh;rw [e] at hx;simp at hx
  refine {h with n6:=by simp only [List.length_set];exact h.n6,lb:=by simp only [List.length_set];exact h.lb,lt:=by simp only [List.length_set];exact h.lt,dist:=?_,cl:=?_,cnt:=?_,dn:=?_,ask:=?_,hld:=?_,tell:=?_,bst:=?_,ends:=?_,oku:=?_,la:=Nat.le_trans (List.length_filter_le _ _) hla,l6:=Nat.le_trans (List.length_filter_le _ _) hl6,lh:=Nat.le_trans (List.length_filter_le _ _) hlh}
  ·intro p q x y hx hy e
   rcases hsetn p x hx with ⟨e1,rfl⟩ | ⟨n1,hx1⟩<;>rcases hsetn q y hy with ⟨e2,rfl⟩ | ⟨n2,hy1⟩
   ·exact e1.trans e2.symm
   ·exact e1.trans (h.dist _ _ cl y hcl hy1 (by rw [← he1];exact e))
   ·exact (h.dist _ _ x cl hx1 hcl (by rw [← he1];exact e)).trans e2.symm
   ·exact h.dist _ _ x y hx1 hy1 e
  ·intro p x hx
   rcases hsetn p x hx with ⟨_,rfl⟩ | ⟨_,hx⟩
   ·exact cutG
   ·exact h.cl p x hx
  ·intro p b' hb'
   rcases B5h hb' with ⟨rfl,rfl⟩ | ⟨hne,hb'⟩
   ·simp only [Bool.false_eq_true,if_false]
    have e1:cW p (asks.filter fun x=>!decide (x.1=(p:Int)))=0:=A6s (f:=fun x:I2=>x.1) asks
    have e2:cH p (held.filter fun x=>!decide (x.1=(p:Int)))=0:=A6s (f:=fun x:B8=>x.1) held
    have e3:cH p (tells.filter fun x=>!decide (x.1=(p:Int)))=0:=A6s (f:=fun x:B8=>x.1) tells
    rw [e1,e2,e3]
   ·have h1:=h.cnt p b' hb'
    have hne':(p:Int)≠(i:Int):=by omega
    have e1:cW p (asks.filter fun x=>!decide (x.1=(i:Int)))=cW p asks:=A6r (f:=fun x:I2=>x.1) hne' asks
    have e2:cH p (held.filter fun x=>!decide (x.1=(i:Int)))=cH p held:=A6r (f:=fun x:B8=>x.1) hne' held
    have e3:cH p (tells.filter fun x=>!decide (x.1=(i:Int)))=cH p tells:=A6r (f:=fun x:B8=>x.1) hne' tells
    rw [e1,e2,e3]
    exact h1
  ·intro p x hx h5
   rcases hsetn p x hx with ⟨rfl,rfl⟩ | ⟨hne,hx⟩
   ·rw [List.getElem?_set_self (show p<busy.length by omega)]
   ·rw [List.getElem?_set_ne (fun e=>hne e.symm)]
    exact h.dn p x hx h5
  ·intro x hx
   obtain ⟨hx,hxi⟩:=List.mem_filter.1 hx
   obtain ⟨i',a',h1,h2,h3⟩:=h.ask x hx
   exact ⟨i',a',hget i' a' (hni hxi h2) h1,h2,h3⟩
  ·intro x hx
   obtain ⟨hx,hxi⟩:=List.mem_filter.1 hx
   obtain ⟨i',a',h1,h2,h3⟩:=h.hld x hx
   exact ⟨i',a',hget i' a' (hni hxi h2) h1,h2,h3⟩
  ·intro x hx
   obtain ⟨hx,hxi⟩:=List.mem_filter.1 hx
   obtain ⟨i',a',h1,h2,h3⟩:=h.tell x hx
   exact ⟨i',a',hget i' a' (hni hxi h2) h1,h2,h3⟩
  ·intro p x b' hx hb'
   rcases hsetn p x hx with ⟨rfl,rfl⟩ | ⟨hne,hx⟩
   ·rw [he1];exact h.bst p cl b' hcl hb'
   ·exact h.bst p x b' hx hb'
  ·intro p x hx h5
   rcases hsetn p x hx with ⟨rfl,rfl⟩ | ⟨hne,hx⟩
   ·rw [he1];exact h.ends p cl hcl (he5 h5)
   ·exact h.ends p x hx h5
  ·intro u hu
   obtain ⟨i',a',h1,h2,h3⟩:=h.oku u hu
   by_cases e:i' = i
   ·subst e
    rw [hcl] at h1;injection h1 with h1;subst h1
    exact ⟨i',_,hgeti,by rw [he1];exact h2,by rw [he2];exact h3⟩
   ·exact ⟨i',a',hget i' a' e h1,h2,h3⟩
 ·rw [A3 hr]
  exact ⟨false,_,rfl,same⟩
theorem D9K(k:Nat)(hk:k≤9999)(w:A5)(h:WIw k w)(ke:List Bool):∃ b w',W5 w ke=some (b,w',())∧WIw (k+1) w':=by
 obtain ⟨⟨st,held⟩,cls,busy,asks,tells,best⟩:=w
 obtain ⟨c,uc,h⟩:=h
 simp only at h
 have hn:=h.n6
 have hlb:=h.lb
 have hlt:=h.lt
 have hep:=h.ep
 obtain ⟨m,us,g1,g2,g3,g4,g5,g6,g7⟩:=D7G h.dur ke (by omega)
 have hfl:=C0O st.1 ke h.dur.g.dk
 have hop:D9 (B6A st.1 ke)=_:=C8G g7
 simp only [W5,A4X,hfl,hop,bO,Bool.not_true,cond_false]
 have key:=D4 (R3 A0h) (fun j=>((j:Int),(Y8 (U4 st.1.1 st.1.2 ke) us).2.1,(Y8 (U4 st.1.1 st.1.2 ke) us).2.2.1,(Y8 (U4 st.1.1 st.1.2 ke) us).2.2.2,([]:List I2),([]:List B8),A21 (cls.map H2) cls j,A21 (List.replicate cls.length false) busy j,best,(Y8 (U4 st.1.1 st.1.2 ke) us).1.1,(Y8 (U4 st.1.1 st.1.2 ke) us).1.2,())) cls.length
  (true,(((((Y8 (U4 st.1.1 st.1.2 ke) us).1.1,(Y8 (U4 st.1.1 st.1.2 ke) us).1.2),((Y8 (U4 st.1.1 st.1.2 ke) us).2.1,((Y8 (U4 st.1.1 st.1.2 ke) us).2.2.1,(Y8 (U4 st.1.1 st.1.2 ke) us).2.2.2))),[]),(cls.map H2,(List.replicate cls.length false,([],([],best))))),()) (fun j hj=>?_) ?_
 ·refine ⟨true,_,key,wiw (c:=m) (uc:=us) ?_⟩
  have hle:C0R us st.2.2.2:=by
   have h1:=h.dur.g.up
   rw [← List.take_length (l:=B6 st.1.1)] at h1
   exact C0S g2 g4 h1 h.nd
  have hle2:C0R uc us:=C0S g1 h.fuc g4 h.nd
  have hsc:B6 (Y8 (U4 st.1.1 st.1.2 ke) us).1.1=(B6 st.1.1).take m:=g3
  have hlen:((B6 st.1.1).take m).length=m:=by rw [List.length_take];omega
  have hdur:=D48 g7
  rw [g3,hlen] at hdur
  have hmap:∀ (i:Nat) (x:A8),(cls.map H2)[i]? = some x→∃ a,cls[i]? = some a∧x=H2 a:=fun i x hx=>by
   rw [List.getElem?_map] at hx
   cases ha:cls[i]? with
   | none=>rw [ha] at hx;cases hx
   | some a=>rw [ha] at hx;injection hx with hx;exact ⟨a,rfl,hx.symm⟩
  exact {
   dur:=hdur
   ep:=by show A2U (U4 st.1.1 st.1.2 ke)+1≤((k+1:Nat):Int);omega
   nd:=fun r hr=>by rw [hsc] at hr;exact h.nd r (List.mem_of_mem_take hr)
   fuc:=by rw [hsc,List.take_take,Nat.min_self];exact g4
   n6:=by rw [List.length_map];exact h.n6
   lb:=by rw [List.length_map,List.length_replicate]
   lt:=by rw [List.length_map];exact h.lt
   dist:=fun p q x y hx hy e=>by
    obtain ⟨a,ha,rfl⟩:=hmap p x hx
    obtain ⟨b,hb,rfl⟩:=hmap q y hy
    rw [(A8E (h.cl p a ha)).2.1,(A8E (h.cl q b hb)).2.1] at e
    exact h.dist p q a b ha hb e
   cl:=fun p x hx=>by
    obtain ⟨a,ha,rfl⟩:=hmap p x hx
    exact (A8E (h.cl p a ha)).1
   cnt:=fun p b hb=>by
    have:=(List.mem_replicate.1 (List.mem_of_getElem? hb)).2
    subst this
    rfl
   dn:=fun p x hx h5=>by
    obtain ⟨a,ha,rfl⟩:=hmap p x hx
    have hp:=(List.getElem?_eq_some_iff.1 ha).1
    rw [List.getElem?_replicate,if_pos hp]
   ask:=fun x hx=>by cases hx
   hld:=fun x hx=>by cases hx
   tell:=fun x hx=>by cases hx
   bst:=fun p x b hx hb=>by
    obtain ⟨a,ha,rfl⟩:=hmap p x hx
    rw [(A8E (h.cl p a ha)).2.1]
    rcases h.bst p a b ha hb with h1 | ⟨u,hu,e,hl⟩
    ·exact .inl h1
    ·obtain ⟨v,hv,hlu⟩:=hle2 u hu
     have:=hlu.len
     exact .inr ⟨v,hv,hlu.id.symm.trans e,by omega⟩
   ends:=fun p x hx h5=>by
    obtain ⟨a,ha,rfl⟩:=hmap p x hx
    obtain ⟨_,e1,_,e5⟩:=A8E (h.cl p a ha)
    rw [e1]
    obtain ⟨u,hu,e,hd⟩:=h.ends p a ha (e5 h5)
    obtain ⟨v,hv,hlu⟩:=hle2 u hu
    exact ⟨v,hv,hlu.id.symm.trans e,(hlu.fin hd).1⟩
   oku:=fun u hu=>by
    obtain ⟨v,hv,hlu⟩:=hle u hu
    obtain ⟨i,a,ha,e,hok⟩:=h.oku v hv
    obtain ⟨_,e1,e2,_⟩:=A8E (h.cl i a ha)
    exact ⟨i,H2 a,by rw [List.getElem?_map,ha];rfl,by rw [e1];exact hlu.id.trans e,by rw [e2];exact E24 hlu hok⟩
   la:=Nat.zero_le _
   l6:=Nat.zero_le _
   lh:=Nat.zero_le _}
 ·have hlm:(cls.map H2).length=cls.length:=List.length_map _
  have hlr:(List.replicate cls.length false).length=busy.length:=by rw [List.length_replicate];omega
  have l1:=A8D (l:=cls.map H2) (x:=cls) hlm j
  have l2:=A8D (l:=List.replicate cls.length false) (x:=busy) hlr j
  have gc:=B4R (l:=cls.map H2) (x:=cls) hlm hj
  rw [List.getElem?_eq_getElem hj] at gc
  have hg:=h.cl j _ (List.getElem?_eq_getElem hj)
  obtain ⟨_,h400,_⟩:=A0N hg
  simp only [R3,l1,l2]
  rw [A0 (show (j:Int)<(cls.length:Int) by omega),A0 (show (0:Int)≤(j:Int) by omega),A0O B8i gc,A9J _ (A9K hg) (by omega),A0 (show (j:Int)<(busy.length:Int) by omega),w64 (by omega) (by omega)]
  simp only [cond_true,bO,Int.toNat_natCast]
  have e1:=A6a (l:=cls.map H2) (x:=cls) hlm (i:=j) (by omega)
  have e2:=A6a (l:=List.replicate cls.length false) (x:=busy) hlr (i:=j) (by rw [List.length_replicate];exact hj)
  rw [List.getElem_map] at e1
  rw [List.getElem_replicate] at e2
  rw [e1,e2]
  rfl
 ·have e1:A21 (cls.map H2) cls cls.length=cls.map H2:=by unfold A21;rw [List.drop_length,List.append_nil,List.take_of_length_le (by simp)]
  have e2:A21 (List.replicate cls.length false) busy cls.length=List.replicate cls.length false:=by unfold A21;rw [← hlb,List.drop_length,List.append_nil,List.take_of_length_le (by simp)]
  simp only [R3,e1,e2,List.length_map]
  rw [A3 (by omega)]
  rfl
theorem B5j{k:Nat}{w:A5}(h:WIw k w):WIw (k+1) w:=by
 obtain ⟨c,uc,h⟩:=h
 exact ⟨c,uc,{h with ep:=by have:=h.ep;omega}⟩
theorem D4D(k:Nat)(hk:k≤9999)(w:A5)(h:WIw k w)(e:I1)(he:e.2.1<9223372036854775807):∃ b w',S7 w e=some (b,w',())∧WIw (k+1) w':=by
 simp only [S7,A96]
 by_cases h1:e.1=1
 ·obtain ⟨b,w',q,hw⟩:=E0z k w h e.2.1 he
  rw [A0 h1,q]
  exact ⟨b,w',rfl,B5j hw⟩
 rw [A3 h1]
 by_cases h2:e.1=2
 ·obtain ⟨b,w',q,hw⟩:=D9J k w h e.2.1 he
  rw [A0 h2,q]
  exact ⟨b,w',rfl,B5j hw⟩
 rw [A3 h2]
 by_cases h3:e.1=3
 ·obtain ⟨b,w',q,hw⟩:=E10 k w h
  rw [A0 h3,q]
  exact ⟨b,w',rfl,B5j hw⟩
 rw [A3 h3]
 by_cases h4:e.1=4
 ·obtain ⟨b,w',q,hw⟩:=E11 k w h e.2.1 he
  rw [A0 h4,q]
  exact ⟨b,w',rfl,B5j hw⟩
 rw [A3 h4]
 by_cases h5:e.1=5
 ·obtain ⟨b,w',q,hw⟩:=E26 k w h e.2.1 he
  rw [A0 h5,q]
  exact ⟨b,w',rfl,B5j hw⟩
 rw [A3 h5]
 by_cases h6:e.1=6
 ·obtain ⟨b,w',q,hw⟩:=D9K k hk w h e.2.2
  rw [A0 h6,q]
  exact ⟨b,w',rfl,hw⟩
 rw [A3 h6]
 exact ⟨false,w,rfl,B5j h⟩
def C0T(id:ByteArray)(f:List Int):P2:=if G3 (id,f,1,0) then (id,f,1,0) else (⟨#[]⟩,[],0,0)
theorem C4m(id:ByteArray)(f:List Int)(h:id.size≤maxLen)(h2:f.length≤140737488355328):Z4 id f=some (C0T id f,()):=by
 simp only [Z4,A9s]
 rw [A0 (by simp;omega),A0 (by simp;omega)]
 simp only [cond_true,List.nil_append]
 rw [A2l _ h]
 simp only [A4,C0T]
 cases G3 (id,f,1,0)<;>simp
theorem C9M{c:A8}{r:S3}(hc:ClG c)(h:Fits c r):T4 r=true:=by
 have hlen:c.2.1.length≤400:=(A0N hc).2.1
 have key:∀ a b:Int,(100≤a∧a≤599)→(-1≤b∧b≤1000000000)→T4 (a,b)=true:=fun a b h1 h2=>by
  simp only [T4]
  rw [A0 h1,A0 h2]
  rfl
 rcases h with ⟨_,h⟩ | ⟨_,h⟩ | ⟨_,h⟩ | ⟨_,h⟩
 ·rcases h with rfl | ⟨o,ho,rfl⟩ | rfl<;>exact key _ _ (by omega) (by omega)
 ·rcases h with rfl | ⟨o,ho,rfl⟩<;>exact key _ _ (by omega) (by omega)
 ·rcases h with ⟨o,ho,rfl | rfl⟩ | rfl | rfl<;>exact key _ _ (by omega) (by omega)
 ·rcases h with rfl | rfl | ⟨o,ho,rfl⟩ | rfl<;>exact key _ _ (by omega) (by omega)
theorem D4E{c:A8}{r:A2A}{d:List Int}(hc:ClG c)(hq:H9 c=(r,d,true,())):A1F r=true∧r.2.1.size≤1048576∧d.length≤400:=by
 obtain ⟨hid,h400,_,_,o0,o1⟩:=A0N hc
 have hcs:=A9K hc
 have hx:A6R c.2.1 ^^^ 4294967295<2 ^ 32:=Nat.xor_lt_two_pow (A9C hc.byt) (by omega)
 have h8:c.1.size≤8:=by simp only [idB,Bool.and_eq_true,decide_eq_true_eq] at hid;omega
 have hl:=B4E c
 have key:∀ a b:Int,(1≤a∧a≤6)→(0≤b∧b≤B2L a)→A1F (a,(c.1,b))=true:=fun a b h1 h2=>by
  simp only [A1F]
  rw [A0 h1,A0 h2,hid]
  rfl
 have e:(H9 c).2.2.1=true→A1F (H9 c).1=true∧(H9 c).1.2.1.size≤1048576:=by
  unfold H9 C1U
  repeat' split
  all_goals first | exact fun h=>⟨key _ _ (by omega) (by simp [B2L]<;>omega),by show c.1.size≤_;omega⟩ | (intro h;cases h)
 rw [hq] at e hl
 obtain ⟨e1,e2⟩:=e rfl
 exact ⟨e1,e2,by have:d.length≤c.2.1.length:=hl;omega⟩
theorem C4n{α:Type}{l:List α}{i:Nat}{x:α}(h:l[i]? = some x):i<l.length:=(List.getElem?_eq_some_iff.1 h).1
theorem D1f{cls:List A8}(hc:∀ (i:Nat) (a:A8),cls[i]? = some a→ClG a){l:List B8}(h:∀ h∈l,∃ (i:Nat) (cl:A8),cls[i]? = some cl∧h.1=(i:Int)∧Fits cl h.2):A1G cls.length l=true:=by
 unfold A1G
 refine List.all_eq_true.2 fun i hi=>?_
 have hi:=List.mem_range.1 hi
 rw [C7 (k:=A9) (xs:=l) hi]
 obtain ⟨j,cl,g1,g2,g3⟩:=h _ (List.getElem_mem hi)
 have:=C4n g1
 simp only [C8C]
 rw [C9M (hc j cl g1) g3,A0 (by omega)]
 rfl
theorem D4F{k c:Nat}{uc:List TUp}{st:A7}{held cls busy asks tells best}(h:WI k c uc st held cls busy asks tells best):W0 (((st,held),(cls,(busy,(asks,(tells,best))))):A5)=some (true,()):=by
 have hn:=h.n6
 have hlb:=h.lb
 have hlt:=h.lt
 have inner:∀ i,i<cls.length→B9 (L6 ((i:Int),()) (((st,held),(cls,(busy,(asks,(tells,best))))):A5)) (0,())=some (.inl (((i+1:Nat):Int),())):=fun i hi=>by
  refine D4 _ (fun j=>((j:Int),())) i _ (fun j hj=>?_) ?_
  ·have hne:¬ ((rd B2 cls (j:Int)).1.toList == (rd B2 cls (i:Int)).1.toList)=true:=fun e=>by
    simp only [beq_iff_eq] at e
    have e2:=B8X e
    rw [C7 (k:=B2) (xs:=cls) hi,C7 (k:=B2) (xs:=cls) (show j<cls.length by omega)] at e2
    have:=h.dist j i _ _ (List.getElem?_eq_getElem (show j<cls.length by omega)) (List.getElem?_eq_getElem hi) e2
    omega
   simp only [L6]
   rw [A0 (show (j:Int)<(i:Int) by omega),A0 (show (0:Int)≤(j:Int) by omega),A0 (show (j:Int)<(cls.length:Int) by omega),A0 (show (0:Int)≤(i:Int) by omega),A0 (show (i:Int)<(cls.length:Int) by omega),Bool.eq_false_iff.2 hne,w64 (by omega) (by omega)]
   rfl
  ·simp only [L6]
   rw [A3 (by omega),w64 (by omega) (by omega)]
   rfl
 simp only [W0,A4R]
 have key:=D4 (G8 G0 (((st,held),(cls,(busy,(asks,(tells,best))))):A5)) (fun j=>((j:Int),())) cls.length (.inl ()) (fun i hi=>?_) ?_
 ·have key':B9 (G8 G0 (((st,held),(cls,(busy,(asks,(tells,best))))):A5)) (0,())=_:=key
  rw [key']
  simp only [B7]
  rw [A0 (by omega),A0 (by omega),A0 (by omega)]
  rfl
 ·have hg:=h.cl i _ (List.getElem?_eq_getElem hi)
  have hr:=C7 (k:=B2) (xs:=cls) hi
  simp only [G8]
  rw [A0 (show (i:Int)<(cls.length:Int) by omega),A0 (show (0:Int)≤(i:Int) by omega),hr,A2l _ (A9K hg),hg.ok,inner i hi]
  rfl
 ·simp only [G8]
  rw [A3 (by omega)]
  rfl
theorem E1V{k c:Nat}{uc:List TUp}{st:A7}{held cls busy asks tells best}(h:WI k c uc st held cls busy asks tells best):Sm 1048576 A0b (((st,held),(cls,(busy,(asks,(tells,best))))):A5)∧E0o (((st,held),(cls,(busy,(asks,(tells,best))))):A5):=by
 obtain ⟨hR,hS,hok⟩:=B8j h
 have hU:=hR.up
 have hn:=h.n6
 have hlb:=h.lb
 have hlt:=h.lt
 have h60:=h.la
 have h6:=h.l6
 have h200:=h.lh
 have hu:∀ u∈st.2.2.2,u.1.size≤8∧List.length u.2.2.1≤400∧Byt u.2.2.1:=fun u hu=>by
  obtain ⟨i,a,h1,_,h3⟩:=h.oku u hu
  have:=h3.len
  have:=(A0N (h.cl i a h1)).2.1
  have hg:=hU.2.2 u hu
  exact ⟨hg.2.2.1,by omega,hg.2.2.2⟩
 have hc:∀ x∈cls,x.1.size≤8∧x.2.1.length≤400∧Byt x.2.1:=fun x hx=>by
  obtain ⟨i,hi,rfl⟩:=List.getElem_of_mem hx
  have hg:=h.cl i _ (List.getElem?_eq_getElem hi)
  obtain ⟨hid,h4,_⟩:=A0N hg
  exact ⟨by simp only [idB,Bool.and_eq_true,decide_eq_true_eq] at hid;omega,h4,hg.byt⟩
 refine ⟨⟨⟨⟨⟨⟨hR.dk.1.1,fun x hx=>hR.dk.1.2 x hx⟩,⟨hR.dk.2.1,fun x hx=>hR.dk.2.2 x hx⟩⟩,trivial,trivial,⟨by have:=hU.2.1;show List.length st.2.2.2≤_;omega,fun u hm=>?_⟩⟩,⟨by show held.length≤_;omega,fun x _=>⟨trivial,trivial,trivial⟩⟩⟩,⟨by show cls.length≤_;omega,fun x hx=>?_⟩,⟨by show busy.length≤_;omega,fun _ _=>trivial⟩,⟨by show asks.length≤_;omega,fun x hx=>?_⟩,⟨by show tells.length≤_;omega,fun x _=>⟨trivial,trivial,trivial⟩⟩,⟨by show best.length≤_;omega,fun _ _=>trivial⟩⟩,fun u hm=>(hu u hm).2.2,fun x hx=>(hc x hx).2.2⟩
 ·obtain ⟨g1,g2,_⟩:=hu u hm
  exact ⟨by show u.1.size≤_;omega,trivial,⟨by show List.length u.2.2.1≤_;omega,fun _ _=>trivial⟩,trivial⟩
 ·obtain ⟨g1,g2,_⟩:=hc x hx
  exact ⟨by show x.1.size≤_;omega,⟨by show x.2.1.length≤_;omega,fun _ _=>trivial⟩,trivial,trivial⟩
 ·obtain ⟨i,cl,g1,_,g3⟩:=h.ask x hx
  obtain ⟨_,q2,q3⟩:=D4E (h.cl i cl g1) g3
  exact ⟨trivial,⟨trivial,q2,trivial⟩,⟨by show List.length x.2.2≤_;omega,fun _ _=>trivial⟩⟩
theorem B7e{k:Nat}{w:A5}(h:WIw k w):Y4 w=some (true,())∧U9 w=some (true,()):=by
 obtain ⟨⟨st,held⟩,cls,busy,asks,tells,best⟩:=w
 obtain ⟨c,uc,h⟩:=h
 simp only at h
 obtain ⟨hR,hS,hok⟩:=B8j h
 have hn:=h.n6
 have h60:=h.la
 have h6:=h.l6
 have h200:=h.lh
 have hcls:D73 (((st,held),(cls,(busy,(asks,(tells,best))))):A5):=⟨by show cls.length≤_;omega,fun x hx=>by
  obtain ⟨i,hi,rfl⟩:=List.getElem_of_mem hx
  exact A9K (h.cl i _ (List.getElem?_eq_getElem hi))⟩
 have hask:∀ a∈asks,a.2.1.2.1.size≤1048576:=fun a ha=>by
  obtain ⟨i,cl,g1,_,g3⟩:=h.ask a ha
  exact (D4E (h.cl i cl g1) g3).2.1
 have hW:E22 (((st,held),(cls,(busy,(asks,(tells,best))))):A5):=⟨hR.dk.1,by show held.length≤_;omega,hcls,⟨by show asks.length≤_;omega,fun a ha=>by have:=hask a ha;simp only [maxLen];omega⟩,by show tells.length≤_;omega⟩
 obtain ⟨b,e1,e2⟩:=C4a _ hW
 have hsv:A0j (st,held)=some (true,()):=by
  simp only [A0j,A7G]
  have key:=D4 (M5 R2 ((st,held):D0)) (fun j=>((j:Int),())) held.length (.inl ()) (fun i hi=>?_) ?_
  ·have key':B9 (M5 R2 ((st,held):D0)) (0,())=_:=key
   rw [key']
   simp only [B7]
   rw [A0 (by omega),hok]
   rfl
  ·obtain ⟨j,cl,g1,_,g3,_⟩:=h.hld _ (List.getElem_mem hi)
   simp only [M5]
   rw [A0 (show (i:Int)<(held.length:Int) by omega),A0 (show (0:Int)≤(i:Int) by omega),C7 (k:=A9) (xs:=held) hi,A9D,C9M (h.cl j cl g1) g3,w64 (by omega) (by omega)]
   rfl
  ·simp only [M5]
   rw [A3 (by omega)]
   rfl
 have hwho:=B8V (((st,held),(cls,(busy,(asks,(tells,best))))):A5) tells (by simp only [maxLen];omega) hcls.1
 have hwho2:=B8V (((st,held),(cls,(busy,(asks,(tells,best))))):A5) held (by simp only [maxLen];omega) hcls.1
 rw [show A1G (List.length (((st,held),(cls,(busy,(asks,(tells,best))))):A5).2.1) tells=true from D1f h.cl fun x hx=>by obtain ⟨i,cl,g1,g2,g3,_⟩:=h.tell x hx;exact ⟨i,cl,g1,g2,g3⟩] at hwho
 rw [show A1G (List.length (((st,held),(cls,(busy,(asks,(tells,best))))):A5).2.1) held=true from D1f h.cl fun x hx=>by obtain ⟨i,cl,g1,g2,g3,_⟩:=h.hld x hx;exact ⟨i,cl,g1,g2,g3⟩] at hwho2
 have hs:Y4 (((st,held),(cls,(busy,(asks,(tells,best))))):A5)=some (true,()):=by
  simp only [Y4,A94,hsv,D4F h,hwho,hwho2,bO]
  rw [A3 (show ¬ (asks.length:Int)>60 by omega),A3 (show ¬ (tells.length:Int)>60 by omega)]
  have key:=D4 (Z5 A5U E1 (((st,held),(cls,(busy,(asks,(tells,best))))):A5)) (fun j=>((j:Int),())) asks.length (true,()) (fun i hi=>?_) ?_
  ·exact key
  ·obtain ⟨j,cl,g1,g2,g3⟩:=h.ask _ (List.getElem_mem hi)
   obtain ⟨q1,q2,_⟩:=D4E (h.cl j cl g1) g3
   have:=C4n g1
   simp only [Z5]
   rw [A0 (show (i:Int)<(asks.length:Int) by omega),A0 (show (0:Int)≤(i:Int) by omega),C7 (k:=F0) (xs:=asks) hi,N2,w64 (n:=(cls.length:Int)-1) (by omega) (by omega),g2,A0 (show (0:Int)≤(j:Int)∧(j:Int)≤(cls.length:Int)-1 by omega),C4Y _ (by simp only [maxLen];omega),q1,w64 (by omega) (by omega)]
   rfl
  ·simp only [Z5]
   rw [A3 (by omega)]
   rfl
 rw [hs] at e1
 injection e1 with e1;injection e1 with e1
 subst e1
 exact ⟨hs,e2⟩
theorem D4G(st:A7)(id:ByteArray):(∃ u∈st.2.2.2,u.1=id∧C97 st id=(u,true,()))∨C97 st id=E2Y:=by
 unfold C97
 split
 ·rename_i hlt
  have hf:=A4i (fun j=>!((rd kUp st.2.2.2 (j:Int)).1.toList == id.toList)) st.2.2.2.length 0 (by unfold B8P at hlt;omega)
  have hf2:(!((rd kUp st.2.2.2 (B8P st.2.2.2 id:Int)).1.toList == id.toList))=false:=hf
  rw [C7 (k:=kUp) (xs:=st.2.2.2) hlt] at hf2 ⊢
  simp only [Bool.not_eq_false',beq_iff_eq] at hf2
  exact .inl ⟨_,List.getElem_mem hlt,B8X hf2,rfl⟩
 ·exact .inr rfl
theorem D9L{a b:List Int}(hl:a.length≤b.length)(h:a=b.take a.length):beg a b=true:=by
 unfold beg
 rw [A0 hl,Bool.true_and]
 refine List.all_eq_true.2 fun i hi=>?_
 have hi:=List.mem_range.1 hi
 rw [C7 (k:=.int .u8) (xs:=a) hi,C7 (k:=.int .u8) (xs:=b) (by omega)]
 refine decide_eq_true ?_
 have:a[i]? = (b.take a.length)[i]?:=by rw [← h]
 rw [List.getElem?_take_of_lt hi,List.getElem?_eq_getElem hi,List.getElem?_eq_getElem (by omega)] at this
 injection this
theorem E12{k:Nat}{w:A5}(h:WIw k w):(List.range w.2.1.length).all (be w)=true∧(List.range w.2.1.length).all (nl w)=true∧(List.range w.2.1.length).all (en w)=true:=by
 obtain ⟨⟨st,held⟩,cls,busy,asks,tells,best⟩:=w
 obtain ⟨c,uc,h⟩:=h
 simp only at h
 obtain ⟨hR,hS,hok⟩:=B8j h
 have hn:=h.n6
 have hlt:=h.lt
 obtain ⟨hsm,hby⟩:=E1V h
 have ho:Ord st.2.2.2:=hR.up.1
 have hle:=D9H h
 have fnd:∀ (i:Nat) (hi:i<cls.length),∀ u∈st.2.2.2,u.1=(cls[i]).1→OkU (cls[i]).2.1 u:=fun i hi u hu e=>by
  obtain ⟨j,a,g1,g2,g3⟩:=h.oku u hu
  have:=h.dist j i a _ g1 (List.getElem?_eq_getElem hi) (by rw [← g2,e])
  subst this
  rw [List.getElem?_eq_getElem hi] at g1
  injection g1 with g1
  rw [g1];exact g3
 have hrd:∀ (i:Nat) (hi:i<cls.length),rd B2 cls (i:Int)=cls[i]:=fun i hi=>C7 (k:=B2) (xs:=cls) hi
 have hbe:(List.range cls.length).all (be (((st,held),(cls,(busy,(asks,(tells,best))))):A5))=true:=List.all_eq_true.2 fun i hi=>by
  have hi:=List.mem_range.1 hi
  simp only [be,A6S,hrd i hi]
  rcases D4G st (cls[i]).1 with ⟨u,hu,e,q⟩ | q
  ·have hk:=fnd i hi u hu e
   rw [q]
   simp only [Bool.not_true,Bool.false_or]
   rw [D9L hk.len hk.dat,Bool.true_and]
   exact decide_eq_true hk.want
  ·rw [q];rfl
 have hnl:(List.range cls.length).all (nl (((st,held),(cls,(busy,(asks,(tells,best))))):A5))=true:=List.all_eq_true.2 fun i hi=>by
  have hi:=List.mem_range.1 hi
  have hib:i<best.length:=by omega
  have hr:C0H (((st,held),(cls,(busy,(asks,(tells,best))))):A5) i=best[i]:=C7 (k:=.int .i64) (xs:=best) hib
  simp only [nl,hr,A6S,hrd i hi]
  rcases h.bst i _ _ (List.getElem?_eq_getElem hi) (List.getElem?_eq_getElem hib) with e | ⟨u,hu,e,hl⟩
  ·rw [A0 e];rfl
  ·obtain ⟨v,hv,hlu⟩:=hle u hu
   have:=hlu.len
   have q:=D1c ho hv
   rw [← hlu.id,e] at q
   rw [q]
   simp only
   rw [A3 (show ¬ (List.length v.2.2.1:Int)<best[i] by omega)]
   simp
 have hen:(List.range cls.length).all (en (((st,held),(cls,(busy,(asks,(tells,best))))):A5))=true:=List.all_eq_true.2 fun i hi=>by
  have hi:=List.mem_range.1 hi
  simp only [en,A6S,hrd i hi]
  by_cases h5:(cls[i]).2.2.1=5
  ·obtain ⟨u,hu,e,hd⟩:=h.ends i _ (List.getElem?_eq_getElem hi) h5
   obtain ⟨v,hv,hlu⟩:=hle u hu
   have q:=D1c ho hv
   rw [← hlu.id,e] at q
   have hdv:=(hlu.fin hd).1
   have hk:=fnd i hi v hv (hlu.id.symm.trans e)
   have h2:=hk.dat
   rw [hk.fin hdv,List.take_length] at h2
   rw [q]
   simp only [hdv,Bool.true_and,h2]
   simp
  ·rw [A3 h5];rfl
 exact ⟨hbe,hnl,hen⟩
theorem D9M{k:Nat}{w:A5}(h:WIw k w):A7m w=some (true,())∧A6H w=some (true,())∧B3r w=some (true,())∧A2Z w=some (true,()):=by
 obtain ⟨hbe,hnl,hen⟩:=E12 h
 obtain ⟨⟨st,held⟩,cls,busy,asks,tells,best⟩:=w
 obtain ⟨c,uc,h⟩:=h
 simp only at h hbe hnl hen
 have hn:=h.n6
 have hlt:=h.lt
 obtain ⟨hsm,hby⟩:=E1V h
 have hrd:∀ (i:Nat) (hi:i<cls.length),rd B2 cls (i:Int)=cls[i]:=fun i hi=>C7 (k:=B2) (xs:=cls) hi
 have q2:=D0y _ hsm hby
 have q4:=C98 _ hsm
 have q6:=D6z _ hsm
 refine ⟨by rw [q2];exact congrArg (fun b=>some (b,())) hbe,?_,by rw [q6];exact congrArg (fun b=>some (b,())) hen,?_⟩
 ·rw [q4]
  refine congrArg (fun b=>some (b,())) (List.all_eq_true.2 fun i hi=>?_)
  have h1:=List.all_eq_true.1 hnl i hi
  simp only
  split
  ·rfl
  ·exact h1
 ·simp only [A2Z,A9n]
  have key:=D4 (A3F (((st,held),(cls,(busy,(asks,(tells,best))))):A5)) (fun j=>((j:Int),())) cls.length (true,()) (fun i hi=>?_) ?_
  ·exact key
  ·have hg:=h.cl i _ (List.getElem?_eq_getElem hi)
   simp only [A3F]
   rw [A0 (show (i:Int)<(cls.length:Int) by omega),A0 (show (0:Int)≤(i:Int) by omega),hrd i hi,A3 hg.lo,w64 (by omega) (by omega)]
   rfl
  ·simp only [A3F]
   rw [A3 (by omega)]
   rfl
theorem B2R(c:H4)(n:Int)(h:Cur c)(hn:n<9223372036854775808):∃ r c',J6 c n=some (r,c',())∧Cur c'∧0≤r∧(r<n∨r=0):=by
 by_cases h0:n≤0
 ·refine ⟨0,c,?_,h,Int.le_refl _,.inr rfl⟩
  simp only [J6,A8q]
  rw [A0 h0]
  rfl
 ·obtain ⟨r,c',e,h1,h2,h3⟩:=A5e c n h (by omega)
  exact ⟨r,c',e,h1,h2,.inl h3⟩
theorem C1a(c:H4)(w:A5)(h:Cur c)(h1:w.2.1.length≤1000)(h2:w.2.2.2.1.length≤1000)(h3:w.2.2.2.2.1.length≤1000) :
  ∃ e c',F8 c w=some (e,c',w,())∧Cur c'∧e.2.1<9223372036854775807:=by
 obtain ⟨k,c1,q1,hc1,k0,k1⟩:=A5e c 12 h (by omega)
 simp only [F8,A0J,q1,bO]
 obtain ⟨b0,m0⟩:∃ b,(bif decide (k=0) then (some (decide (k=0),()):Option (Bool×Unit)) else bif decide (k=1) then some (decide (k=1),()) else some (decide (k=2),()))=some (b,()):=by
  cases decide (k=0)<;>cases decide (k=1)<;>exact ⟨_,rfl⟩
 rw [m0]
 simp only [bO]
 cases b0 with
 | true=>
  obtain ⟨r,c2,q2,hc2,r0,r1⟩:=B2R c1 (w.2.1.length:Int) hc1 (by omega)
  simp only [cond_true,q2,bO,B7]
  exact ⟨_,_,rfl,hc2,by simp only;omega⟩
 | false=>
 simp only [cond_false]
 obtain ⟨b1,m1⟩:∃ b,(bif decide (k=3) then (some (decide (k=3),()):Option (Bool×Unit)) else bif decide (k=4) then some (decide (k=4),()) else some (decide (k=5),()))=some (b,()):=by
  cases decide (k=3)<;>cases decide (k=4)<;>exact ⟨_,rfl⟩
 rw [m1]
 simp only [bO]
 cases b1 with
 | true=>
  obtain ⟨r,c2,q2,hc2,r0,r1⟩:=B2R c1 (IntKind.i64.wrap ((w.2.2.2.1.length:Int)+1)) hc1 (by rw [w64 (by omega) (by omega)];omega)
  rw [w64 (by omega) (by omega)] at r1
  simp only [cond_true,q2,bO,B7]
  exact ⟨_,_,rfl,hc2,by simp only;omega⟩
 | false=>
 simp only [cond_false]
 obtain ⟨b2,m2⟩:∃ b,(bif decide (k=6) then (some (decide (k=6),()):Option (Bool×Unit)) else some (decide (k=7),()))=some (b,()):=by
  cases decide (k=6)<;>exact ⟨_,rfl⟩
 rw [m2]
 simp only [bO]
 cases b2 with
 | true=>
  simp only [cond_true,B7]
  exact ⟨_,_,rfl,hc1,by simp only;omega⟩
 | false=>
 simp only [cond_false]
 obtain ⟨b3,m3⟩:∃ b,(bif decide (k=8) then (some (decide (k=8),()):Option (Bool×Unit)) else some (decide (k=9),()))=some (b,()):=by
  cases decide (k=8)<;>exact ⟨_,rfl⟩
 rw [m3]
 simp only [bO]
 cases b3 with
 | true=>
  obtain ⟨r,c2,q2,hc2,r0,r1⟩:=B2R c1 (IntKind.i64.wrap ((w.2.2.2.2.1.length:Int)+1)) hc1 (by rw [w64 (by omega) (by omega)];omega)
  rw [w64 (by omega) (by omega)] at r1
  simp only [cond_true,q2,bO,B7]
  exact ⟨_,_,rfl,hc2,by simp only;omega⟩
 | false=>
 simp only [cond_false]
 cases decide (k=10) with
 | true=>
  obtain ⟨r,c2,q2,hc2,r0,r1⟩:=B2R c1 (w.2.1.length:Int) hc1 (by omega)
  simp only [cond_true,q2,bO,B7]
  exact ⟨_,_,rfl,hc2,by simp only;omega⟩
 | false=>
 simp only [cond_false,B7]
 obtain ⟨z,e,hz⟩:=V5 (X7 A5L w) (fun l=>(20-l.1).toNat)
  (fun l=>0≤l.1∧l.1≤20∧l.2.1=6∧l.2.2.1=0∧Cur (l.2.2.2.1,(l.2.2.2.2.1,l.2.2.2.2.2.1))∧(l.2.2.2.2.2.2.1.length:Int)=l.1) (fun z=>z.2.2.1=w∧Cur z.2.1∧z.1.2.1=0) (fun l hl=>by
   obtain ⟨g0,g1,g2,g3,g4,g5⟩:=hl
   simp only [X7]
   by_cases hi:l.1<20
   ·obtain ⟨b,c',q,hc'⟩:=D76 _ 2 g4 (by omega)
    rw [A0 hi,q]
    simp only [cond_true,bO]
    rw [A0 (by simp;omega),A0 (by simp;omega),w64 (by omega) (by omega)]
    exact .inl ⟨_,rfl,⟨by simp only;omega,by simp only;omega,g2,g3,hc',by simp;omega⟩,by simp only;omega⟩
   ·rw [A3 hi]
    exact .inr ⟨_,rfl,rfl,g4,g3⟩) (0,6,0,c1.1,c1.2.1,c1.2.2,[],()) ⟨by simp,by simp,rfl,rfl,hc1,rfl⟩
 obtain ⟨ev,c',w',u⟩:=z
 obtain ⟨z1,z2,z3⟩:=hz
 simp only at z1 z2 z3
 subst z1
 exact ⟨ev,c',e,z2,by omega⟩
def C0U(n:Int)(cls:List A8):A5:=(A1D n,cls,List.replicate cls.length false,[],[],List.replicate cls.length (-1))
def E27:A5:=((((([],[]),(0,(0,[]))),[]),([],([],([],([],[]))))):A5)
theorem C6p(n:Int)(cls:List A8)(hl:cls.length≤1000)(hc:∀ c∈cls,c.1.size≤maxLen∧c.2.1.length≤140737488355328):∃ w,A4S n cls=some (w,())∧(w=C0U n cls∨w=E27):=by
 have hd:=D1G n
 have ks:B9 (A0E M0 cls) (0,0,0,(E6 n).1,(E6 n).2,[],[],[],[],[],())=some (0,0,(E6 n).1,(E6 n).2,[],[],cls,List.replicate cls.length false,List.replicate cls.length (-1),()):=by
  have key:=D4 (A0E M0 cls) (fun i=>((i:Int),0,0,(E6 n).1,(E6 n).2,[],[],cls.take i,List.replicate i false,List.replicate i (-1),())) cls.length (0,0,(E6 n).1,(E6 n).2,[],[],cls,List.replicate cls.length false,List.replicate cls.length (-1),()) (fun i hi=>?_) ?_
  ·simpa using key
  ·have g1:(i:Int)<(cls.length:Int):=by omega
   have g2:(0:Int)≤(i:Int):=by omega
   simp only [A0E,A0 g1,A0 g2,cond_true]
   rw [C7 (k:=B2) (xs:=cls) hi,B7V _ (hc _ (List.getElem_mem hi)).2]
   simp only [A4]
   rw [A0 (by simp;omega),A0 (by simp;omega),A0 (by simp;omega),A0 (by simp;omega),A0 (by simp;omega),A0 (by simp;omega),w64 (by omega) (by omega),List.take_succ_eq_append_getElem hi,List.replicate_succ',List.replicate_succ']
   rfl
  ·simp [A0E]
 have hsec:A6Y (E6 n).1:=by
  refine ⟨by omega,fun s hs=>?_⟩
  unfold E6 at hs
  split at hs
  ·rw [List.eq_of_mem_replicate hs];exact Nat.zero_le _
  ·cases hs
 have hw:E22 (C0U n cls):=⟨hsec,by simp [C0U,A1D],⟨by show cls.length≤_;omega,fun c h=>(hc c h).1⟩,⟨by simp [C0U],fun a ha=>by cases ha⟩,by simp [C0U]⟩
 obtain ⟨b,hb,hi⟩:=C4a (C0U n cls) hw
 simp only [A4S,B27,C4b,A4]
 have es:B9 (A0E M0 cls) (0,(A1D n).1.2.1,(A1D n).1.2.2.1,(A1D n).1.1.1,(A1D n).1.1.2,(A1D n).1.2.2.2,(A1D n).2,[],[],[],())=_:=ks
 rw [es]
 have hb':Y4 (((((E6 n).1,(E6 n).2),((0:Int),((0:Int),[]))),[]),(cls,(List.replicate cls.length false,([],([],List.replicate cls.length (-1))))))=some (b,()):=hb
 simp only [hb']
 cases b with
 | false=>exact ⟨_,rfl,.inr rfl⟩
 | true=>exact ⟨_,rfl,.inl rfl⟩
def abc:List ByteArray:= [(⟨#[97]⟩:ByteArray),(⟨#[98]⟩:ByteArray),(⟨#[99]⟩:ByteArray)]
theorem E13:∀ i j:Nat,i<3→j<3→abc[i]? = abc[j]?→i=j:=by
 have ne:∀ a b:UInt8,(⟨#[a]⟩:ByteArray)=⟨#[b]⟩→a=b:=fun a b e=>by
  injection e with e;injection e with e;injection e
 intro i j hi hj
 have h:∀ (a b:UInt8),a≠b→(some (⟨#[a]⟩:ByteArray)=some ⟨#[b]⟩→i=j):=fun a b hne e=>absurd (ne a b (Option.some.inj e)) hne
 match i,j,hi,hj with
 | 0,0,_,_=>exact fun _=>rfl
 | 1,1,_,_=>exact fun _=>rfl
 | 2,2,_,_=>exact fun _=>rfl
 | 0,1,_,_=>exact fun e=>absurd (ne 97 98 (Option.some.inj e)) (by decide)
 | 0,2,_,_=>exact fun e=>absurd (ne 97 99 (Option.some.inj e)) (by decide)
 | 1,0,_,_=>exact fun e=>absurd (ne 98 97 (Option.some.inj e)) (by decide)
 | 1,2,_,_=>exact fun e=>absurd (ne 98 99 (Option.some.inj e)) (by decide)
 | 2,0,_,_=>exact fun e=>absurd (ne 99 97 (Option.some.inj e)) (by decide)
 | 2,1,_,_=>exact fun e=>absurd (ne 99 98 (Option.some.inj e)) (by decide)
theorem E28:∀ s∈abc,idB s=true∧s.size=1:=by
 intro s hs
 simp only [abc,List.mem_cons,List.not_mem_nil,or_false] at hs
 rcases hs with rfl | rfl | rfl<;>exact ⟨by decide,rfl⟩
structure D7L (j:Int) (cls:List A8):Prop where
 n:(cls.length:Int)+j≤3
 ok:∀ a∈cls,ClG a∧a.2.2.1=1∧∃ i:Nat,i<3∧j≤(i:Int)∧abc[i]? = some a.1
 dist:∀ (p q:Nat) (a b:A8),cls[p]? = some a→cls[q]? = some b→a.1=b.1→p=q
theorem D9N{j:Nat}{cls:List A8}(h:D7L ((j:Int)+1) cls){a:A8}(ha:ClG a)(h1:a.2.2.1=1)(hid:abc[j]? = some a.1):D7L (j:Int) (cls ++ [a]):=by
 have hn:=h.n
 have get:∀ (p:Nat) (x:A8),(cls ++ [a])[p]? = some x→(p<cls.length∧cls[p]? = some x)∨(p=cls.length∧x=a):=fun p x hx=>by
  rcases Nat.lt_or_ge p cls.length with hp | hp
  ·rw [List.getElem?_append_left hp] at hx;exact .inl ⟨hp,hx⟩
  ·rw [List.getElem?_append_right hp] at hx
   have:=(List.getElem?_eq_some_iff.1 hx).1
   simp at this
   obtain rfl:p=cls.length:=by omega
   rw [Nat.sub_self] at hx
   injection hx with hx
   exact .inr ⟨rfl,hx.symm⟩
 have diff:∀ x∈cls,x.1≠a.1:=fun x hx e=>by
  obtain ⟨_,_,i,hi3,hi,g⟩:=h.ok x hx
  rw [e,← hid] at g
  have:=E13 i j hi3 (by have:=(List.getElem?_eq_some_iff.1 hid).1;simpa [abc] using this) g
  omega
 refine ⟨by simp;omega,fun x hx=>?_,fun p q x y hx hy e=>?_⟩
 ·rcases List.mem_append.1 hx with hx | hx
  ·obtain ⟨g1,g2,i,g3,g4,g5⟩:=h.ok x hx
   exact ⟨g1,g2,i,g3,by omega,g5⟩
  ·rw [List.mem_singleton] at hx;subst hx
   have:=(List.getElem?_eq_some_iff.1 hid).1
   exact ⟨ha,h1,j,by simpa [abc] using this,Int.le_refl _,hid⟩
 ·rcases get p x hx with ⟨hp,gx⟩ | ⟨hp,rfl⟩<;>rcases get q y hy with ⟨hq,gy⟩ | ⟨hq,rfl⟩
  ·exact h.dist p q x y gx gy e
  ·exact absurd e (diff x (List.mem_of_getElem? gx))
  ·exact absurd e.symm (diff y (List.mem_of_getElem? gy))
  ·omega
theorem D9O{n:Int}(hn:n≤200){cls:List A8}(h:D7L 0 cls):WIw 0 (((E6 n,(0,(0,[]))),[]),(cls,(List.replicate cls.length false,([],([],List.replicate cls.length (-1)))))):=by
 obtain ⟨⟨c,hd⟩,hep,_⟩:=C6o n hn
 have hsc:B6 (E6 n).1 = []:=by
  have h1:(0:Int)=((B6 (E6 n).1).length:Int):=by
   rcases hd.g with ⟨_,_,_,h4,_⟩
   exact h4
  exact List.eq_nil_of_length_eq_zero (by omega)
 have hl:=h.n
 have hrep:∀ {α:Type} (v:α) (i:Nat) (x:α),(List.replicate cls.length v)[i]? = some x→x=v:=fun v i x hx=>(List.mem_replicate.1 (List.mem_of_getElem? hx)).2
 refine wiw (c:=c) (uc:= []) {
  dur:=hd
  ep:=hep
  nd:=fun r hr=>by rw [hsc] at hr;cases hr
  fuc:=by rw [hsc,List.take_nil];rfl
  n6:=by omega
  lb:=List.length_replicate
  lt:=List.length_replicate
  dist:=h.dist
  cl:=fun i a ha=>(h.ok a (List.mem_of_getElem? ha)).1
  cnt:=fun i b hb=>by rw [hrep _ _ _ hb];rfl
  dn:=fun i a ha h5=>by have:=(h.ok a (List.mem_of_getElem? ha)).2.1;omega
  ask:=fun a ha=>by cases ha
  hld:=fun a ha=>by cases ha
  tell:=fun a ha=>by cases ha
  bst:=fun i a b ha hb=>.inl (hrep _ _ _ hb)
  ends:=fun i a ha h5=>by have:=(h.ok a (List.mem_of_getElem? ha)).2.1;omega
  oku:=fun u hu=>by cases hu
  la:=Nat.zero_le _
  l6:=Nat.zero_le _
  lh:=Nat.zero_le _}
theorem D4H(c:H4)(h:Cur c)(j:Int)(hj:0≤j∧j≤3):∃ y c',B9 (R9 Z4 R4 A5T) (j,c.1,c.2.1,c.2.2,[],())=some (c'.1,c'.2.1,c'.2.2,y,())∧Cur c'∧D7L 0 y:=by
 obtain ⟨z,e,hz⟩:=V5 (R9 Z4 R4 A5T) (fun l=>l.1.toNat)
  (fun l=>0≤l.1∧l.1≤3∧Cur (l.2.1,(l.2.2.1,l.2.2.2.1))∧D7L l.1 l.2.2.2.2.1) (fun z=>Cur (z.1,(z.2.1,z.2.2.1))∧D7L 0 z.2.2.2.1) (fun l hl=>by
   obtain ⟨g0,g1,g2,g3⟩:=hl
   simp only [R9]
   by_cases hi:l.1>0
   ·obtain ⟨m,hm⟩:∃ m:Nat,l.1=(m:Int)+1:=⟨(l.1-1).toNat,by omega⟩
    have w1:IntKind.i64.wrap (l.1-1)=(m:Int):=by rw [w64 (by omega) (by omega)];omega
    obtain ⟨n,c1,q1,h1,hn⟩:=D13 _ [0,5,24,60,50] g2 (by simp)
    have hn2:0≤n∧n≤60:=by
     simp only [List.mem_cons,List.not_mem_nil,or_false] at hn
     omega
    obtain ⟨dat,c2,q2,h2,hl2,hb2⟩:=D3t c1 n h1 (by omega)
    have hm3:m<3:=by omega
    have hmabc:m<abc.length:=hm3
    have hrd:rd .str [(⟨#[97]⟩:ByteArray),(⟨#[98]⟩:ByteArray),(⟨#[99]⟩:ByteArray)] (m:Int)=abc[m]:=A5c (xs:=abc) hmabc
    obtain ⟨hid,hsz⟩:=E28 _ (List.getElem_mem hmabc)
    have hok:G3 (abc[m],dat,1,0)=true:=by
     simp only [G3,Bool.and_eq_true,decide_eq_true_eq]
     refine ⟨⟨⟨hid,by omega⟩,by omega⟩,by omega⟩
    have hlen:=g3.n
    have q3:=C4m abc[m] dat (by simp only [maxLen];omega) (by omega)
    simp only [C0T,hok,if_true] at q3
    rw [A0 hi,w1,A0 (show (0:Int)≤(m:Int) by omega),A0 (by simp;omega),q1]
    simp only [cond_true,bO,q2,hrd,q3]
    rw [A0 (by simp;omega),A0 (by simp;omega)]
    refine .inl ⟨_,rfl,⟨by simp only;omega,by simp only;omega,h2,?_⟩,by simp only;omega⟩
    refine D9N (by rw [← hm];exact g3) ⟨hok,by show (1:Int)≠6;omega,hb2,fun h=>by cases h⟩ rfl (List.getElem?_eq_getElem hmabc)
   ·rw [A3 hi]
    have e0:l.1=0:=by omega
    rw [e0] at g3
    exact .inr ⟨_,rfl,g2,g3⟩) (j,c.1,c.2.1,c.2.2,[],()) ⟨hj.1,hj.2,h,⟨by simp;omega,fun a ha=>by (cases ha),fun p q a b ha=>by (simp at ha)⟩⟩
 exact ⟨z.2.2.2.1,(z.1,(z.2.1,z.2.2.1)),e,hz.1,hz.2⟩
theorem D61{k:Nat}{w:A5}(h:WIw k w):w.2.1.length≤6∧w.2.2.2.1.length≤60∧w.2.2.2.2.1.length≤60:=by
 obtain ⟨c,uc,h⟩:=h
 exact ⟨h.n6,h.la,h.l6⟩
theorem E2a{k k':Nat}{w:A5}(h:WIw k w)(hk:k≤k'):WIw k' w:=by
 obtain ⟨c,uc,h⟩:=h
 exact ⟨c,uc,{h with ep:=by have:=h.ep;omega}⟩
theorem D4I(c:H4)(n:Int)(hc:Cur c)(hn:0<n∧n≤1000):∃ w c',P1 c n=some (w,c',())∧WIw 1000 w∧Cur c':=by
 obtain ⟨m,c1,q1,h1,hm⟩:=D13 c [1,2,3] hc (by simp)
 have hm2:0≤m∧m≤3:=by
  simp only [List.mem_cons,List.not_mem_nil,or_false] at hm
  omega
 obtain ⟨cls,c2,q2,h2,hcls⟩:=D4H c1 h1 m hm2
 have hcn:=hcls.n
 obtain ⟨w,q3,hw⟩:=C6p 40 cls (by omega) (fun x hx=>by
  obtain ⟨g,_⟩:=hcls.ok x hx
  have:=(A0N g).2.1
  exact ⟨A9K g,by omega⟩)
 have hw0:WIw 0 w:=by
  rcases hw with rfl | rfl
  ·exact D9O (n:=40) (by omega) hcls
  ·exact D9O (n:=-1) (by omega) (cls:= []) ⟨by simp,fun a ha=>by (cases ha),fun p q a b ha=>by (simp at ha)⟩
 obtain ⟨k,c3,q4,h3,k0,k1⟩:=A5e c2 n h2 (by omega)
 have q4':J6 (c2.1,(c2.2.1,c2.2.2)) n=_:=q4
 simp only [P1,A0q,q1,q2,q3,q4',bO]
 obtain ⟨z,e,hz⟩:=V5 (A00 S7 F8) (fun l=>l.1.toNat)
  (fun l=>∃ j:Nat,l.1≤1000-(j:Int)∧j≤1000∧WIw j ((((l.2.1,l.2.2.1),(l.2.2.2.1,(l.2.2.2.2.1,l.2.2.2.2.2.1))),l.2.2.2.2.2.2.2.2.2.1),(l.2.2.2.2.2.2.2.2.2.2.1,(l.2.2.2.2.2.2.2.2.2.2.2.1,(l.2.2.2.2.2.2.2.2.2.2.2.2.1,(l.2.2.2.2.2.2.2.2.2.2.2.2.2.1,l.2.2.2.2.2.2.2.2.2.2.2.2.2.2.1)))))∧Cur (l.2.2.2.2.2.2.1,(l.2.2.2.2.2.2.2.1,l.2.2.2.2.2.2.2.2.1))) (fun z=>WIw 1000 z.1∧Cur z.2.1) (fun l hl=>by
   obtain ⟨j,g0,gj,g1,g2⟩:=hl
   obtain ⟨w1,w2,w3⟩:=D61 g1
   simp only [A00]
   by_cases hi:l.1>0
   ·obtain ⟨ev,c',e,hc',hev⟩:=C1a _ _ g2 (Nat.le_trans w1 (by omega)) (Nat.le_trans w2 (by omega)) (Nat.le_trans w3 (by omega))
    obtain ⟨b,w',q,hw'⟩:=D4D j (by omega) _ g1 ev hev
    rw [A0 hi,e]
    simp only [cond_true,bO]
    rw [q]
    simp only [bO]
    rw [w64 (by omega) (by omega)]
    exact .inl ⟨_,rfl,⟨j+1,by simp only;omega,by omega,hw',hc'⟩,by simp only;omega⟩
   ·rw [A3 hi]
    exact .inr ⟨_,rfl,E2a g1 gj,g2⟩) (k,w.1.1.1.1,w.1.1.1.2,w.1.1.2.1,w.1.1.2.2.1,w.1.1.2.2.2,c3.1,c3.2.1,c3.2.2,w.1.2,w.2.1,w.2.2.1,w.2.2.2.1,w.2.2.2.2.1,w.2.2.2.2.2,()) ⟨0,by simp only;omega,by omega,hw0,h3⟩
 exact ⟨z.1,z.2.1,e,hz⟩
def hOk(n:Nat)(h:B8):Prop:=T4 h.2=true∧0≤h.1∧h.1<(n:Int)
def wOk(n:Nat)(a:I2):Prop:=A1F a.2.1=true∧0≤a.1∧a.1<(n:Int)∧Byt a.2.2∧a.2.2.length≤1048576
def cOk(c:A8):Prop:=G3 c=true∧Byt c.2.1
structure RW (st:A7) (held:List B8) (cls:List A8) (busy:List Bool) (asks:List I2) (tells:List B8) (best:List Int):Prop where
 g:GoodS st
 lh:held.length≤200
 hd:∀ h∈held,hOk cls.length h
 n6:cls.length≤6
 lb:busy.length=cls.length
 lt:best.length=cls.length
 cl:∀ c∈cls,cOk c
 la:asks.length≤60
 ask:∀ a∈asks,wOk cls.length a
 l6:tells.length≤60
 tl:∀ h∈tells,hOk cls.length h
def RWw(w:A5):Prop:=RW w.1.1 w.1.2 w.2.1 w.2.2.1 w.2.2.2.1 w.2.2.2.2.1 w.2.2.2.2.2
theorem B2S{id:ByteArray}{st st':A7}(hs:Steps id st st')(h:GoodS st):GoodS st':=by
 induction hs with
 | refl=>exact h
 | step h1 hr e1 e2 hlt hid _ hf ih=>exact (B7Z ih hr e1 e2 hlt hf).1
theorem D7M{st:A7}{r:A2A}{dat:List Int}(h:GoodS st)(hb:Byt dat):GoodS (B01 st r dat).1:=by
 have hR:=C9I h (B8b h)
 unfold B01
 split
 ·exact B2S (D1W hR) h
 ·split
  ·exact B2S (D49 hR hb) h
  ·split
   ·exact B2S (D1X hR) h
   ·split
    ·exact B2S (D1Y hR) h
    ·exact h
theorem C0V{st:A7}(h:Ups st.2.2.2)(id:ByteArray):0≤lenOf st id∧lenOf st id≤1000000000:=by
 unfold lenOf
 split
 ·rename_i hh
  obtain ⟨hlt,_⟩:=J0.1 hh
  have hg:=h.2.2 _ (List.getElem_mem hlt)
  rw [C7 (k:=kUp) hlt]
  have h1:=hg.1
  have h2:=hg.2.1
  omega
 ·omega
theorem B5k{s o:Int}(h1:100≤s)(h2:s≤599)(h3:-1≤o)(h4:o≤1000000000):T4 (s,o)=true:=by
 simp only [T4,Bool.and_eq_true,decide_eq_true_eq]
 omega
theorem A9L{st:A7}(h:Ups st.2.2.2)(c:Int)(id:ByteArray):T4 (I8 st c id)=true:=by
 have hl:=C0V h id
 unfold I8
 repeat' split
 all_goals exact B5k (by omega) (by omega) (by omega) (by omega)
theorem E14{st:A7}(h:Ups st.2.2.2)(r:A2A):T4 (D1Z st r)=true:=by
 have hl:=C0V h r.2.1
 unfold D1Z
 repeat' split
 all_goals exact B5k (by omega) (by omega) (by omega) (by omega)
theorem D7N{st:A7}{r:A2A}{dat:List Int}(h:GoodS st)(hb:Byt dat):T4 (B01 st r dat).2=true:=by
 have hU:=B8b h
 have hR:=C9I h hU
 unfold B01
 split
 ·simp only
  split
  ·exact B5k (by omega) (by omega) (by omega) (by omega)
  ·exact A9L hU _ _
 ·split
  ·simp only
   split
   ·rename_i hz
    obtain ⟨q1,q2,q3⟩:=B8g hR hb hz
    have hl:=C0V (D1I (id:=r.2.1) (off:=r.2.2) (dat:=dat) hR hb).1 r.2.1
    exact B5k (by omega) (by omega) (by omega) (by omega)
   ·exact A9L hU _ _
  ·split
   ·simp only
    split
    ·exact B5k (by omega) (by omega) (by omega) (by omega)
    ·exact A9L hU _ _
   ·split
    ·simp only
     split
     ·exact B5k (by omega) (by omega) (by omega) (by omega)
     ·exact A9L hU _ _
    ·exact E14 hU r
theorem C8L(x:List ByteArray)(hd:A3s (x,x)=true):∃ st b,D9 (x,x)=some (st,b,())∧Z9 (x,x)=some (st,b,())∧(b=true→GoodS st):=by
 obtain ⟨hS,_,h200,_⟩:=A4l hd
 have hl:x.length≤200:=h200
 obtain ⟨st,b,o1,o2,o3,o4⟩:=E0u (x,x) hS
 refine ⟨st,b,o1,o2,fun hb=>?_⟩
 subst hb
 have hll:=A5g 0 0 x
 have hfs:=A2p (B6 x) (by simp only [maxLen,B6];omega) (B2O 0 0 x)
 have htop:=C3S x
 cases hf:I0 [] (B6 x) with
 | none=>
  have hf':Q7 (B6 x)=([],false,()):=by unfold Q7;rw [hf]
  simp only [D9,P6,A6Z,hd,B5f (x,x) hS.1,hfs,hf',A6A (x,x) hS.1,A02 (x,x) hS,bO,Bool.not_true,Bool.not_false,cond_false,cond_true] at o1
  injection o1 with o1;injection o1 with _ o1;injection o1 with o1;cases o1
 | some us=>
  by_cases hep:A2U x+1≤10000
  ·have hg:=C1Y hd hf hep
   rw [C8G hg] at o1
   injection o1 with o1;injection o1 with o1
   rw [← o1];exact hg
  ·have hf':Q7 (B6 x)=(us,true,()):=by unfold Q7;rw [hf]
   simp only [D9,P6,A6Z,hd,B5f (x,x) hS.1,hfs,hf',A6A (x,x) hS.1,A02 (x,x) hS,bO,Bool.not_true,Bool.not_false,cond_false,cond_true] at o1
   rw [w64 (n:=A2U x+1) (by omega) (by omega),A0 (show A2U x+1>10000 by omega)] at o1
   injection o1 with o1;injection o1 with _ o1;injection o1 with o1;cases o1
theorem D1g{d:E9}(h:A3s d=true)(k:List Bool):A3s (B6A d k)=true:=by
 obtain ⟨_,h1,h2,h3,h4⟩:=A4l h
 have hm:∀ s∈U4 d.1 d.2 k,s.size≤64:=fun s hs=>(C9J h1 hs).elim (h3 s) (h4 s)
 exact B8a rfl (by show (U4 d.1 d.2 k).length≤_;rw [B4Q];exact h2) hm hm
theorem D4J{st:A7}(h:GoodS st):GoodS ((st.1.1,st.1.1),st.2):=(B7a h).g
theorem A0P{c:A8}(h:cOk c):c.1.size≤8∧c.2.1.length≤400∧idB c.1=true∧1≤c.2.2.1∧c.2.2.1≤6∧0≤c.2.2.2∧c.2.2.2≤(c.2.1.length:Int):=by
 have h1:=h.1
 simp only [G3,Bool.and_eq_true,decide_eq_true_eq] at h1
 have:=D1F h1.1.1.1
 refine ⟨this,by omega,h1.1.1.1,?_⟩
 omega
theorem B0e{c:A8}(h:cOk c):c.1.size≤maxLen:=by
 have:=(A0P h).1
 simp only [maxLen];omega
theorem C4o{c:A8}(h:cOk c){s o:Int}(h1:1≤s)(h2:s≤6)(h3:0≤o)(h4:o≤(c.2.1.length:Int)):cOk (c.1,c.2.1,s,o):=by
 obtain ⟨_,g2,g3,_⟩:=A0P h
 refine ⟨?_,h.2⟩
 simp only [G3,Bool.and_eq_true,decide_eq_true_eq]
 exact ⟨⟨⟨g3,by omega⟩,by omega⟩,by omega⟩
theorem C4p{c:A8}(h:cOk c):cOk (H2 c):=by
 obtain ⟨_,_,_,_,_,h3,h4⟩:=A0P h
 unfold H2
 split
 ·exact C4o h (by omega) (by omega) h3 h4
 ·exact h
theorem E15{c:A8}(h:cOk c)(o:Int):cOk (far c o):=by
 obtain ⟨_,_,_,_,_,h3,h4⟩:=A0P h
 unfold far
 split
 ·rename_i hr
  split
  ·exact C4o h (by omega) (by omega) hr.1 hr.2
  ·exact C4o h (by omega) (by omega) hr.1 hr.2
 ·exact C4o h (by omega) (by omega) h3 h4
theorem C9N(s t:Int)(h1:1≤s)(h2:s≤6):0≤A1x s t∧A1x s t≤6:=by
 unfold A1x
 repeat' split
 all_goals omega
theorem D9P{c:A8}(h:cOk c)(r:S3):cOk (hear c r):=by
 obtain ⟨_,_,_,h1,h2,h3,h4⟩:=A0P h
 unfold hear
 split
 ·exact E15 h _
 ·rename_i hne
  have:=C9N c.2.2.1 r.1 h1 h2
  exact C4o h (by omega) (by omega) h3 h4
theorem E29{r:A2A}(h:A1F r=true):r.2.1.size≤8∧(0≤r.2.2∧r.2.2≤4294967295):=by
 simp only [A1F,Bool.and_eq_true,decide_eq_true_eq] at h
 refine ⟨D1F h.1.2,h.2.1,?_⟩
 have:=h.2.2
 unfold B2L at this
 split at this
 ·omega
 ·split at this
  ·omega
  ·split at this
   ·omega
   ·omega
theorem C4q{c:A8}(h:cOk c){r:A2A}{d:List Int}(hq:H9 c=(r,d,true,())):A1F r=true∧Byt d∧d.length≤1048576:=by
 obtain ⟨_,h400,hid,h1,h2,h3,h4⟩:=A0P h
 have hl:=B4E c
 rw [hq] at hl
 have hl':d.length≤c.2.1.length:=hl
 have hcrc:=A9C h.2
 have hx:A6R c.2.1 ^^^ 4294967295<2 ^ 32:=Nat.xor_lt_two_pow hcrc (by omega)
 have mk:∀ (op n:Int),1≤op→op≤6→0≤n→n≤B2L op→A1F (op,c.1,n)=true:=fun op n g1 g2 g3 g4=>by
  simp only [A1F,Bool.and_eq_true,decide_eq_true_eq]
  exact ⟨⟨by omega,hid⟩,by omega⟩
 have key:(H9 c).2.2.1=true→A1F (H9 c).1=true∧Byt (H9 c).2.1:=by
  unfold H9
  rw [h.1]
  simp only [Bool.true_eq_false,if_false]
  split
  ·exact fun _=>⟨mk 1 _ (by omega) (by omega) (by omega) (by show _≤(1000000000:Int);omega),A08⟩
  ·split
   ·exact fun _=>⟨mk 2 _ (by omega) (by omega) (by omega) (by show _≤(0:Int);omega),A08⟩
   ·split
    ·exact fun _=>⟨mk 3 _ (by omega) (by omega) (by omega) (by show _≤(1000000000:Int);omega),A6T (A2n h.2 _) _⟩
    ·split
     ·exact fun _=>⟨mk 4 _ (by omega) (by omega) (by omega) (by show _≤(4294967295:Int);omega),A08⟩
     ·exact fun e=>by cases e
 rw [hq] at key
 obtain ⟨k1,k2⟩:=key rfl
 exact ⟨k1,k2,by omega⟩
def B8k(w:A5)(i:Int):Bool×A5:=
 if 0≤i∧i<(w.2.1.length:Int)∧rd .bool w.2.2.1 i=false∧¬ (w.2.2.2.1.length:Int)=60∧(H9 (rd B2 w.2.1 i)).2.2.1=true then
  (true,(w.1,(w.2.1,(w.2.2.1.set i.toNat true,(w.2.2.2.1 ++ [(i,((H9 (rd B2 w.2.1 i)).1,(H9 (rd B2 w.2.1 i)).2.1))],w.2.2.2.2)))))
 else (false,w)
def B2T(w:A5)(j:Int):Bool×A5:=
 if 0≤j∧j<(w.2.2.2.1.length:Int)∧¬ (w.1.2.length:Int)=200 then
  (true,(((B01 w.1.1 (rd F0 w.2.2.2.1 j).2.1 (rd F0 w.2.2.2.1 j).2.2).1,w.1.2 ++ [((rd F0 w.2.2.2.1 j).1,(B01 w.1.1 (rd F0 w.2.2.2.1 j).2.1 (rd F0 w.2.2.2.1 j).2.2).2)]),(w.2.1,(w.2.2.1,(rm w.2.2.2.1 j.toNat,w.2.2.2.2)))))
 else (false,w)
def B8l(w:A5):Bool×A5:=
 if (w.2.2.2.2.1.length:Int)+(w.1.2.length:Int)>60 then (false,w)
 else (true,((((w.1.1.1.1,w.1.1.1.1),w.1.1.2),[]),(w.2.1,(w.2.2.1,(w.2.2.2.1,(w.2.2.2.2.1++w.1.2,w.2.2.2.2.2))))))
def D9Q(a b:Int):Int:=bif decide (b>a) then b else a
def B8m(w:A5)(j:Int):Bool×A5:=
 if 0≤j∧j<(w.2.2.2.2.1.length:Int) then
  if rd .bool w.2.2.1 (rd A9 w.2.2.2.2.1 j).1=true then
   (true,(w.1,(w.2.1.set (rd A9 w.2.2.2.2.1 j).1.toNat (A2o (rd B2 w.2.1 (rd A9 w.2.2.2.2.1 j).1) (rd A9 w.2.2.2.2.1 j).2),(w.2.2.1.set (rd A9 w.2.2.2.2.1 j).1.toNat false,(w.2.2.2.1,(rm w.2.2.2.2.1 j.toNat,w.2.2.2.2.2.set (rd A9 w.2.2.2.2.1 j).1.toNat (D9Q (rd (.int .i64) w.2.2.2.2.2 (rd A9 w.2.2.2.2.1 j).1) (rd A9 w.2.2.2.2.1 j).2.2)))))))
  else (true,(w.1,(w.2.1,(w.2.2.1,(w.2.2.2.1,(rm w.2.2.2.2.1 j.toNat,w.2.2.2.2.2))))))
 else (false,w)
def C9O(w:A5)(i:Int):Bool×A5:=
 if 0≤i∧i<(w.2.1.length:Int) then
  (true,((w.1.1,w.1.2.filter (fun x=>!decide (x.1=i))),(w.2.1.set i.toNat (H2 (rd B2 w.2.1 i)),(w.2.2.1.set i.toNat false,(w.2.2.2.1.filter (fun x=>!decide (x.1=i)),(w.2.2.2.2.1.filter (fun x=>!decide (x.1=i)),w.2.2.2.2.2))))))
 else (false,w)
noncomputable def B2U(w:A5)(ke:List Bool):Bool×A5:=
 match D9 (B6A w.1.1.1 ke) with
 | some (st,true,_)=>(true,((st,[]),(w.2.1.map H2,(List.replicate w.2.1.length false,([],([],w.2.2.2.2.2))))))
 | _=>(false,w)
noncomputable def evF(w:A5)(e:I1):Bool×A5:=
 if e.1=1 then B8k w e.2.1 else if e.1=2 then B2T w e.2.1 else if e.1=3 then B8l w else if e.1=4 then B8m w e.2.1 else if e.1=5 then C9O w e.2.1 else if e.1=6 then B2U w e.2.2 else (false,w)
theorem E16{w:A5}(h:RWw w)(i:Int):RWw (B8k w i).2:=by
 unfold B8k
 split
 ·rename_i hc
  obtain ⟨h0,h1,h2,h3,h4⟩:=hc
  obtain ⟨⟨st,held⟩,cls,busy,asks,tells,best⟩:=w
  simp only at h0 h1 h2 h3 h4 ⊢
  unfold RWw at h ⊢
  simp only at h ⊢
  obtain ⟨i,rfl⟩:∃ j:Nat,i=(j:Int):=⟨i.toNat,by omega⟩
  have hi:i<cls.length:=by omega
  rw [C7 (k:=B2) (xs:=cls) hi] at h4 ⊢
  have hla:=h.la
  obtain ⟨k1,k2,k3⟩:=C4q (h.cl _ (List.getElem_mem hi)) (r:=(H9 cls[i]).1) (d:=(H9 cls[i]).2.1) (by rw [← h4])
  refine {h with lb:=by rw [List.length_set];exact h.lb,la:=by simp only [List.length_append,List.length_cons,List.length_nil];omega,ask:=fun a ha=>?_}
  rcases List.mem_append.1 ha with ha | ha
  ·exact h.ask a ha
  ·rw [List.mem_singleton.1 ha]
   exact ⟨k1,by show (0:Int)≤(i:Int);omega,by show (i:Int)<_;omega,k2,k3⟩
 ·exact h
theorem D9R{w:A5}(h:RWw w)(j:Int):RWw (B2T w j).2:=by
 unfold B2T
 split
 ·rename_i hc
  obtain ⟨h0,h1,h2⟩:=hc
  obtain ⟨⟨st,held⟩,cls,busy,asks,tells,best⟩:=w
  simp only at h0 h1 h2 ⊢
  unfold RWw at h ⊢
  simp only at h ⊢
  obtain ⟨j,rfl⟩:∃ q:Nat,j=(q:Int):=⟨j.toNat,by omega⟩
  have hj:j<asks.length:=by omega
  rw [C7 (k:=F0) (xs:=asks) hj]
  obtain ⟨g1,g2,g3,g4,g5⟩:=h.ask _ (List.getElem_mem hj)
  have hlh:=h.lh
  have hla:=h.la
  rw [Int.toNat_natCast]
  have hrl:=C9L hj
  refine {h with g:=D7M h.g g4,lh:=by simp only [List.length_append,List.length_cons,List.length_nil];omega,hd:=fun x hx=>?_,la:=by omega,ask:=fun x hx=>h.ask x (C4k hx)}
  rcases List.mem_append.1 hx with hx | hx
  ·exact h.hd x hx
  ·rw [List.mem_singleton.1 hx]
   exact ⟨D7N h.g g4,g2,g3⟩
 ·exact h
theorem E17{w:A5}(h:RWw w):RWw (B8l w).2:=by
 unfold B8l
 split
 ·exact h
 ·rename_i hc
  obtain ⟨⟨st,held⟩,cls,busy,asks,tells,best⟩:=w
  simp only at hc ⊢
  unfold RWw at h ⊢
  simp only at h ⊢
  exact {h with g:=D4J h.g,lh:=by simp,hd:=fun x hx=>(by cases hx),l6:=by simp only [List.length_append];omega,tl:=fun x hx=>(List.mem_append.1 hx).elim (h.tl x) (h.hd x)}
theorem C9P{c:A8}(h:cOk c)(r:S3):cOk (A2o c r):=by
 unfold A2o
 split
 ·exact D9P h r
 ·exact h
theorem D62{α:Type}{l:List α}{i:Nat}{v x:α}(h:x∈l.set i v):x∈l∨x=v:=List.mem_or_eq_of_mem_set h
theorem E18{w:A5}(h:RWw w)(j:Int):RWw (B8m w j).2:=by
 unfold B8m
 split
 ·rename_i hc
  obtain ⟨h0,h1⟩:=hc
  obtain ⟨⟨st,held⟩,cls,busy,asks,tells,best⟩:=w
  simp only at h0 h1 ⊢
  obtain ⟨j,rfl⟩:∃ q:Nat,j=(q:Int):=⟨j.toNat,by omega⟩
  have hj:j<tells.length:=by omega
  have hrl:=C9L hj
  have hl6:=h.l6
  simp only at hl6
  rw [C7 (k:=A9) (xs:=tells) hj,Int.toNat_natCast]
  have hh:=h.tl _ (List.getElem_mem hj)
  simp only at hh
  obtain ⟨g1,g2,g3⟩:=hh
  split
  ·unfold RWw at h ⊢
   simp only at h ⊢
   have hlen:(cls.set tells[j].1.toNat (A2o (rd B2 cls tells[j].1) tells[j].2)).length=cls.length:=List.length_set
   refine {h with n6:=by rw [hlen];exact h.n6,lb:=by rw [hlen,List.length_set];exact h.lb,lt:=by rw [hlen,List.length_set];exact h.lt,cl:=fun c hc=>?_,ask:=fun a ha=>by rw [hlen];exact h.ask a ha,hd:=fun a ha=>by rw [hlen];exact h.hd a ha,tl:=fun a ha=>by rw [hlen];exact h.tl a (C4k ha),l6:=by omega}
   rcases D62 hc with hc | hc
   ·exact h.cl c hc
   ·rw [hc]
    refine C9P ?_ _
    obtain ⟨i,hi⟩:∃ i:Nat,tells[j].1=(i:Int):=⟨tells[j].1.toNat,by omega⟩
    rw [hi,C7 (k:=B2) (xs:=cls) (by omega)]
    exact h.cl _ (List.getElem_mem _)
  ·unfold RWw at h ⊢
   simp only at h ⊢
   exact {h with l6:=by omega,tl:=fun a ha=>h.tl a (C4k ha)}
 ·exact h
theorem E2A{w:A5}(h:RWw w)(i:Int):RWw (C9O w i).2:=by
 unfold C9O
 split
 ·rename_i hc
  obtain ⟨h0,h1⟩:=hc
  obtain ⟨⟨st,held⟩,cls,busy,asks,tells,best⟩:=w
  simp only at h0 h1 ⊢
  unfold RWw at h ⊢
  simp only at h ⊢
  obtain ⟨i,rfl⟩:∃ j:Nat,i=(j:Int):=⟨i.toNat,by omega⟩
  have hi:i<cls.length:=by omega
  rw [C7 (k:=B2) (xs:=cls) hi,Int.toNat_natCast]
  have hlen:(cls.set i (H2 cls[i])).length=cls.length:=List.length_set
  have l1:=List.length_filter_le (fun x:B8=>!decide (x.1=(i:Int))) held
  have l2:=List.length_filter_le (fun x:I2=>!decide (x.1=(i:Int))) asks
  have l3:=List.length_filter_le (fun x:B8=>!decide (x.1=(i:Int))) tells
  have k1:=h.lh
  have k2:=h.la
  have k3:=h.l6
  refine {h with n6:=by rw [hlen];exact h.n6,lb:=by rw [hlen,List.length_set];exact h.lb,lt:=by rw [hlen];exact h.lt,cl:=fun c hc=>?_,ask:=fun a ha=>by rw [hlen];exact h.ask a (List.mem_filter.1 ha).1,hd:=fun a ha=>by rw [hlen];exact h.hd a (List.mem_filter.1 ha).1,tl:=fun a ha=>by rw [hlen];exact h.tl a (List.mem_filter.1 ha).1,lh:=Nat.le_trans l1 k1,la:=Nat.le_trans l2 k2,l6:=Nat.le_trans l3 k3}
  rcases D62 hc with hc | hc
  ·exact h.cl c hc
  ·rw [hc];exact C4p (h.cl _ (List.getElem_mem hi))
 ·exact h
theorem D9S{w:A5}(h:RWw w)(ke:List Bool):RWw (B2U w ke).2:=by
 obtain ⟨st,b,o1,o2,o3⟩:=C8L _ (D1g h.g.dk ke)
 unfold B2U
 have o1':D9 (B6A w.1.1.1 ke)=some (st,b,()):=o1
 rw [o1']
 cases b with
 | false=>exact h
 | true=>
  obtain ⟨⟨st0,held⟩,cls,busy,asks,tells,best⟩:=w
  unfold RWw at h ⊢
  simp only at h ⊢
  exact {g:=o3 rfl,lh:=by simp,hd:=fun x hx=>(by cases hx),n6:=by rw [List.length_map];exact h.n6,lb:=by simp,lt:=by rw [List.length_map];exact h.lt,cl:=fun c hc=>by obtain ⟨a,ha,rfl⟩:=List.mem_map.1 hc;exact C4p (h.cl a ha),la:=by simp,ask:=fun x hx=>(by cases hx),l6:=by simp,tl:=fun x hx=>(by cases hx)}
theorem E2b{w:A5}(h:RWw w)(e:I1):RWw (evF w e).2:=by
 unfold evF
 repeat' split
 ·exact E16 h _
 ·exact D9R h _
 ·exact E17 h
 ·exact E18 h _
 ·exact E2A h _
 ·exact D9S h _
 ·exact h
theorem D9T{α:Type}{l:List α}{j:Nat}(h:j<l.length):B2o l (j:Int) ((j:Int)+1)=some (rm l j,()):=by
 unfold B2o
 rw [A0 (show (0:Int)≤(j:Int) by omega),A0 (show (j:Int)<(j:Int)+1 by omega),A0 (show (j:Int)+1≤(l.length:Int) by omega)]
 simp only [cond_true]
 rw [Int.toNat_natCast,show ((j:Int)+1).toNat=j+1 by omega]
 rfl
theorem D9U{α:Type}{l:List α}{j:Nat}:([]++(l.take j).drop 0)++(l.take l.length).drop ((j:Int)+1).toNat=rm l j:=by
 unfold rm
 rw [show ((j:Int)+1).toNat=j+1 by omega,List.drop_zero,List.take_length]
 rfl
theorem D63{w:A5}(h:RWw w)(i:Int):A1r w i=some ((B8k w i).1,(B8k w i).2,())∧Z3 w i=some ((B8k w i).1,(B8k w i).2,()):=by
 obtain ⟨⟨st,held⟩,cls,busy,asks,tells,best⟩:=w
 unfold RWw at h
 simp only at h
 have hn:=h.n6
 have hlb:=h.lb
 have hla:=h.la
 simp only [A1r,A84,Z3,A5y,L8,N2,bO,B8k]
 rw [w64 (n:=(cls.length:Int)-1) (by omega) (by omega)]
 by_cases hr:0≤i∧i≤(cls.length:Int)-1
 ·obtain ⟨i,rfl⟩:∃ j:Nat,i=(j:Int):=⟨i.toNat,by omega⟩
  have hic:i<cls.length:=by omega
  obtain ⟨cl,hcl⟩:∃ x,cls[i]? = some x:=⟨_,List.getElem?_eq_getElem hic⟩
  obtain ⟨b,hb⟩:∃ x,busy[i]? = some x:=⟨_,List.getElem?_eq_getElem (by omega)⟩
  have hg:=h.cl cl (List.mem_of_getElem? hcl)
  rw [A0 hr,A0 (show (0:Int)≤(i:Int) by omega),A0 (show (i:Int)<(busy.length:Int) by omega),A0 (show (i:Int)<(cls.length:Int) by omega),A0O .bool hb,A0O B8i hcl,A0O B2 hcl,B8O cl (B0e hg) hg.2,C94 cl (B0e hg) hg.2]
  simp only [Bool.not_true,cond_false,cond_true]
  cases b with
  | true=>
   rw [if_neg (fun hx=>by have:=hx.2.2.1;cases this)]
   exact ⟨rfl,rfl⟩
  | false=>
   simp only [cond_false]
   by_cases h60:(asks.length:Int)=60
   ·rw [A0 h60,A0 (show (asks.length:Int)≥60 by omega),if_neg (fun hx=>hx.2.2.2.1 h60)]
    exact ⟨rfl,rfl⟩
   ·rw [A3 h60,A3 (show ¬ (asks.length:Int)≥60 by omega)]
    simp only [cond_false,B7,bO]
    generalize H9 cl=q
    obtain ⟨r,dat,ok,u⟩:=q
    cases ok with
    | false=>
     rw [if_neg (fun hx=>by have:=hx.2.2.2.2;cases this)]
     exact ⟨rfl,rfl⟩
    | true=>
     rw [if_pos ⟨by omega,by omega,trivial,h60,rfl⟩]
     simp only [Bool.not_true,cond_false,cond_true]
     rw [A0 (by simp;omega),A0 (by simp;omega)]
     exact ⟨rfl,rfl⟩
 ·rw [A3 hr,if_neg (fun hx=>hr ⟨hx.1,by omega⟩)]
  exact ⟨rfl,rfl⟩
theorem C8M{w:A5}(h:RWw w)(j:Int):A0x w j=some ((B2T w j).1,(B2T w j).2,())∧W4 w j=some ((B2T w j).1,(B2T w j).2,()):=by
 obtain ⟨⟨st,held⟩,cls,busy,asks,tells,best⟩:=w
 unfold RWw at h
 simp only at h
 have hla:=h.la
 have hlh:=h.lh
 obtain ⟨hR,hS,hok,_⟩:=B8e h.g
 simp only [A0x,A6o,W4,A4V,L8,N2,bO,B2T]
 rw [w64 (n:=(asks.length:Int)-1) (by omega) (by omega)]
 by_cases hr:0≤j∧j≤(asks.length:Int)-1
 ·obtain ⟨j,rfl⟩:∃ q:Nat,j=(q:Int):=⟨j.toNat,by omega⟩
  have hjl:j<asks.length:=by omega
  obtain ⟨a,ha⟩:∃ x,asks[j]? = some x:=⟨_,List.getElem?_eq_getElem hjl⟩
  obtain ⟨g1,g2,g3,g4,g5⟩:=h.ask a (List.mem_of_getElem? ha)
  obtain ⟨q1,q2,q3⟩:=E29 g1
  have hid:a.2.1.2.1.size≤maxLen:=by simp only [maxLen];omega
  have ho:-9223372036854775808≤a.2.1.2.2∧a.2.1.2.2≤9223372036854775807:=by omega
  rw [A0 hr,A0 (show (0:Int)≤(j:Int) by omega),A0 (show (j:Int)<(asks.length:Int) by omega),A0 (show (j:Int)≤(asks.length:Int) by omega),A0O C9K ha,A0O F0 ha,w64 (n:=(j:Int)+1) (by omega) (by omega)]
  simp only [Bool.not_true,cond_false,cond_true,A2M,A5Y,C4Z a.2.1 hid,g1,bO]
  by_cases h200:(held.length:Int)=200
  ·rw [A0 h200,A0 (show (held.length:Int)≥200 by omega),if_neg (fun hx=>hx.2.2 h200)]
   exact ⟨rfl,rfl⟩
  ·rw [A3 h200,A3 (show ¬ (held.length:Int)≥200 by omega),if_pos ⟨by omega,by omega,h200⟩]
   have e1:=C8I st a.2.1 a.2.2 hid hR hS hok g4 g5 ho
   have e2:=D1a (st,held) a.2.1 a.2.2 hid hR g4 g5 ho
   simp only [cond_false,B7,e1,e2,bO,I5,D9T hjl,D9U,Int.toNat_natCast]
   rw [A0 (by simp;omega),A0 (by simp;omega),A0 (show (0:Int)≤(j:Int)+1 by omega),A0 (show (j:Int)+1≤(asks.length:Int) by omega),A0 (by simp;omega),A0 (by simp;omega),A0 (by simp;omega),A0 (by simp;omega)]
   exact ⟨rfl,rfl⟩
 ·rw [A3 hr,if_neg (fun hx=>hr ⟨hx.1,by omega⟩)]
  exact ⟨rfl,rfl⟩
theorem D1h{w:A5}(h:RWw w):A1s w=some ((B8l w).1,(B8l w).2,())∧A1m w=some ((B8l w).1,(B8l w).2,()):=by
 obtain ⟨⟨st,held⟩,cls,busy,asks,tells,best⟩:=w
 unfold RWw at h
 simp only at h
 have hl6:=h.l6
 have hlh:=h.lh
 obtain ⟨hR,hS,_⟩:=B8e h.g
 simp only [A1s,A86,A1m,A8y,A0o,A3c,B8l,D3w st.1 hS.1,C4X st.1 hS.1,bO]
 rw [w64 (n:=(tells.length:Int)+(held.length:Int)) (by omega) (by omega)]
 by_cases h60:(tells.length:Int)+(held.length:Int)>60
 ·rw [A0 h60,if_pos h60];exact ⟨rfl,rfl⟩
 ·rw [A3 h60,if_neg h60,A0 (by omega),A0 (by omega)]
  exact ⟨rfl,rfl⟩
theorem D64{a b:Int}(h:b>a):D9Q a b=b:=by unfold D9Q;rw [A0 h];rfl
theorem D65{a b:Int}(h:¬ b>a):D9Q a b=a:=by unfold D9Q;rw [A3 h];rfl
theorem D1i{w:A5}(h:RWw w)(j:Int):A1t w j=some ((B8m w j).1,(B8m w j).2,())∧Z6 w j=some ((B8m w j).1,(B8m w j).2,()):=by
 obtain ⟨⟨st,held⟩,cls,busy,asks,tells,best⟩:=w
 unfold RWw at h
 simp only at h
 have hn:=h.n6
 have hl6:=h.l6
 have hlb:=h.lb
 have hlt:=h.lt
 simp only [A1t,A87,Z6,A61,L8,N2,bO,B8m]
 rw [w64 (n:=(tells.length:Int)-1) (by omega) (by omega)]
 by_cases hr:0≤j∧j≤(tells.length:Int)-1
 ·obtain ⟨j,rfl⟩:∃ q:Nat,j=(q:Int):=⟨j.toNat,by omega⟩
  have hjl:j<tells.length:=by omega
  obtain ⟨a,ha⟩:∃ x,tells[j]? = some x:=⟨_,List.getElem?_eq_getElem hjl⟩
  obtain ⟨g1,g2,g3⟩:=h.tl a (List.mem_of_getElem? ha)
  obtain ⟨who,resp⟩:=a
  simp only at g1 g2 g3
  obtain ⟨i,rfl⟩:∃ q:Nat,who=(q:Int):=⟨who.toNat,by omega⟩
  have hic:i<cls.length:=by omega
  obtain ⟨cl,hcl⟩:∃ x,cls[i]? = some x:=⟨_,List.getElem?_eq_getElem hic⟩
  obtain ⟨b,hb⟩:∃ x,busy[i]? = some x:=⟨_,List.getElem?_eq_getElem (show i<busy.length by omega)⟩
  obtain ⟨bt0,hbt⟩:∃ x,best[i]? = some x:=⟨_,List.getElem?_eq_getElem (show i<best.length by omega)⟩
  have hg:=h.cl cl (List.mem_of_getElem? hcl)
  have hsz:=A0P hg
  rw [A0 hr,A0O A9 ha]
  have hhr:A2o cl resp=if A2m cl=true then cl else hear cl resp:=by
   unfold A2o
   rw [hg.1,g1]
   cases A2m cl<;>rfl
  have hset:∀ {α:Type} {l:List α} {n:Nat} {v:α},l[n]? = some v→l.set n v=l:=fun {α l n v} hv=>by
   obtain ⟨hn,e⟩:=List.getElem?_eq_some_iff.1 hv
   rw [← e];exact List.set_getElem_self hn
  simp only [Bool.not_true,cond_false]
  rw [if_pos (show (0:Int)≤(j:Int)∧(j:Int)<(tells.length:Int) by omega),A0O .bool hb,A0O B2 hcl,A0O (.int .i64) hbt,w64 (n:=(j:Int)+1) (by omega) (by omega),Int.toNat_natCast,Int.toNat_natCast]
  constructor
  ·rw [A0 (show (0:Int)≤(j:Int) by omega),A0 (show (j:Int)<(tells.length:Int) by omega),A0 (show (0:Int)≤(i:Int) by omega),A0 (show (i:Int)<(busy.length:Int) by omega),A0 (show (i:Int)<(cls.length:Int) by omega),A0 (show (i:Int)<(best.length:Int) by omega),C6k cl resp (B0e hg) (by omega)]
   simp only [cond_true,bO,I7,D9T hjl]
   cases b<;>rfl
  ·rw [A0 (show (0:Int)≤(j:Int) by omega),A0 (show (j:Int)<(tells.length:Int) by omega),A0 (show (j:Int)≤(tells.length:Int) by omega),
    A0 (show (0:Int)≤(j:Int)+1 by omega),A0 (show (j:Int)+1≤(tells.length:Int) by omega),A0 (by simp;omega),A0 (by simp;omega),A0 (by simp;omega),A0 (by simp;omega),
    A0 (show (0:Int)≤(i:Int) by omega),A0 (show (i:Int)<(busy.length:Int) by omega),A0 (show (i:Int)<(cls.length:Int) by omega),A0O B8i hcl,B7U,C4N]
   simp only [cond_true,bO,D9U]
   cases b with
   | false=>rfl
   | true=>
    simp only [cond_true,if_true]
    cases hov:A2m cl with
    | true=>
     have e1:A2o cl resp=cl:=by rw [hhr,hov];rfl
     rw [e1,hset hcl]
     simp only [Bool.not_true,cond_false,cond_true,bO]
     rw [A0 (show (i:Int)<(best.length:Int) by omega),A0O (.int .i64) hbt]
     by_cases hgt:resp.2>bt0
     ·rw [A0 hgt,D64 hgt];rfl
     ·rw [A3 hgt,D65 hgt,hset hbt];rfl
    | false=>
     have e1:A2o cl resp=hear cl resp:=by rw [hhr,hov];rfl
     rw [e1]
     simp only [Bool.not_false,cond_false,cond_true,bO]
     rw [A0 (show (i:Int)<(best.length:Int) by omega),A0O (.int .i64) hbt]
     by_cases hgt:resp.2>bt0
     ·rw [A0 hgt,D64 hgt];rfl
     ·rw [A3 hgt,D65 hgt,hset hbt];rfl
 ·rw [A3 hr,if_neg (fun hx=>hr ⟨hx.1,by omega⟩)]
  exact ⟨rfl,rfl⟩
theorem D66{w:A5}{i:Nat}{cl:A8}(hcl:w.2.1[i]? = some cl)(hb:i<w.2.2.1.length)(hg:cOk cl):S8 w (i:Int)=some ((w.1,(w.2.1.set i (H2 cl),(w.2.2.1.set i false,w.2.2.2))),()):=by
 have hi:=C4n hcl
 have:=A0P hg
 simp only [S8,A89]
 rw [A0 (show (0:Int)≤(i:Int) by omega),A0 (show (i:Int)<(w.2.1.length:Int) by omega),A0 (show (i:Int)<(w.2.2.1.length:Int) by omega),A0O B2 hcl,D1b cl (B0e hg) (by omega)]
 rfl
theorem D67{w:A5}(h:RWw w)(i:Int):A2k w i=some ((C9O w i).1,(C9O w i).2,())∧A0k w i=some ((C9O w i).1,(C9O w i).2,()):=by
 obtain ⟨⟨st,held⟩,cls,busy,asks,tells,best⟩:=w
 unfold RWw at h
 simp only at h
 have hn:=h.n6
 have hlb:=h.lb
 have hla:=h.la
 have hl6:=h.l6
 have hlh:=h.lh
 simp only [A2k,A9x,A0k,A7L,L8,N2,bO,C9O]
 rw [w64 (n:=(cls.length:Int)-1) (by omega) (by omega)]
 by_cases hr:0≤i∧i≤(cls.length:Int)-1
 ·obtain ⟨i,rfl⟩:∃ q:Nat,i=(q:Int):=⟨i.toNat,by omega⟩
  have hic:i<cls.length:=by omega
  obtain ⟨cl,hcl⟩:∃ x,cls[i]? = some x:=⟨_,List.getElem?_eq_getElem hic⟩
  have hg:=h.cl cl (List.mem_of_getElem? hcl)
  have hsz:=A0P hg
  rw [A0 hr,C4l (((st,held),(cls,(busy,(asks,(tells,best))))):A5) (i:Int) (by show asks.length≤_;omega),B5i tells _ (by omega),B5i held _ (by omega),A0 (show (0:Int)≤(i:Int) by omega),A0 (show (i:Int)<(cls.length:Int) by omega),A0 (show (i:Int)<(busy.length:Int) by omega),A0O B8i hcl,A0O B2 hcl,A9J cl (B0e hg) (by omega),if_pos ⟨by omega,by omega⟩]
  refine ⟨?_,rfl⟩
  simp only [Bool.not_true,cond_false,G5,G7,B79,bO]
  rw [D66 (w:=(((st,held.filter fun a=>!decide (a.1=(i:Int))),(cls,(busy,(asks.filter fun a=>!decide (a.1=(i:Int)),(tells.filter fun a=>!decide (a.1=(i:Int)),best))))):A5)) hcl (by show i<busy.length;omega) hg]
  rfl
 ·rw [A3 hr,if_neg (fun hx=>hr ⟨hx.1,by omega⟩)]
  exact ⟨rfl,rfl⟩
theorem C8N{w:A5}(h:RWw w)(ke:List Bool):A0z w ke=some ((B2U w ke).1,(B2U w ke).2,())∧W5 w ke=some ((B2U w ke).1,(B2U w ke).2,()):=by
 obtain ⟨⟨st0,held⟩,cls,busy,asks,tells,best⟩:=w
 unfold RWw at h
 simp only at h
 have hn:=h.n6
 have hlb:=h.lb
 obtain ⟨st,b,o1,o2,o3⟩:=C8L _ (D1g h.g.dk ke)
 have o1':D9 (B6A st0.1 ke)=some (st,b,()):=o1
 have o2':Z9 (B6A st0.1 ke)=some (st,b,()):=o2
 simp only [A0z,A6q,W5,A4X,A2P,A5Z,B2U,C0O st0.1 ke h.g.dk,D7D st0.1 ke h.g.dk,o1',o2',bO]
 cases b with
 | false=>exact ⟨rfl,rfl⟩
 | true=>
  simp only [cond_true,Bool.not_true,cond_false,bO]
  have hlm:(cls.map H2).length=cls.length:=List.length_map _
  have hlr:(List.replicate cls.length false).length=busy.length:=by rw [List.length_replicate];omega
  have z1:A21 (cls.map H2) cls cls.length=cls.map H2:=by unfold A21;rw [List.drop_length,List.append_nil,List.take_of_length_le (by simp)]
  have z2:A21 (List.replicate cls.length false) busy cls.length=List.replicate cls.length false:=by unfold A21;rw [← hlb,List.drop_length,List.append_nil,List.take_of_length_le (by simp)]
  constructor
  ·refine D4 (A1M S8 (((st0,held),(cls,(busy,(asks,(tells,best))))):A5)) (fun j=>((j:Int),st.2.1,st.2.2.1,st.1.1,st.1.2,st.2.2.2,([]:List B8),A21 (cls.map H2) cls j,A21 (List.replicate cls.length false) busy j,([]:List I2),([]:List B8),best,())) cls.length
    (true,(((((st.1.1,st.1.2),(st.2.1,(st.2.2.1,st.2.2.2))),[]),(cls.map H2,(List.replicate cls.length false,([],([],best))))):A5),()) (fun j hj=>?_) ?_
   ·have l2:=A8D (l:=List.replicate cls.length false) (x:=busy) hlr j
    have gc:=B4R (l:=cls.map H2) (x:=cls) hlm hj
    rw [List.getElem?_eq_getElem hj] at gc
    have hg:=h.cl _ (List.getElem_mem hj)
    have hrest:=D66 (w:=(((((st.1.1,st.1.2),(st.2.1,(st.2.2.1,st.2.2.2))),[]),(A21 (cls.map H2) cls j,(A21 (List.replicate cls.length false) busy j,([],([],best))))):A5)) gc (by show j<(A21 (List.replicate cls.length false) busy j).length;omega) hg
    simp only [A1M]
    rw [A0 (show (j:Int)<(cls.length:Int) by omega),hrest,w64 (by omega) (by omega)]
    have e1:=A6a (l:=cls.map H2) (x:=cls) hlm (i:=j) (by omega)
    have e2:=A6a (l:=List.replicate cls.length false) (x:=busy) hlr (i:=j) (by rw [List.length_replicate];exact hj)
    rw [List.getElem_map] at e1
    rw [List.getElem_replicate] at e2
    simp only [cond_true,bO]
    rw [e1,e2]
    rfl
   ·simp only [A1M,z1,z2]
    rw [A3 (by omega)]
    rfl
  ·refine D4 (R3 A0h) (fun j=>((j:Int),st.2.1,st.2.2.1,st.2.2.2,([]:List I2),([]:List B8),A21 (cls.map H2) cls j,A21 (List.replicate cls.length false) busy j,best,st.1.1,st.1.2,())) cls.length
    (true,(((((st.1.1,st.1.2),(st.2.1,(st.2.2.1,st.2.2.2))),[]),(cls.map H2,(List.replicate cls.length false,([],([],best))))):A5),()) (fun j hj=>?_) ?_
   ·have l1:=A8D (l:=cls.map H2) (x:=cls) hlm j
    have l2:=A8D (l:=List.replicate cls.length false) (x:=busy) hlr j
    have gc:=B4R (l:=cls.map H2) (x:=cls) hlm hj
    rw [List.getElem?_eq_getElem hj] at gc
    have hg:=h.cl _ (List.getElem_mem hj)
    have hsz:=A0P hg
    simp only [R3,l1,l2]
    rw [A0 (show (j:Int)<(cls.length:Int) by omega),A0 (show (0:Int)≤(j:Int) by omega),A0O B8i gc,A9J _ (B0e hg) (by omega),A0 (show (j:Int)<(busy.length:Int) by omega),w64 (by omega) (by omega)]
    have e1:=A6a (l:=cls.map H2) (x:=cls) hlm (i:=j) (by omega)
    have e2:=A6a (l:=List.replicate cls.length false) (x:=busy) hlr (i:=j) (by rw [List.length_replicate];exact hj)
    rw [List.getElem_map] at e1
    rw [List.getElem_replicate] at e2
    simp only [cond_true,bO,Int.toNat_natCast]
    rw [e1,e2]
    rfl
   ·simp only [R3,z1,z2,List.length_map]
    rw [A3 (by omega)]
    rfl
theorem D9V{w:A5}(h:RWw w)(e:I1):P0 w e=some ((evF w e).1,(evF w e).2,())∧S7 w e=some ((evF w e).1,(evF w e).2,()):=by
 simp only [P0,B2E,S7,A96,evF,(D63 h _).1,(D63 h _).2,(C8M h _).1,(C8M h _).2,(D1h h).1,(D1h h).2,(D1i h _).1,(D1i h _).2,(D67 h _).1,(D67 h _).2,(C8N h _).1,(C8N h _).2,bO]
 by_cases h1:e.1=1
 ·rw [A0 h1,if_pos h1];exact ⟨rfl,rfl⟩
 rw [A3 h1,if_neg h1]
 by_cases h2:e.1=2
 ·rw [A0 h2,if_pos h2];exact ⟨rfl,rfl⟩
 rw [A3 h2,if_neg h2]
 by_cases h3:e.1=3
 ·rw [A0 h3,if_pos h3];exact ⟨rfl,rfl⟩
 rw [A3 h3,if_neg h3]
 by_cases h4:e.1=4
 ·rw [A0 h4,if_pos h4];exact ⟨rfl,rfl⟩
 rw [A3 h4,if_neg h4]
 by_cases h5:e.1=5
 ·rw [A0 h5,if_pos h5];exact ⟨rfl,rfl⟩
 rw [A3 h5,if_neg h5]
 by_cases h6:e.1=6
 ·rw [A0 h6,if_pos h6];exact ⟨rfl,rfl⟩
 rw [A3 h6,if_neg h6]
 exact ⟨rfl,rfl⟩
theorem D7O(a:List Bool)(h:a.length≤1048576):M6 a=some (a,()):=by
 simp only [M6,Z7]
 have e:(bif decide (([]:List Bool).length+a.length≤9223372036854775807) then bif decide ((([]:List Bool).length+a.length)*1≤140737488355328) then some (([]++a),()) else none else none)=some (a,()):=by
  rw [A0 (by simp;omega),A0 (by simp;omega)]
  simp
 rw [e]
 cases a with
 | nil=>simp [B4D]
 | cons x xs=>simp
theorem D7P(a:List Int)(h:a.length≤1048576):O8 a=some (a,()):=by
 simp only [O8,A0l]
 have e:(bif decide (([]:List Int).length+a.length≤9223372036854775807) then bif decide ((([]:List Int).length+a.length)*8≤140737488355328) then some (([]++a),()) else none else none)=some (a,()):=by
  rw [A0 (by simp;omega),A0 (by simp;omega)]
  simp
 rw [e]
 cases a with
 | nil=>simp [B4D]
 | cons x xs=>simp
structure CpS (w:A5):Prop where
 sv:D9B w.1
 cl:w.2.1.length≤1048576
 fi:∀ c∈w.2.1,c.2.1.length≤1048576
 bu:w.2.2.1.length≤1048576
 as_:w.2.2.2.1.length≤1048576
 da:∀ a∈w.2.2.2.1,a.2.2.length≤1048576
 te:w.2.2.2.2.1.length≤1048576
 be_:w.2.2.2.2.2.length≤1048576
theorem D9W{w:A5}(h:RWw w):CpS w:=by
 obtain ⟨⟨st,held⟩,cls,busy,asks,tells,best⟩:=w
 unfold RWw at h
 simp only at h
 obtain ⟨hR,hS,_⟩:=B8e h.g
 have hn:=h.n6
 have hlb:=h.lb
 have hlt:=h.lt
 have h60:=h.la
 have h6:=h.l6
 have h200:=h.lh
 exact ⟨⟨hS,by show held.length≤_;omega⟩,by show cls.length≤_;omega,fun c hc=>by have:=A0P (h.cl c hc);omega,by show busy.length≤_;omega,by show asks.length≤_;omega,fun a ha=>(h.ask a ha).2.2.2.2,by show tells.length≤_;omega,by show best.length≤_;omega⟩
theorem B4T{w:A5}(h:CpS w):Z8 w=some (w,()):=by
 obtain ⟨⟨⟨⟨now,sure⟩,ep,nx,ups⟩,held⟩,cls,busy,asks,tells,best⟩:=w
 obtain ⟨h1,h2,h3,h4,h5,h6,h7,h8⟩:=h
 simp only at h1 h2 h3 h4 h5 h6 h7 h8
 simp only [Z8,A9v,C2V _ h1,D7O _ h4,C8B _ h7,D7P _ h8,bO]
 have k1:B9 (A0u L2 (((((now,sure),(ep,(nx,ups))),held),(cls,(busy,(asks,(tells,best))))):A5)) (0,ep,nx,now,sure,ups,held,busy,tells,best,[],())=some (ep,nx,now,sure,ups,held,busy,tells,best,cls,()):=by
  have key:=D4 (A0u L2 (((((now,sure),(ep,(nx,ups))),held),(cls,(busy,(asks,(tells,best))))):A5)) (fun i=>((i:Int),ep,nx,now,sure,ups,held,busy,tells,best,cls.take i,())) cls.length (ep,nx,now,sure,ups,held,busy,tells,best,cls,()) (fun i hi=>?_) ?_
  ·simpa using key
  ·have g1:(i:Int)<(cls.length:Int):=by omega
   have g2:(0:Int)≤(i:Int):=by omega
   have hf:=h3 _ (List.getElem_mem hi)
   simp only [A0u,A0 g1,A0 g2,cond_true]
   rw [C7 (k:=B2) (xs:=cls) hi,A9z _ (by omega)]
   simp only [bO]
   rw [A0 (by simp;omega),A0 (by simp;omega),w64 (by omega) (by omega),List.take_succ_eq_append_getElem hi]
   rfl
  ·simp [A0u]
 rw [k1]
 simp only [bO]
 have key:=D4 (A3O C4 (((((now,sure),(ep,(nx,ups))),held),(cls,(busy,(asks,(tells,best))))):A5)) (fun i=>((i:Int),ep,nx,now,sure,ups,held,busy,tells,best,cls,asks.take i,())) asks.length ((((((now,sure),(ep,(nx,ups))),held),(cls,(busy,(asks,(tells,best))))):A5),()) (fun i hi=>?_) ?_
 ·simpa using key
 ·have g1:(i:Int)<(asks.length:Int):=by omega
  have g2:(0:Int)≤(i:Int):=by omega
  have hf:=h6 _ (List.getElem_mem hi)
  simp only [A3O,A0 g1,A0 g2,cond_true]
  rw [C7 (k:=F0) (xs:=asks) hi,A1C _ (by omega)]
  simp only [bO]
  rw [A0 (by simp;omega),A0 (by simp;omega),w64 (by omega) (by omega),List.take_succ_eq_append_getElem hi]
  rfl
 ·simp [A3O]
theorem C4r{w:A5}(h:CpS w):A6P w=some (w,()):=by
 obtain ⟨⟨⟨⟨now,sure⟩,ep,nx,ups⟩,held⟩,cls,busy,asks,tells,best⟩:=w
 obtain ⟨h1,h2,h3,h4,h5,h6,h7,h8⟩:=h
 simp only at h1 h2 h3 h4 h5 h6 h7 h8
 simp only [A6P,B49,C2W _ h1,bO,List.nil_append,List.length_nil,Nat.zero_add]
 rw [A0 (show busy.length≤9223372036854775807 by omega),A0 (show busy.length*1≤140737488355328 by omega),A0 (show tells.length≤9223372036854775807 by omega),A0 (show tells.length*24≤140737488355328 by omega),A0 (show best.length≤9223372036854775807 by omega),A0 (show best.length*8≤140737488355328 by omega)]
 simp only [cond_true]
 have k1:B9 (A2h M0 (((((now,sure),(ep,(nx,ups))),held),(cls,(busy,(asks,(tells,best))))):A5)) (0,ep,nx,busy,tells,best,now,sure,ups,held,[],())=some (ep,nx,busy,tells,best,now,sure,ups,held,cls,()):=by
  have key:=D4 (A2h M0 (((((now,sure),(ep,(nx,ups))),held),(cls,(busy,(asks,(tells,best))))):A5)) (fun i=>((i:Int),ep,nx,busy,tells,best,now,sure,ups,held,cls.take i,())) cls.length (ep,nx,busy,tells,best,now,sure,ups,held,cls,()) (fun i hi=>?_) ?_
  ·simpa using key
  ·have g1:(i:Int)<(cls.length:Int):=by omega
   have g2:(0:Int)≤(i:Int):=by omega
   have hf:=h3 _ (List.getElem_mem hi)
   simp only [A2h,A0 g1,A0 g2,cond_true]
   rw [C7 (k:=B2) (xs:=cls) hi,B7V _ (by omega)]
   simp only [bO]
   rw [A0 (by simp;omega),A0 (by simp;omega),w64 (by omega) (by omega),List.take_succ_eq_append_getElem hi]
   rfl
  ·simp [A2h]
 rw [k1]
 simp only [bO]
 have key:=D4 (A62 (((((now,sure),(ep,(nx,ups))),held),(cls,(busy,(asks,(tells,best))))):A5)) (fun i=>((i:Int),ep,nx,busy,tells,best,now,sure,ups,held,cls,asks.take i,())) asks.length ((((((now,sure),(ep,(nx,ups))),held),(cls,(busy,(asks,(tells,best))))):A5),()) (fun i hi=>?_) ?_
 ·simpa using key
 ·have g1:(i:Int)<(asks.length:Int):=by omega
  have g2:(0:Int)≤(i:Int):=by omega
  have hf:=h6 _ (List.getElem_mem hi)
  simp only [A62,A0 g1,A0 g2,cond_true]
  rw [C7 (k:=F0) (xs:=asks) hi,A0 (by simp;omega),A0 (by simp;omega),A0 (by simp;omega),A0 (by simp;omega),w64 (by omega) (by omega),List.take_succ_eq_append_getElem hi]
  rfl
 ·simp [A62]
noncomputable def A8F(w:A5)(l:List I1):A5:=l.foldl (fun w e=>(evF w e).2) w
theorem C8O(w:A5)(l:List I1)(e:I1):A8F w (l ++ [e])=(evF (A8F w l) e).2:=by
 unfold A8F
 rw [List.foldl_append]
 rfl
theorem D68:∀ (l:List I1) {w:A5},RWw w→RWw (A8F w l)
 | [],w,h=>h
 | e::l,w,h=>D68 l (E2b h e)
@[reducible] def tI(w:A5):Int×Int×List ByteArray×List ByteArray×List TUp×List B8×List A8×List Bool×List I2×List B8×List Int×Unit:=
 (w.1.1.2.1,w.1.1.2.2.1,w.1.1.1.1,w.1.1.1.2,w.1.1.2.2.2,w.1.2,w.2.1,w.2.2.1,w.2.2.2.1,w.2.2.2.2.1,w.2.2.2.2.2,())
@[reducible] def tS(w:A5):List ByteArray×List ByteArray×Int×Int×List TUp×List B8×List A8×List Bool×List I2×List B8×List Int×Unit:=
 (w.1.1.1.1,w.1.1.1.2,w.1.1.2.1,w.1.1.2.2.1,w.1.1.2.2.2,w.1.2,w.2.1,w.2.2.1,w.2.2.2.1,w.2.2.2.2.1,w.2.2.2.2.2,())
theorem D1j(l:List I1):(l.take (bif decide (200<(l.length:Int)) then 200 else (l.length:Int)).toNat).drop 0=l.take 200:=by
 rw [List.drop_zero]
 by_cases h:200<(l.length:Int)
 ·rw [A0 h];rfl
 ·rw [A3 h]
  simp only [cond_false,Int.toNat_natCast]
  rw [List.take_length,List.take_of_length_le (by omega)]
theorem D1k{w:A5}(hw:RWw w)(l:List I1)(j:Nat)(hj:j<(l.take 200).length):A5a P0 l ((j:Int),tI w)=some (.inl (((j+1:Nat):Int),tI (evF w (l.take 200)[j]).2)):=by
 have hlen:(l.take 200).length≤200:=by rw [List.length_take];omega
 have e:=(D9V hw (l.take 200)[j]).1
 have e':P0 ((((w.1.1.1.1,w.1.1.1.2),(w.1.1.2.1,(w.1.1.2.2.1,w.1.1.2.2.2))),w.1.2),(w.2.1,(w.2.2.1,(w.2.2.2.1,(w.2.2.2.2.1,w.2.2.2.2.2))))) (l.take 200)[j]=_:=e
 simp only [A5a,D1j]
 rw [A0 (show (j:Int)<((l.take 200).length:Int) by omega),A0 (show (0:Int)≤(j:Int) by omega),C7 (k:=B3q) (xs:=l.take 200) hj,w64 (n:=(j:Int)+1) (by omega) (by omega),e']
 rfl
theorem D1l{w:A5}(h:RWw w)(l:List I1):B9 (A5a P0 l) (0,tI w)=some (A8F w (l.take 200),()):=by
 have key:=D4 (A5a P0 l) (fun j=>((j:Int),tI (A8F w ((l.take 200).take j)))) (l.take 200).length (A8F w (l.take 200),()) (fun j hj=>?_) ?_
 ·exact key
 ·have e:=D1k (D68 ((l.take 200).take j) h) l j hj
  rw [← C8O,← List.take_succ_eq_append_getElem hj] at e
  exact e
 ·simp only [A5a,D1j,List.take_length]
  rw [A3 (by omega)]
  rfl
theorem D1m{k:Nat}{w:A5}(h:WIw k w):RWw w:=by
 obtain ⟨c,uc,h⟩:=h
 have hold:∀ {l:List B8} {us:List TUp},(∀ h'∈l,∃ (i:Nat) (cl:A8),w.2.1[i]? = some cl∧h'.1=(i:Int)∧Fits cl h'.2∧Told cl h'.2 us)→∀ h'∈l,hOk w.2.1.length h':=fun hh h' hm=>by
  obtain ⟨i,cl,g1,g2,g3,_⟩:=hh h' hm
  have:=C4n g1
  exact ⟨C9M (h.cl i cl g1) g3,by omega,by omega⟩
 have hcl:∀ (i:Nat) (cl:A8),w.2.1[i]? = some cl→cOk cl:=fun i cl g=>⟨(h.cl i cl g).ok,(h.cl i cl g).byt⟩
 exact {
  g:=h.dur.g
  lh:=h.lh
  hd:=hold h.hld
  n6:=h.n6
  lb:=h.lb
  lt:=h.lt
  cl:=fun cl hm=>by
   obtain ⟨i,hi,rfl⟩:=List.getElem_of_mem hm
   exact hcl i _ (List.getElem?_eq_getElem hi)
  la:=h.la
  ask:=fun a ha=>by
   obtain ⟨i,cl,g1,g2,g3⟩:=h.ask a ha
   have:=C4n g1
   obtain ⟨k1,k2,k3⟩:=C4q (hcl i cl g1) g3
   exact ⟨k1,by omega,by omega,k2,k3⟩
  l6:=h.l6
  tl:=hold h.tell}
theorem E19{w:A5}{P:Option (Bool×A5×Unit)}{b:Bool}{v u:A5}{c:Bool}(h1:P=some (b,v,()))(h2:P=some (c,u,())):u=v:=by
 rw [h1] at h2
 injection h2 with h2;injection h2 with _ h2;injection h2 with h2
 exact h2.symm
theorem E2c{k:Nat}(hk:k≤9999){w:A5}(h:WIw k w)(e:I1)(he:e.2.1<9223372036854775807):WIw (k+1) (evF w e).2:=by
 obtain ⟨b,w',q,hw⟩:=D4D k hk w h e he
 rw [E19 (w:=w) q (D9V (D1m h) e).2]
 exact hw
theorem C9Q{w:A5}:∀ (l:List I1) {k:Nat},k+l.length≤9999→WIw k w→(∀ e∈l,e.2.1<9223372036854775807)→WIw (k+l.length) (A8F w l)
 | [],k,_,h,_=>h
 | e::l,k,hk,h,he=>by
  have hk':k+(l.length+1)≤9999:=hk
  have h1:=E2c (by omega) h e (he e List.mem_cons_self)
  have h2:=C9Q (w:=(evF w e).2) l (k:=k+1) (by omega) h1 fun x hx=>he x (List.mem_cons_of_mem _ hx)
  have:k+1+l.length=k+(e::l).length:=by simp only [List.length_cons];omega
  rw [this] at h2
  exact h2
theorem E2B(w:A5)(e:I1):(evF w e).2.2.1.length=w.2.1.length:=by
 unfold evF B8k B2T B8l B8m C9O B2U
 repeat' split
 all_goals first | rfl | exact List.length_set | exact List.length_map _
theorem D9X(w:A5):∀ l:List I1,(A8F w l).2.1.length=w.2.1.length:=fun l=>by
 unfold A8F
 induction l generalizing w with
 | nil=>rfl
 | cons e l ih=>exact (ih _).trans (E2B w e)
theorem D7Q{k:Nat}{w:A5}(h:WIw k w):B3w w=some (0,()):=by
 obtain ⟨o1,o2⟩:=B7e h
 obtain ⟨i1,i2,i3,i4⟩:=D9M h
 simp only [B3w,C4D,o2,i1,i2,i3,i4,bO,Bool.not_true]
 rfl
def D69(l:List I1):Prop:=∀ e∈l,e.2.1<9223372036854775807
theorem D1n(a:List Int)(h:a.length≤1048576):∃ w l,M8 a=some (w,l,())∧WIw 1000 w∧D69 l∧l.length≤30:=by
 obtain ⟨c,q,hc⟩:=D97 a h
 obtain ⟨w,c1,q1,hw,hc1⟩:=D4I c 2 hc (by omega)
 obtain ⟨s,qs,hs⟩:∃ s,A81 a 30=some (s,())∧3≤s∧s≤30:=by
  have ht:(a.length:Int).tdiv 12=(a.length:Int) / 12:=Int.tdiv_eq_ediv_of_nonneg (by omega)
  simp only [A81,B7S,ht]
  rw [w64 (n:=(a.length:Int) / 12) (by omega) (by omega),w64 (by omega) (by omega)]
  by_cases h1:3+(a.length:Int) / 12>30
  ·rw [A0 h1];exact ⟨_,rfl,by omega⟩
  ·rw [A3 h1];exact ⟨_,rfl,by omega⟩
 obtain ⟨k,c2,q2,hc2,k0,k1⟩:=A5e c1 s hc1 (by omega)
 have hcp:=C4r (D9W (D1m hw))
 simp only [M8,A01,q,q1,hcp,qs,q2,bO]
 obtain ⟨z,e,hz⟩:=V5 (W7 S7 F8) (fun l=>l.1.toNat)
  (fun l=>0≤l.1∧l.1+(List.length l.2.2.2.2.2.2.2.2.2.2.2.2.2.2.2.1:Int)≤30∧WIw (1000+List.length l.2.2.2.2.2.2.2.2.2.2.2.2.2.2.2.1) ((((l.2.1,l.2.2.1),(l.2.2.2.1,(l.2.2.2.2.1,l.2.2.2.2.2.1))),l.2.2.2.2.2.2.2.2.2.1),(l.2.2.2.2.2.2.2.2.2.2.1,(l.2.2.2.2.2.2.2.2.2.2.2.1,(l.2.2.2.2.2.2.2.2.2.2.2.2.1,(l.2.2.2.2.2.2.2.2.2.2.2.2.2.1,l.2.2.2.2.2.2.2.2.2.2.2.2.2.2.1)))))∧Cur (l.2.2.2.2.2.2.1,(l.2.2.2.2.2.2.2.1,l.2.2.2.2.2.2.2.2.1))∧D69 l.2.2.2.2.2.2.2.2.2.2.2.2.2.2.2.1) (fun z=>D69 z.1∧z.1.length≤30) (fun l hl=>by
   obtain ⟨g0,gn,g1,g2,g3⟩:=hl
   obtain ⟨w1,w2,w3⟩:=D61 g1
   simp only [W7]
   by_cases hi:l.1>0
   ·obtain ⟨ev,c',e,hc',hev⟩:=C1a _ _ g2 (Nat.le_trans w1 (by omega)) (Nat.le_trans w2 (by omega)) (Nat.le_trans w3 (by omega))
    obtain ⟨b,w',q,hw'⟩:=D4D _ (by omega) _ g1 ev hev
    rw [A0 hi,e]
    simp only [cond_true,bO]
    rw [q]
    simp only [bO]
    rw [A0 (by simp;omega),A0 (by simp;omega),w64 (by omega) (by omega)]
    refine .inl ⟨_,rfl,⟨by simp only;omega,by simp only [List.length_append,List.length_cons,List.length_nil];omega,?_,hc',?_⟩,by simp only;omega⟩
    ·simp only [List.length_append,List.length_cons,List.length_nil]
     exact hw'
    ·intro x hx
     rcases List.mem_append.1 hx with hx | hx
     ·exact g3 x hx
     ·rw [List.mem_singleton.1 hx];exact hev
   ·rw [A3 hi]
    exact .inr ⟨_,rfl,g3,by simp only;omega⟩) (k,w.1.1.1.1,w.1.1.1.2,w.1.1.2.1,w.1.1.2.2.1,w.1.1.2.2.2,c2.1,c2.2.1,c2.2.2,w.1.2,w.2.1,w.2.2.1,w.2.2.2.1,w.2.2.2.2.1,w.2.2.2.2.2,[],()) ⟨k0,by simp;omega,hw,hc2,fun x hx=>by (cases hx)⟩
 rw [e]
 exact ⟨w,z.1,rfl,hw,hz.1,hz.2⟩
theorem E1A{k:Nat}{w:A5}(h:WIw k w)(e:I1):B2F w e=some ((evF w e).2,(evF w e).1,()):=by
 have hr:=D1m h
 simp only [B2F,D3m,B4T (D9W hr),(B7e h).2,(D9V hr e).1,bO]
 rfl
theorem D7R{k:Nat}{w:A5}(h:WIw k w)(l:List I1)(hl:l.length≤200):B4B w l=some (A8F w l,()):=by
 have hr:=D1m h
 have e:=D1l hr l
 rw [List.take_of_length_le hl] at e
 simp only [B4B,C4G,B4T (D9W hr),(B7e h).2,bO]
 rw [A3 (show ¬ 200<(l.length:Int) by omega)]
 simp only [Bool.not_true,cond_false]
 rw [A0 (show (0:Int)≤(l.length:Int) by omega),A0 (show (l.length:Int)≤(l.length:Int) by omega)]
 exact e
theorem D1o{k:Nat}{v:A5}(hv:WIw k v)(w0:A5)(l:List I1)(j:Nat)(hj:j<l.length)(hl:l.length≤30):A0K B2F (w0,l,()) ((j:Int),tS v)=some (.inl (((j+1:Nat):Int),tS (evF v l[j]).2)):=by
 have e:=E1A hv l[j]
 have e':B2F ((((v.1.1.1.1,v.1.1.1.2),(v.1.1.2.1,(v.1.1.2.2.1,v.1.1.2.2.2))),v.1.2),(v.2.1,(v.2.2.1,(v.2.2.2.1,(v.2.2.2.2.1,v.2.2.2.2.2))))) l[j]=_:=e
 simp only [A0K]
 rw [A0 (show (j:Int)<(l.length:Int) by omega),A0 (show (0:Int)≤(j:Int) by omega),C7 (k:=(.pair (.int .i64) (.pair (.int .i64) (.rs 4 .bool)))) (xs:=l) hj,w64 (n:=(j:Int)+1) (by omega) (by omega)]
 simp only [cond_true]
 rw [e']
 rfl
theorem D1p{w:A5}(h:WIw 1000 w)(l:List I1)(hl:l.length≤30)(he:D69 l):B9 (A0K B2F (w,l,())) (0,tS w)=some (tS (A8F w l)):=by
 have key:=D4 (A0K B2F (w,l,())) (fun j=>((j:Int),tS (A8F w (l.take j)))) l.length (tS (A8F w l)) (fun j hj=>?_) ?_
 ·exact key
 ·have hv:=C9Q (l.take j) (by rw [List.length_take];omega) h fun e hm=>he e (List.mem_of_mem_take hm)
  have e:=D1o hv w l j hj hl
  rw [← C8O,← List.take_succ_eq_append_getElem hj] at e
  exact e
 ·simp only [A0K,List.take_length]
  rw [A3 (by omega)]
  rfl
theorem C9R(v:A5)(hn:v.2.1.length≤6)(hb:v.2.2.1.length=v.2.1.length):B9 (A1u (v,()) (tS v)) (0,())=some (.inl ()):=by
 have key:=D4 (A1u (v,()) (tS v)) (fun j=>((j:Int),())) v.2.1.length (.inl ()) (fun j hj=>?_) ?_
 ·exact key
 ·have r1:=C7 (k:=B2) (xs:=v.2.1) hj
  have r2:=C7 (k:=B8i) (xs:=v.2.1) hj
  simp only [A1u]
  rw [r1,r2,A0 (show (j:Int)<(v.2.1.length:Int) by omega),A0 (show (0:Int)≤(j:Int) by omega),A0 (show (j:Int)<(v.2.2.1.length:Int) by omega),w64 (n:=(j:Int)+1) (by omega) (by omega)]
  simp
 ·simp only [A1u]
  rw [A3 (by omega)]
  rfl
theorem exactPlayed(a:List Int):B2H a=some (true,()):=by
 simp only [B2H,B2G,C3P,C8z,bO]
 by_cases ha:(a.length:Int)>1048576
 ·rw [A0 ha];rfl
 rw [A3 ha]
 obtain ⟨w,l,q,hw,he,hl⟩:=D1n a (by omega)
 have h2:=C9Q l (by omega) hw he
 have r1:=D7R hw l (by omega)
 have r2:=D1p hw l hl he
 have hlen:=D9X w l
 have hr:=D1m h2
 have hU:=B8b hr.g
 have hn:=hr.n6
 have hb:=hr.lb
 have k4:=D7Q h2
 simp only [cond_false,q,r1,bO]
 rw [r2]
 generalize A8F w l=v at hlen hU hn hb k4 ⊢
 simp only [C9G v.1.1.2.2.2 hU,k4,C9R v hn hb,bO]
 rw [A0 (show (v.2.1.length:Int)=(w.2.1.length:Int) by omega)]
 simp [B7]
end Go.Proofs.YtpdcljonclhhpaaGreat.Ev
