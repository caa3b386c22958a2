/- What the plain functions of the program and of the reference answer: laws of plain data. -/
import Derived.Test.YtpdcljonclhhpaaGreatXSafeDa
set_option linter.unusedVariables false
set_option linter.unusedSimpArgs false
namespace Go.Proofs.YtpdcljonclhhpaaGreat.Ev
theorem C6s(last:Int)(i:Nat)(l:List ByteArray)(j:Nat):H9 last i (l.take j)=(H9 last i l).take j:=by
 induction l generalizing last i j with
 | nil=>simp [H9]
 | cons s l ih=>
  cases j with
  | zero=>simp [H9]
  | succ j=>
   simp only [List.take_succ_cons,B0L,ih]
   cases A1O last i s<;>simp
theorem C4G(last:Int)(j:Nat)(l:List ByteArray)(i:Nat)(hi:i<(H9 last j l).length):∃ s,l[i]? = some s∧C7 s=((H9 last j l)[i],true,()):=by
 induction l generalizing last j i with
 | nil=>simp [H9] at hi
 | cons s l ih=>
  have e:=B0L last j s l
  cases hg:A1O last j s with
  | false=>rw [hg] at e;rw [e] at hi;simp at hi
  | true=>
   rw [hg] at e
   simp only [cond_true] at e
   cases i with
   | zero=>
    refine ⟨s,rfl,?_⟩
    simp only [A1O,Bool.and_eq_true] at hg
    have h0:(H9 last j (s::l))[0]=(C7 s).1:=by simp only [e];rfl
    rw [h0]
    have:=hg.1.1
    generalize C7 s=g at this
    obtain ⟨a,b,u⟩:=g
    simp only at this
    rw [this]
   | succ i=>
    have hi2:i<(H9 (C7 s).1.1 (j+1) l).length:=by rw [e] at hi;simpa using hi
    obtain ⟨s',h1,h2⟩:=ih _ _ i hi2
    refine ⟨s',h1,?_⟩
    rw [h2]
    congr 1
    simp only [e,List.getElem_cons_succ]
theorem B0N{now x:List ByteArray}{j:Nat}(hj:j≤(B7 now).length)(hx:x.take j=now.take j)(hlen:x.length=now.length):B7 x=(B7 now).take j++H9 (A0c 0 ((B7 now).take j)) j (x.drop j):=by
 have hll:=A6K 0 0 now
 have hs:H9 0 0 (x.take j)=(B7 now).take j:=by rw [hx,C6s];rfl
 have h1:(H9 0 0 (x.take j)).length=(x.take j).length:=by
  rw [hs,List.length_take,List.length_take]
  simp only [B7] at hj ⊢
  omega
 have:=C4D 0 0 (x.take j) (x.drop j) h1
 rw [List.take_append_drop,hs] at this
 have hj2:(x.take j).length=j:=by rw [List.length_take];simp only [B7] at hj;omega
 rw [hj2,Nat.zero_add] at this
 exact this
theorem D4k{now:List ByteArray}{j:Nat}(hj:(B7 now).length=j):H9 (A0c 0 (B7 now)) j (now.drop j) = []:=by
 have h:=B0N (now:=now) (x:=now) (j:=j) (by omega) rfl rfl
 rw [← hj,List.take_length] at h
 rw [← hj]
 have h2:B7 now ++ []=B7 now++H9 (A0c 0 (B7 now)) (B7 now).length (now.drop (B7 now).length):=by rw [List.append_nil];exact h
 exact (List.append_cancel_left h2).symm
theorem D1R{st:A5}(h:GoodS st):∀ s∈st.1.1,(C7 s).2.1=true→(C7 s).1.1≤st.2.1:=by
 intro s hs hr
 obtain ⟨i,hi,rfl⟩:=List.getElem_of_mem hs
 by_cases hl:i<(B7 st.1.1).length
 ·obtain ⟨s',h1,h2⟩:=C4G 0 0 st.1.1 i hl
  rw [List.getElem?_eq_getElem hi] at h1
  injection h1 with h1
  rw [h1,h2]
  have:=(D4j 0 0 st.1.1).2 _ (List.getElem_mem hl)
  exact Int.le_trans this h.le
 ·have hm:st.1.1[i]∈st.1.1.drop (B7 st.1.1).length:=by
   rw [List.mem_iff_getElem]
   refine ⟨i-(B7 st.1.1).length,by rw [List.length_drop];omega,?_⟩
   rw [List.getElem_drop]
   congr 1
   omega
  have:=List.all_eq_true.1 h.tl _ hm
  simp only [A21,hr,Bool.true_and,Bool.not_eq_true',decide_eq_false_iff_not] at this
  omega
structure Dur (st:A5) (c:Nat):Prop where
 g:GoodS st
 le:c≤(B7 st.1.1).length
 out:∀ i,¬ (c≤i∧i<(B7 st.1.1).length)→st.1.2[i]? = st.1.1[i]?
 inn:∀ i s,c≤i→i<(B7 st.1.1).length→st.1.2[i]? = some s→A21 st.2.1 s=false
 ep:∀ i (h:i<(B7 st.1.1).length),c≤i→(B7 st.1.1)[i].1=st.2.1
 sc:B7 st.1.2=(B7 st.1.1).take c
theorem C6t{e:Int}{s:ByteArray}(h:A21 e s=false)(i:Nat):A1O e i s=false:=by
 simp only [A21,Bool.and_eq_false_iff,decide_eq_false_iff_not] at h
 simp only [A1O]
 rcases h with h | h
 ·rw [h];rfl
 ·rw [A0 (show (C7 s).1.1<e by omega)];simp
theorem C1I{L:List F7}{e:Int}{j:Nat}(h0:0<j)(hj:j≤L.length):A0c e (L.take j)=(L[j-1]'(by omega)).1:=by
 induction L generalizing e j with
 | nil=>simp at hj;omega
 | cons r L ih=>
  cases j with
  | zero=>omega
  | succ j=>
   simp only [List.take_succ_cons,A0c]
   cases j with
   | zero=>simp [A0c]
   | succ j=>
    rw [ih (by omega) (by simpa using hj)]
    simp
theorem B2T{st:A5}{c:Nat}(h:Dur st c)(k:List Bool){i:Nat}(hi:i<st.1.1.length)(hk:k.getD i false=true∨¬ (c≤i∧i<(B7 st.1.1).length)):(Q2 st.1.1 st.1.2 k)[i]? = st.1.1[i]?:=by
 obtain ⟨_,k2,_⟩:=A4r h.g.dk
 rw [B5u k2 hi]
 split
 ·rfl
 ·rename_i hn
  rcases hk with hk | hk
  ·exact absurd hk hn
  ·exact h.out i hk
theorem D2a{α:Type}{x now:List α}{j:Nat}(hx:x.take j=now.take j)(hj:j<now.length)(hlen:x.length=now.length)(he:x[j]? = now[j]?):x.take (j+1)=now.take (j+1):=by
 rw [List.take_succ_eq_append_getElem (show j<x.length by omega),List.take_succ_eq_append_getElem hj,hx]
 rw [List.getElem?_eq_getElem (show j<x.length by omega),List.getElem?_eq_getElem hj] at he
 injection he with he
 rw [he]
theorem D4l{st:A5}{c:Nat}(h:Dur st c)(k:List Bool):∃ m,c≤m∧m≤(B7 st.1.1).length∧B7 (Q2 st.1.1 st.1.2 k)=(B7 st.1.1).take m:=by
 obtain ⟨_,k2,k3,_⟩:=A4r h.g.dk
 have hml:=B5t st.1.1 st.1.2 k
 have hll:(B7 st.1.1).length≤st.1.1.length:=A6K 0 0 st.1.1
 have go:∀ (n j:Nat),j+n=(B7 st.1.1).length→c≤j→(Q2 st.1.1 st.1.2 k).take j=st.1.1.take j→∃ m,c≤m∧m≤(B7 st.1.1).length∧B7 (Q2 st.1.1 st.1.2 k)=(B7 st.1.1).take m:=by
  intro n
  induction n with
  | zero=>
   intro j hj hc hx
   rw [Nat.add_zero] at hj
   refine ⟨j,hc,by omega,?_⟩
   rw [B0N (by omega) hx hml,hj,List.take_length]
   have hdrop:(Q2 st.1.1 st.1.2 k).drop (B7 st.1.1).length=st.1.1.drop (B7 st.1.1).length:=by
    refine List.ext_getElem? fun i=>?_
    rw [List.getElem?_drop,List.getElem?_drop]
    by_cases hi:(B7 st.1.1).length+i<st.1.1.length
    ·exact B2T h k hi (.inr (by omega))
    ·rw [List.getElem?_eq_none (by omega),List.getElem?_eq_none (by omega)]
   rw [hdrop,D4k rfl,List.append_nil]
  | succ n ih=>
   intro j hj hc hx
   have hjl:j<st.1.1.length:=by omega
   cases hk:k.getD j false with
   | true=>exact ih (j+1) (by omega) (by omega) (D2a hx hjl hml (B2T h k hjl (.inl hk)))
   | false=>
    refine ⟨j,hc,by omega,?_⟩
    rw [B0N (by omega) hx hml]
    have hs:H9 (A0c 0 ((B7 st.1.1).take j)) j ((Q2 st.1.1 st.1.2 k).drop j) = []:=by
     refine B4w _ _ _ fun s hs=>?_
     have hs2:(Q2 st.1.1 st.1.2 k)[j]? = some s:=by
      rw [List.head?_eq_getElem?,List.getElem?_drop,Nat.add_zero] at hs
      exact hs
     rw [B5u k2 hjl,hk,if_neg (by simp)] at hs2
     by_cases hjc:j=c
     ·have hsp:=B0N (now:=st.1.2) (x:=st.1.2) (j:=c) (by rw [h.sc,List.length_take];omega) rfl rfl
      rw [h.sc,List.take_take,Nat.min_self] at hsp
      have hnil:H9 (A0c 0 ((B7 st.1.1).take c)) c (st.1.2.drop c) = []:=by
       have h2:(B7 st.1.1).take c ++ []=(B7 st.1.1).take c++H9 (A0c 0 ((B7 st.1.1).take c)) c (st.1.2.drop c):=by rw [List.append_nil];exact hsp
       exact (List.append_cancel_left h2).symm
      rw [hjc] at hs2 ⊢
      have hcl:c<st.1.2.length:=(List.getElem?_eq_some_iff.1 hs2).1
      rw [List.drop_eq_getElem_cons hcl,B0L] at hnil
      have:st.1.2[c]=s:=by rw [List.getElem?_eq_getElem hcl] at hs2;injection hs2
      rw [this] at hnil
      cases hg:A1O (A0c 0 ((B7 st.1.1).take c)) c s with
      | false=>rfl
      | true=>rw [hg] at hnil;cases hnil
     ·rw [C1I (by omega) (by omega),h.ep (j-1) (by omega) (by omega)]
      exact C6t (h.inn j s hc (by omega) hs2) _
    rw [hs,List.append_nil]
 refine go ((B7 st.1.1).length-c) c (by have:=h.le;omega) (Nat.le_refl _) ?_
 refine List.ext_getElem? fun i=>?_
 by_cases hi:i<c
 ·rw [List.getElem?_take_of_lt hi,List.getElem?_take_of_lt hi]
  exact B2T h k (by have:=h.le;omega) (.inr (by omega))
 ·rw [List.getElem?_eq_none (by rw [List.length_take];omega),List.getElem?_eq_none (by rw [List.length_take];omega)]
theorem C5I{now sure:List ByteArray}{k:List Bool}(h:now.length=sure.length){s:ByteArray}(hs:s∈Q2 now sure k):s∈now∨s∈sure:=by
 obtain ⟨i,hi,rfl⟩:=List.getElem_of_mem hs
 have hi':i<now.length:=by rw [B5t] at hi;exact hi
 have:=B5u (k:=k) h hi'
 rw [List.getElem?_eq_getElem hi] at this
 split at this
 ·exact .inl (List.mem_of_getElem? this.symm)
 ·exact .inr (List.mem_of_getElem? this.symm)
theorem C6u{st:A5}{c:Nat}(h:Dur st c):∀ s∈st.1.2,(C7 s).2.1=true→(C7 s).1.1≤st.2.1:=by
 intro s hs hr
 obtain ⟨i,hi,rfl⟩:=List.getElem_of_mem hs
 by_cases hb:c≤i∧i<(B7 st.1.1).length
 ·have:=h.inn i _ hb.1 hb.2 (List.getElem?_eq_getElem hi)
  simp only [A21,hr,Bool.true_and,decide_eq_false_iff_not] at this
  omega
 ·have:=h.out i hb
  rw [List.getElem?_eq_getElem hi] at this
  exact D1R h.g _ (List.mem_of_getElem? this.symm) hr
theorem B5x:∀ (l:List F7) (us us':List TUp) (m:Nat),G3 us l=some us'→∃ u,G3 us (l.take m)=some u
 | _,us,_,0,_=>⟨us,by simp [G3]⟩
 | [],us,us',m+1,h=>⟨us',by simpa using h⟩
 | r::l,us,us',m+1,h=>by
  simp only [G3] at h
  simp only [List.take_succ_cons,G3]
  split at h
  ·rename_i u1 e1
   exact B5x l u1 us' m h
  ·cases h
theorem D6M{l:List ByteArray}{b:Int}(hb:-1≤b)(h:∀ s∈l,(C7 s).2.1=true→(C7 s).1.1≤b):A3X l≤b:=by
 have h1:=B3E (b+1) l (-1)
 have h2:(l.all fun s=>!A21 (b+1) s)=true:=List.all_eq_true.2 fun s hs=>by
  simp only [A21,Bool.not_eq_true',Bool.and_eq_false_iff,decide_eq_false_iff_not]
  cases hr:(C7 s).2.1 with
  | false=>exact .inl rfl
  | true=>have:=h s hs hr;exact .inr (by omega)
 rw [h2,A0 (show (-1:Int)<b+1 by omega),Bool.and_true] at h1
 have:=of_decide_eq_true h1
 show l.foldl A2r (-1)≤b
 omega
def S1(x:List ByteArray)(us:List TUp):A5:=((x,x),(A3X x+1,((List.length (B7 x):Int),us)))
theorem C6v{x:List ByteArray}{us:List TUp}(hd:A5D (x,x)=true)(hu:G3 [] (B7 x)=some us)(ht:A3X x+1≤10000):GoodS (S1 x us):=by
 have h0:=D1P x
 refine ⟨hd,⟨by show 0≤A3X x+1;omega,ht⟩,hu,rfl,?_,?_⟩
 ·show A0c 0 (B7 x)≤A3X x+1
  have hg:∀ (i:Nat) (hi:i<(B7 x).length),∃ s,x[i]? = some s∧C7 s=((B7 x)[i],true,()):=C4G 0 0 x
  by_cases hl:0<(B7 x).length
  ·have e:=C1I (L:=B7 x) (e:=0) (j:=(B7 x).length) hl (Nat.le_refl _)
   rw [List.take_length] at e
   rw [e]
   obtain ⟨s,h1,h2⟩:=hg ((B7 x).length-1) (by omega)
   have h3:=D1Q (List.mem_of_getElem? h1) (by rw [h2])
   rw [h2] at h3
   have h5:((B7 x)[(B7 x).length-1]'(by omega)).1≤A3X x:=h3
   have h6:@LE.le Int _ ((B7 x)[(B7 x).length-1]'(by omega)).1 (A3X x+1):=by omega
   exact h6
  ·rw [List.length_eq_zero_iff.1 (show (B7 x).length=0 by omega)]
   show (0:Int)≤_
   omega
 ·refine List.all_eq_true.2 fun s hs=>?_
  have hs2:s∈x:=List.mem_of_mem_drop hs
  simp only [A21,Bool.not_eq_true',Bool.and_eq_false_iff,decide_eq_false_iff_not]
  cases hr:(C7 s).2.1 with
  | false=>exact .inl rfl
  | true=>
   have:=D1Q hs2 hr
   refine .inr ?_
   show ¬ (C7 s).1.1≥A3X x+1
   omega
theorem B0O{st:A5}(h:GoodS st):Dur ((st.1.1,st.1.1),st.2) (B7 st.1.1).length:=
 ⟨⟨D2U h.dk,h.ep,h.up,h.nx,h.le,h.tl⟩,Nat.le_refl _,fun i _=>rfl,fun i s h1 h2 _=>by (have h3:i<(B7 st.1.1).length:=h2;omega),fun i h1 h2=>by (have h3:i<(B7 st.1.1).length:=h1;omega),(List.take_length).symm⟩
theorem B4x{x:List ByteArray}{us:List TUp}(h:GoodS (S1 x us)):Dur (S1 x us) (B7 x).length:=B0O h
theorem C4H{st:A5}{c:Nat}(h:Dur st c){r:F7}(hr:B1I r)(h1:r.1=st.2.1)(h2:r.2.1=st.2.2.1)(hlt:st.2.2.1<(st.1.1.length:Int)){us:List TUp}(hf:J6 st.2.2.2 r=some us):Dur (wrote st r us) c:=by
 obtain ⟨hg,hsc⟩:=B0M h.g hr h1 h2 hlt hf
 have hnx:=h.g.nx
 have hto:st.2.2.1.toNat=(B7 st.1.1).length:=by omega
 have hll:(B7 st.1.1).length<st.1.1.length:=by omega
 have hlen:((B7 st.1.1) ++ [r]).length=(B7 st.1.1).length+1:=by simp
 have hle:=h.le
 refine ⟨hg,by rw [hsc,hlen];omega,fun i hi=>?_,fun i s hc hi hs=>?_,fun i hi hc=>?_,?_⟩
 ·rw [hsc,hlen] at hi
  show st.1.2[i]? = (st.1.1.set st.2.2.1.toNat (U6 r))[i]?
  rw [hto,List.getElem?_set_ne (by omega)]
  exact h.out i (by omega)
 ·rw [hsc,hlen] at hi
  by_cases hi2:i<(B7 st.1.1).length
  ·exact h.inn i s hc hi2 hs
  ·have e:=h.out i (by omega)
   have hs':st.1.2[i]? = some s:=hs
   rw [e] at hs'
   have hm:s∈st.1.1.drop (B7 st.1.1).length:=by
    rw [List.mem_iff_getElem?]
    exact ⟨i-(B7 st.1.1).length,by rw [List.getElem?_drop,show (B7 st.1.1).length+(i-(B7 st.1.1).length)=i by omega];exact hs'⟩
   have:=List.all_eq_true.1 h.g.tl s hm
   have h7:A21 st.2.1 s=false:=by simpa using this
   exact h7
 ·have hi':=hi
  rw [hsc,hlen] at hi'
  have e:(B7 (wrote st r us).1.1)[i]=((B7 st.1.1) ++ [r])[i]'(by omega):=by simp only [hsc]
  rw [e]
  by_cases hi2:i<(B7 st.1.1).length
  ·rw [List.getElem_append_left hi2]
   exact h.ep i hi2 hc
  ·rw [List.getElem_append_right (by omega)]
   simp only [show i-(B7 st.1.1).length=0 by omega,List.getElem_cons_zero]
   exact h1
 ·show B7 st.1.2=_
  rw [hsc,List.take_append_of_le_length hle]
  exact h.sc
theorem B7E{st:A5}{c:Nat}(h:Dur st c)(k:List Bool)(hep:st.2.1≤9999):∃ m us,c≤m∧m≤(B7 st.1.1).length∧B7 (Q2 st.1.1 st.1.2 k)=(B7 st.1.1).take m∧G3 [] ((B7 st.1.1).take m)=some us∧
  A3X (Q2 st.1.1 st.1.2 k)≤st.2.1∧A5D (C1G st.1 k)=true∧GoodS (S1 (Q2 st.1.1 st.1.2 k) us):=by
 obtain ⟨_,k2,k3,k4,k5⟩:=A4r h.g.dk
 obtain ⟨m,h1,h2,h3⟩:=D4l h k
 obtain ⟨us,hu⟩:=B5x _ _ _ m h.g.up
 have hml:=B5t st.1.1 st.1.2 k
 have hdb:A5D (Q2 st.1.1 st.1.2 k,Q2 st.1.1 st.1.2 k)=true:=by
  have hall:∀ s∈Q2 st.1.1 st.1.2 k,s.size≤64:=fun s hs=>(C5I k2 hs).elim (k4 s) (k5 s)
  exact C1E rfl (by simp only [hml];exact k3) hall hall
 have ht:A3X (Q2 st.1.1 st.1.2 k)≤st.2.1:=D6M (by have:=h.g.ep.1;omega) fun s hs hr=>(C5I k2 hs).elim (fun hs=>D1R h.g s hs hr) (fun hs=>C6u h s hs hr)
 exact ⟨m,us,h1,h2,h3,hu,ht,hdb,C6v hdb (by rw [h3];exact hu) (by omega)⟩
inductive Steps (id:ByteArray) (st:A5):A5→Prop
 | refl:Steps id st st
 | step {st1:A5} {r:F7} {us:List TUp}:Steps id st st1→B1I r→r.1=st1.2.1→r.2.1=st1.2.2.1→st1.2.2.1<(st1.1.1.length:Int)→r.2.2.2.1=id→(r.2.2.1=1→r.2.2.2.2.1≤1000000)→J6 st1.2.2.2 r=some us→Steps id st (wrote st1 r us)
theorem D7O{st:A5}(h:Rt st):0≤st.2.2.1∧st.1.1.length≤200:=⟨h.g.2.2.2.2.1.1,h.g.2.2.2.1⟩
theorem B89{st:A5}{id:ByteArray}{n:Int}(h:Rt st):Steps id st (A5E st id n).1:=by
 unfold A5E
 split
 ·rename_i h1
  split
  ·exact Steps.refl
  ·rename_i h2
   split
   ·exact Steps.refl
   ·rename_i h3
    have hr:=B2O h.g 1 n id h1.1 (fun hx=>h3 (.inl hx)) (.inl ⟨rfl,h1.2.1,by omega⟩)
    exact .step Steps.refl ⟨hr,T3⟩ rfl rfl (by omega) rfl (fun _=>h1.2.2) (B7B h2 (fun hx=>h3 (.inr hx)))
 ·exact Steps.refl
theorem B8A{st:A5}{id:ByteArray}{n:Int}(h:Rt st):Steps id st (A40 st id n).1:=by
 unfold A40
 split
 ·rename_i h1
  split
  ·rename_i h2
   split
   ·exact Steps.refl
   ·rename_i h3
    split
    ·exact Steps.refl
    ·split
     ·exact Steps.refl
     ·rename_i h5
      split
      ·exact Steps.refl
      ·rename_i h6
       have hr:=B2O h.g 3 0 id h1 h6 (.inr ⟨.inl rfl,rfl⟩)
       exact .step Steps.refl ⟨hr,T3⟩ rfl rfl (by omega) rfl (fun e=>by cases e) (B7C h.up h2 h3 h5)
  ·exact Steps.refl
 ·exact Steps.refl
theorem B8B{st:A5}{id:ByteArray}(h:Rt st):Steps id st (A8m st id).1:=by
 unfold A8m
 split
 ·rename_i h1
  split
  ·rename_i h2
   split
   ·exact Steps.refl
   ·rename_i h3
    have hr:=B2O h.g 4 0 id h1 h3 (.inr ⟨.inr rfl,rfl⟩)
    exact .step Steps.refl ⟨hr,T3⟩ rfl rfl (by omega) rfl (fun e=>by cases e) (C4C h2)
  ·exact Steps.refl
 ·exact Steps.refl
theorem B8C{st:A5}{id:ByteArray}{off:Int}{dat:List Int}(hc:D2V st id off dat):∀ j,j≤nPc dat→Steps id st (putAt st id off dat j)
 | 0,_=>Steps.refl
 | j+1,hj=>by
  have hI:=B9z hc j (by omega)
  obtain ⟨hr,hf,_⟩:=B5s hc hI (by omega)
  have h1:=hc.nx.2
  have h2:=hI.nx
  have h3:=hI.len
  exact .step (B8C hc j (by omega)) ⟨hr,A6t (A3V hc.byt _) _⟩ rfl rfl (by omega) rfl (fun e=>by cases e) hf
theorem B4y{st:A5}{id:ByteArray}{off:Int}{dat:List Int}(h:Rt st)(hb:Byt dat):Steps id st (A8l st id off dat).1:=by
 unfold A8l
 split
 ·rename_i h1
  split
  ·rename_i h3
   split
   ·exact Steps.refl
   ·rename_i h4
    split
    ·exact Steps.refl
    ·rename_i h5
     exact B8C (C00 h hb h1.1 h1.2 h3 h4 h5) _ (Nat.le_refl _)
  ·exact Steps.refl
 ·exact Steps.refl
theorem B3H{id:ByteArray}{st st':A5}(hs:Steps id st st'){c:Nat}(h:Dur st c):Dur st' c∧st'.2.1=st.2.1∧st'.1.2=st.1.2∧st'.1.1.length=st.1.1.length∧
  (∃ R,B7 st'.1.1=B7 st.1.1++R∧∀ r∈R,r.2.2.2.1=id)∧∀ s∈st'.1.1,s∈st.1.1∨∃ r,B1I r∧r.2.2.2.1=id∧s=U6 r:=by
 induction hs with
 | refl=>exact ⟨h,rfl,rfl,rfl,⟨[],by simp,fun r hr=>by cases hr⟩,fun s hs=>.inl hs⟩
 | @step st1 r us h1 hr e1 e2 hlt hid _ hf ih=>
  obtain ⟨k1,k2,k3,k4,⟨R,k5,k6⟩,k7⟩:=ih
  refine ⟨C4H k1 hr e1 e2 hlt hf,k2,k3,by simp only [wrote,List.length_set];exact k4,?_,?_⟩
  ·refine ⟨R ++ [r],?_,fun r' hr'=>?_⟩
   ·rw [(B0M k1.g hr e1 e2 hlt hf).2,k5,List.append_assoc]
   ·rcases List.mem_append.1 hr' with hr' | hr'
    ·exact k6 r' hr'
    ·rw [List.mem_singleton.1 hr'];exact hid
  ·intro s hs
   rcases List.mem_or_eq_of_mem_set hs with hs | rfl
   ·exact k7 s hs
   ·exact .inr ⟨_,hr,hid,rfl⟩
theorem B5y{st:A5}(h:GoodS st):Rt st∧A5T st∧D3 st=some (true,())∧A1B st=some (true,()):=by
 have hU:=C1F h
 have hS:=A4r h.dk
 obtain ⟨b,h1,h2,h3⟩:=C6r st hS.1.1 (fun u hu=>(hU.2.2 u hu).2.2.2)
 rw [h3.2 h] at h1 h2
 exact ⟨D6L h hU,C9I hS.1 hU,h1,h2⟩
theorem C5J{N:Int}{us us':List TUp}{r:F7}(h:J6 us r=some us')(hr:r.2.2.1=1→r.2.2.2.2.1≤N)(hus:∀ u∈us,(show Int from u.2.1)≤N):∀ u∈us',(show Int from u.2.1)≤N:=by
 intro u hu
 simp only [J6] at h
 have hset:∀ v:TUp,H5 us r.2.2.2.1=true→v.2.1=(rd kUp us (B2 us r.2.2.2.1:Int)).2.1→u∈us.set (B2 us r.2.2.2.1) v→(show Int from u.2.1)≤N:=fun v hh hv hu=>by
  rcases List.mem_or_eq_of_mem_set hu with hu | rfl
  ·exact hus u hu
  ·obtain ⟨hlt,_⟩:=H3.1 hh
   rw [E3 (k:=kUp) (xs:=us) hlt] at hv
   have:=hus _ (List.getElem_mem hlt)
   rw [← hv] at this
   exact this
 split at h
 ·rename_i h1
  split at h
  ·cases h
  ·injection h with h;subst h
   rcases List.mem_append.1 hu with hu | hu
   ·exact hus u (List.mem_of_mem_take hu)
   ·rcases List.mem_cons.1 hu with rfl | hu
    ·exact hr h1
    ·exact hus u (List.mem_of_mem_drop hu)
 ·split at h
  ·cases h
  ·rename_i hh
   have hh:H5 us r.2.2.2.1=true:=by simpa using hh
   split at h
   ·split at h
    ·cases h
    ·injection h with h;subst h
     refine hset _ hh ?_ hu
     rfl
   ·split at h
    ·split at h
     ·cases h
     ·injection h with h;subst h
      refine hset _ hh ?_ hu
      rfl
    ·split at h
     ·injection h with h;subst h
      rcases List.mem_append.1 hu with hu | hu
      ·exact hus u (List.mem_of_mem_take hu)
      ·exact hus u (List.mem_of_mem_drop hu)
     ·cases h
theorem B0P{N:Int}:∀ {l:List F7} {us us':List TUp},G3 us l=some us'→(∀ r∈l,r.2.2.1=1→r.2.2.2.2.1≤N)→(∀ u∈us,(show Int from u.2.1)≤N)→∀ u∈us',(show Int from u.2.1)≤N
 | [],us,us',h,_,hus=>by
  simp only [G3,Option.some.injEq] at h;subst h
  exact hus
 | r::l,us,us',h,hr,hus=>by
  simp only [G3] at h
  split at h
  ·rename_i us1 e1
   exact B0P h (fun x hx=>hr x (List.mem_cons_of_mem _ hx)) (C5J e1 (hr r List.mem_cons_self) hus)
  ·cases h
def B7F(st:A5):Prop:=∀ r∈B7 st.1.1,r.2.2.1=1→r.2.2.2.2.1≤1000000
theorem C1J{id:ByteArray}{st st':A5}(hs:Steps id st st'){c:Nat}(h:Dur st c)(hw:B7F st):B7F st':=by
 induction hs with
 | refl=>exact hw
 | @step st1 r us h1 hr e1 e2 hlt hid hn hf ih=>
  have hg:=(B3H h1 h).1.g
  unfold B7F
  rw [(B0M hg hr e1 e2 hlt hf).2]
  intro x hx h1
  rcases List.mem_append.1 hx with hx | hx
  ·exact ih x hx h1
  ·rw [List.mem_singleton] at hx;subst hx;exact hn h1
structure A6u (k:Nat) (st:A5):Prop where
 dur:∃ c,Dur st c
 ep:st.2.1≤(k:Int)
 ids:∀ s,s∈st.1.1∨s∈st.1.2→(C7 s).2.1=true→(C7 s).1.2.2.2.1∈ [(⟨#[97]⟩:ByteArray),(⟨#[98]⟩:ByteArray),(⟨#[99]⟩:ByteArray)]
 wn:B7F st
theorem A7m{k:Nat}{st st':A5}{id:ByteArray}(h:A6u k st)(hs:Steps id st st')(hid:id∈ [(⟨#[97]⟩:ByteArray),(⟨#[98]⟩:ByteArray),(⟨#[99]⟩:ByteArray)]):A6u k st':=by
 obtain ⟨c,hd⟩:=h.dur
 obtain ⟨k1,k2,k3,_,_,k7⟩:=B3H hs hd
 refine ⟨⟨c,k1⟩,by rw [k2];exact h.ep,fun s hs hr=>?_,C1J hs hd h.wn⟩
 rw [k3] at hs
 rcases hs with hs | hs
 ·rcases k7 s hs with hs | ⟨r,h1,h2,rfl⟩
  ·exact h.ids s (.inl hs) hr
  ·rw [B4u h1,h2];exact hid
 ·exact h.ids s (.inr hs) hr
theorem B7G{x:List ByteArray}{us:List TUp}(h:GoodS (S1 x us)):E5 (x,x)=some (S1 x us,true,()):=by
 obtain ⟨hS,_,h200,_⟩:=A4r h.dk
 have hdk:A5D (x,x)=true:=h.dk
 have hl:x.length≤200:=h200
 have hll:=A6K 0 0 x
 have hfs:=A8B (B7 x) (by simp only [maxLen,B7];omega) (B4v 0 0 x)
 have hf:A20 (B7 x)=(us,true,()):=by
  unfold A20
  rw [show G3 [] (B7 x)=some us from h.up]
 have htop:=D1P x
 have hep:A3X x+1≤10000:=h.ep.2
 simp only [E5,A1j,B2N,hdk,C4E (x,x) hS.1,hfs,hf,C32 (x,x) hS.1,A8C (x,x) hS,bO,Bool.not_true,cond_false]
 rw [w64 (n:=A3X x+1) (by omega) (by omega),A4 (show ¬ A3X x+1>10000 by omega)]
 rfl
theorem C6w{k:Nat}{st:A5}(h:A6u k st)(hk:k≤9999)(ke:List Bool):∃ us,R8 st.1 ke=some (C1G st.1 ke,())∧E5 (C1G st.1 ke)=some (S1 (Q2 st.1.1 st.1.2 ke) us,true,())∧A6u (k+1) (S1 (Q2 st.1.1 st.1.2 ke) us):=by
 obtain ⟨c,hd⟩:=h.dur
 obtain ⟨_,k2,_⟩:=A4r hd.g.dk
 have hep:=h.ep
 obtain ⟨m,us,_,_,g3,_,h5,h6,h7⟩:=B7E hd ke (by omega)
 refine ⟨us,B7D st.1 ke hd.g.dk,B7G h7,⟨_,B4x h7⟩,?_,fun s hs hr=>?_,fun r hr h1=>by
  have hr':r∈B7 (Q2 st.1.1 st.1.2 ke):=hr
  rw [g3] at hr'
  exact h.wn r (List.mem_of_mem_take hr') h1⟩
 ·show A3X (Q2 st.1.1 st.1.2 ke)+1≤((k+1:Nat):Int)
  omega
 ·have hs2:s∈Q2 st.1.1 st.1.2 ke:=hs.elim id id
  exact h.ids s (C5I k2 hs2) hr
theorem C9L{k:Nat}{st:A5}(h:A6u k st):A6u k ((st.1.1,st.1.1),st.2):=by
 obtain ⟨c,hd⟩:=h.dur
 exact ⟨⟨_,B0O hd.g⟩,h.ep,fun s hs hr=>h.ids s (.inl (hs.elim id id)) hr,h.wn⟩
theorem A2b{k k':Nat}{st:A5}(h:A6u k st)(hk:k≤k'):A6u k' st:=⟨h.dur,by have:=h.ep;omega,h.ids,h.wn⟩
theorem C9M(k:Nat)(hk:k≤9999)(c:B5)(st:A5)(hc:Cur c)(h:A6u k st):∃ y c',F9 c st=some (y,c',())∧A6u (k+1) y∧Cur c':=by
 obtain ⟨cc,hdur⟩:=h.dur
 obtain ⟨hR,hS,hok,_⟩:=B5y hdur.g
 have hk1:k≤k+1:=Nat.le_succ k
 obtain ⟨s,c1,q1,h1,hs⟩:=B2G c [(⟨#[97]⟩:ByteArray),(⟨#[98]⟩:ByteArray),(⟨#[99]⟩:ByteArray)] hc (by simp)
 have hsz:s.size≤maxLen:=by
  simp only [List.mem_cons,List.not_mem_nil,or_false] at hs
  rcases hs with rfl | rfl | rfl<;>decide
 obtain ⟨k,c2,q2,h2,k0,k1⟩:=F6 c1 12 h1 (by omega)
 simp only [F9,T9,q1,q2,bO]
 obtain ⟨b0,m0⟩:∃ b,(bif decide (k=0) then (some (decide (k=0),()):Option (Bool×Unit)) else some (decide (k=1),()))=some (b,()):=by
  cases decide (k=0)<;>exact ⟨_,rfl⟩
 rw [m0]
 simp only [bO]
 cases b0 with
 | true=>
  obtain ⟨n,c3,q3,h3,_⟩:=O3 c2 [0,3,30,60] h2 (by simp)
  have q4:=B2P st s n hsz hR hS hok
  simp only [cond_true,q3,q4,bO]
  exact ⟨_,_,rfl,A2b (A7m h (B89 hR) hs) hk1,h3⟩
 | false=>
  simp only [cond_false]
  obtain ⟨b1,m1⟩:∃ b,(bif decide (k=2) then (some (decide (k=2),()):Option (Bool×Unit)) else bif decide (k=3) then some (decide (k=3),()) else bif decide (k=4) then some (decide (k=4),()) else some (decide (k=5),()))=some (b,()):=by
   cases decide (k=2)<;>cases decide (k=3)<;>cases decide (k=4)<;>exact ⟨_,rfl⟩
  rw [m1]
  simp only [bO]
  obtain ⟨u,bu,qu,u1,u2,u3⟩:=D4h st s hR.up
  cases b1 with
  | true=>
   obtain ⟨n,c3,q3,h3,hn⟩:=O3 c2 [1,3,24,30] h2 (by simp)
   have hn2:0≤n∧n≤30:=by
    simp only [List.mem_cons,List.not_mem_nil,or_false] at hn
    omega
   simp only [cond_true,qu,q3,bO]
   rw [w64 (n:=u.2.1-(List.length u.2.2.1:Int)) (by omega) (by omega)]
   obtain ⟨n',c4,m2,hn',h4⟩:∃ (n':Int) (c4:B5),(bif bu then bif decide (n>u.2.1-(List.length u.2.2.1:Int)) then A3 (L4 c3 5) fun (c68:Bool×B5×Unit)=>bif (!c68.1) then some (u.2.1-(List.length u.2.2.1:Int),c68.2.1.1,c68.2.1.2.1,c68.2.1.2.2,()) else some (n,c68.2.1.1,c68.2.1.2.1,c68.2.1.2.2,()) else some (n,c3.1,c3.2.1,c3.2.2,()) else some (n,c3.1,c3.2.1,c3.2.2,()))=some (n',c4.1,c4.2.1,c4.2.2,())∧(0≤n'∧n'≤30)∧Cur c4:=by
    cases bu with
    | false=>exact ⟨_,c3,rfl,hn2,h3⟩
    | true=>
     by_cases hg:n>u.2.1-(List.length u.2.2.1:Int)
     ·obtain ⟨b,c5,q5,h5⟩:=A4U c3 5 h3 (by omega)
      rw [A0 hg,q5]
      cases b with
      | false=>exact ⟨_,c5,rfl,by omega,h5⟩
      | true=>exact ⟨_,c5,rfl,hn2,h5⟩
     ·rw [A4 hg]
      exact ⟨_,c3,rfl,hn2,h3⟩
   rw [m2]
   simp only [bO]
   obtain ⟨dat,c6,q6,h6,hl6,hb6⟩:=B0H c4 n' h4 (by omega)
   have q7:=B4t st s (List.length u.2.2.1:Int) dat hsz hR hS hok hb6 (by omega) (by omega)
   have q6':F3 (c4.1,(c4.2.1,c4.2.2)) n' = _:=q6
   rw [q6']
   simp only [bO,q7]
   exact ⟨_,_,rfl,A2b (A7m h (B4y hR hb6) hs) hk1,h6⟩
  | false=>
   simp only [cond_false]
   cases decide (k=6) with
   | true=>
    have q7:=B2Q st s (((A3U u.2.2.1 ^^^ 4294967295:Nat):Int)) hsz hR hS hok
    simp only [cond_true,qu,bO]
    rw [B2C _ u3 (by simp only [maxLen];omega)]
    simp only [bO,q7]
    exact ⟨_,_,rfl,A2b (A7m h (B8A hR) hs) hk1,h2⟩
   | false=>
    simp only [cond_false]
    cases decide (k=7) with
    | true=>
     obtain ⟨b,c5,q5,h5⟩:=A4U c2 3 h2 (by omega)
     have q7:=B2R st s hsz hR hS hok
     simp only [cond_true,q5,bO]
     cases b with
     | true=>
      simp only [cond_true,q7,bO]
      exact ⟨_,_,rfl,A2b (A7m h (B8B hR) hs) hk1,h5⟩
     | false=>exact ⟨_,_,rfl,A2b h hk1,h5⟩
    | false=>
     simp only [cond_false]
     obtain ⟨b3,m3⟩:∃ b,(bif decide (k=8) then (some (decide (k=8),()):Option (Bool×Unit)) else some (decide (k=9),()))=some (b,()):=by
      cases decide (k=8)<;>exact ⟨_,rfl⟩
     rw [m3]
     simp only [bO]
     cases b3 with
     | true=>
      simp only [cond_true,Y5,A4n,V6 st hS,hok,B4s st.1 hS.1,bO]
      exact ⟨_,_,rfl,A2b (C9L h) hk1,h2⟩
     | false=>
      obtain ⟨ke,c7,q9,h7⟩:=C1B c2 h2
      obtain ⟨us,f1,f2,f3⟩:=C6w h hk ke
      simp only [cond_false,q9,f1,f2,bO]
      exact ⟨_,_,rfl,f3,h7⟩
theorem C9N(last:Int)(i:Nat)(l:List ByteArray)(h:∀ s∈l,(C7 s).2.1=false):H9 last i l = []:=B4w _ _ _ fun s hs=>by
 simp only [A1O,h s (List.mem_of_mem_head? hs),Bool.false_and]
theorem B5z:(C7 ⟨#[]⟩).2.1=false:=by
 unfold C7 A7h
 have h0:(⟨#[]⟩:ByteArray).size=0:=rfl
 rw [h0,A4 (by omega)]
 rfl
theorem A8D(n:Int)(hn:n≤200):A6u 0 (D0 n,(0,(0,[]))):=by
 have hall:∀ s,s∈(D0 n).1∨s∈(D0 n).2→s=⟨#[]⟩:=by
  intro s hs
  unfold D0 at hs
  split at hs
  ·rcases hs with hs | hs<;>exact (List.mem_replicate.1 hs).2
  ·rcases hs with hs | hs<;>cases hs
 have hg:∀ s∈(D0 n).1,(C7 s).2.1=false:=fun s hs=>by rw [hall s (.inl hs)];exact B5z
 have hsc:B7 (D0 n).1 = []:=C9N _ _ _ hg
 have hsz:∀ s,s∈(D0 n).1∨s∈(D0 n).2→s.size≤64:=fun s hs=>by rw [hall s hs];show 0≤64;omega
 have hlen:(D0 n).1.length=(D0 n).2.length∧(D0 n).1.length≤200:=by
  unfold D0
  split<;>simp<;>omega
 have heq:(D0 n).2=(D0 n).1:=by
  unfold D0
  split<;>rfl
 have hG:GoodS (D0 n,(0,(0,[]))):=by
  refine ⟨C1E hlen.1 hlen.2 (fun s hs=>hsz s (.inl hs)) (fun s hs=>hsz s (.inr hs)),by simp,?_,?_,?_,?_⟩
  ·show G3 [] (B7 (D0 n).1)=_;rw [hsc];rfl
  ·show (0:Int)=((B7 (D0 n).1).length:Int);rw [hsc];rfl
  ·show A0c 0 (B7 (D0 n).1)≤0;rw [hsc];exact Int.le_refl _
  ·refine List.all_eq_true.2 fun s hs=>?_
   have:=hg s (List.mem_of_mem_drop hs)
   simp only [A21,this,Bool.false_and,Bool.not_false]
 refine ⟨⟨0,hG,Nat.zero_le _,fun i _=>by rw [show ((D0 n,((0:Int),((0:Int),([]:List TUp)))):A5).1.2=(D0 n).1 from heq],fun i s _ h2 _=>?_,fun i h1 _=>?_,?_⟩,by simp,fun s hs hr=>?_,fun r hr=>by (have hr':r∈B7 (D0 n).1:=hr;rw [hsc] at hr';cases hr')⟩
 ·have h2':i<(B7 (D0 n).1).length:=h2
  rw [hsc] at h2';simp at h2'
 ·have h1':i<(B7 (D0 n).1).length:=h1
  rw [hsc] at h1';simp at h1'
 ·show B7 (D0 n).2=(B7 (D0 n).1).take 0
  rw [heq,hsc];rfl
 ·rw [hall s hs,B5z] at hr;cases hr
theorem C9O(c:B5)(n:Int)(hc:Cur c)(hn:0<n∧n≤1000):∃ y c',P1 c n=some (y,c',())∧A6u 1000 y∧Cur c':=by
 obtain ⟨m,c1,q1,h1,hm⟩:=O3 c [30,30,8,0] hc (by simp)
 have hm2:m≤200:=by
  simp only [List.mem_cons,List.not_mem_nil,or_false] at hm
  omega
 obtain ⟨k,c2,q2,h2,k0,k1⟩:=F6 c1 n h1 (by omega)
 simp only [P1,A0Q,A0M,A64,B5q,q1,q2,bO]
 obtain ⟨z,e,hz⟩:=R4 (Y8 F9) (fun l=>l.1.toNat)
  (fun l=>∃ j:Nat,l.1≤1000-(j:Int)∧j≤1000∧A6u j ((l.2.2.2.2.2.2.1,l.2.2.2.2.2.2.2.1),(l.2.1,(l.2.2.1,l.2.2.2.2.2.2.2.2.1)))∧Cur (l.2.2.2.1,(l.2.2.2.2.1,l.2.2.2.2.2.1))) (fun z=>A6u 1000 z.1∧Cur z.2.1) (fun l hl=>by
   obtain ⟨j,g0,gj,g1,g2⟩:=hl
   simp only [Y8]
   by_cases hi:l.1>0
   ·obtain ⟨y,c',e,hy,hc'⟩:=C9M j (by omega) _ _ g2 g1
    rw [A0 hi,e]
    simp only [cond_true,bO]
    rw [w64 (by omega) (by omega)]
    exact .inl ⟨_,rfl,⟨j+1,by simp only;omega,by omega,hy,hc'⟩,by simp only;omega⟩
   ·rw [A4 hi]
    exact .inr ⟨_,rfl,A2b g1 gj,g2⟩) (k,0,0,c2.1,c2.2.1,c2.2.2,(D0 m).1,(D0 m).2,[],()) ⟨0,by simp only;omega,by omega,A8D m hm2,h2⟩
 exact ⟨z.1,z.2.1,e,hz⟩
def lenOf(st:A5)(id:ByteArray):Int:=if H5 st.2.2.2 id=true then (List.length (rd kUp st.2.2.2 (B2 st.2.2.2 id:Int)).2.2.1:Int) else 0
def J7(st:A5)(code:Int)(id:ByteArray):A0w:=
 if code=2 then (404,-1) else if code=3∨code=4 then (409,lenOf st id) else if code=5 then (507,-1) else if code=6 then (422,-1) else (400,-1)
def D4m(st:A5)(r:A16):A0w:=
 if H5 st.2.2.2 r.2.1=true then (if r.1=5∧(rd kUp st.2.2.2 (B2 st.2.2.2 r.2.1:Int)).2.2.2=false then (409,lenOf st r.2.1) else (200,lenOf st r.2.1)) else (404,-1)
def A8n(st:A5)(r:A16)(dat:List Int):A5×A0w:=
 if r.1=1 then ((A5E st r.2.1 r.2.2).1,if (A5E st r.2.1 r.2.2).2=0 then (201,0) else J7 st (A5E st r.2.1 r.2.2).2 r.2.1)
 else if r.1=3 then ((A8l st r.2.1 r.2.2 dat).1,if (A8l st r.2.1 r.2.2 dat).2=0 then (204,r.2.2+(dat.length:Int)) else J7 st (A8l st r.2.1 r.2.2 dat).2 r.2.1)
 else if r.1=4 then ((A40 st r.2.1 r.2.2).1,if (A40 st r.2.1 r.2.2).2=0 then (200,-1) else J7 st (A40 st r.2.1 r.2.2).2 r.2.1)
 else if r.1=6 then ((A8m st r.2.1).1,if (A8m st r.2.1).2=0 then (204,-1) else J7 st (A8m st r.2.1).2 r.2.1)
 else (st,D4m st r)
theorem B4z{st:A5}{id:ByteArray}{n:Int}(h:¬ (A5E st id n).2=0):(A5E st id n).1=st:=by
 unfold A5E at h ⊢
 split
 ·rename_i h1
  rw [if_pos h1] at h
  split
  ·rfl
  ·rename_i h2
   rw [if_neg h2] at h
   split
   ·rfl
   ·rename_i h3
    rw [if_neg h3] at h
    exact absurd rfl h
 ·rfl
theorem B7H{st:A5}{id:ByteArray}{n:Int}{d:List Int}(h:¬ (A8l st id n d).2=0):(A8l st id n d).1=st:=by
 unfold A8l at h ⊢
 split
 ·rename_i h1
  rw [if_pos h1] at h
  split
  ·rename_i h2
   rw [if_pos h2] at h
   split
   ·rfl
   ·rename_i h3
    rw [if_neg h3] at h
    split
    ·rfl
    ·rename_i h4
     rw [if_neg h4] at h
     exact absurd rfl h
  ·rfl
 ·rfl
theorem B50{st:A5}{id:ByteArray}{n:Int}(h:¬ (A40 st id n).2=0):(A40 st id n).1=st:=by
 unfold A40 at h ⊢
 split
 ·rename_i h1
  rw [if_pos h1] at h
  split
  ·rename_i h2
   rw [if_pos h2] at h
   split
   ·rfl
   ·rename_i h3
    rw [if_neg h3] at h
    split
    ·rfl
    ·rename_i h4
     rw [if_neg h4] at h
     split
     ·rfl
     ·rename_i h5
      rw [if_neg h5] at h
      split
      ·rfl
      ·rename_i h6
       rw [if_neg h6] at h
       exact absurd rfl h
  ·rfl
 ·rfl
theorem C1K{st:A5}{id:ByteArray}(h:¬ (A8m st id).2=0):(A8m st id).1=st:=by
 unfold A8m at h ⊢
 split
 ·rename_i h1
  rw [if_pos h1] at h
  split
  ·rename_i h2
   rw [if_pos h2] at h
   split
   ·rfl
   ·rename_i h4
    rw [if_neg h4] at h
    exact absurd rfl h
  ·rfl
 ·rfl
theorem B60{st:A5}{id:ByteArray}{off:Int}{dat:List Int}(h:Rt st)(hb:Byt dat)(h0:(A8l st id off dat).2=0):lenOf (A8l st id off dat).1 id=off+(dat.length:Int)∧off=lenOf st id∧0≤off:=by
 unfold A8l at h0 ⊢
 split at h0
 ·rename_i h1
  rw [if_pos h1]
  split at h0
  ·rename_i h3
   rw [if_pos h3]
   split at h0
   ·simp at h0
   ·rename_i h4
    rw [if_neg h4]
    split at h0
    ·simp at h0
    ·rename_i h5
     rw [if_neg h5]
     have hc:=C00 h hb h1.1 h1.2 h3 h4 h5
     have hI:=B9z hc _ (Nat.le_refl _)
     have hn:dat.length≤nPc dat*24:=by
      have:¬ nPc dat<nPc dat:=Nat.lt_irrefl _
      rw [C1D] at this
      omega
     have hat:=hc.at'
     refine ⟨?_,?_,by omega⟩
     ·unfold lenOf
      rw [if_pos hI.has,hI.val]
      simp only [List.length_append,List.take_of_length_le hn]
      omega
     ·unfold lenOf
      rw [if_pos h3]
      exact hat
  ·simp at h0
 ·simp at h0
theorem B7I(st:A5)(id:ByteArray)(hU:Ups st.2.2.2):I1 st id=some (if H5 st.2.2.2 id=true then rd kUp st.2.2.2 (B2 st.2.2.2 id:Int) else (⟨#[]⟩,(0,([],false))),H5 st.2.2.2 id,()):=by
 simp only [I1,B1v]
 rw [B3F st.2.2.2 id hU]
 cases hh:H5 st.2.2.2 id with
 | false=>
  simp only [Bool.false_eq_true,if_false,bO]
  rw [A0 (show (-1:Int)<0 by omega)]
  rfl
 | true=>
  obtain ⟨hlt,hid2⟩:=H3.1 hh
  have hdl:=B0I hU _ (List.getElem_mem hlt)
  rw [← E3 (k:=kUp) hlt] at hdl
  simp only [if_true,bO]
  rw [A4 (show ¬ (B2 st.2.2.2 id:Int)<0 by omega),A0 (show (0:Int)≤(B2 st.2.2.2 id:Int) by omega),A0 (show (B2 st.2.2.2 id:Int)<(st.2.2.2.length:Int) by omega),A0 (by simp;omega),A0 (by simp;omega)]
  simp only [cond_true,cond_false,List.nil_append]
theorem A5F(st:A5)(id:ByteArray)(c:Int)(hU:Ups st.2.2.2):A2V st id c=some (J7 st c id,()):=by
 have hlo:(List.length (if H5 st.2.2.2 id=true then rd kUp st.2.2.2 (B2 st.2.2.2 id:Int) else ((⟨#[]⟩,(0,([],false))):TUp)).2.2.1:Int)=lenOf st id:=by
  unfold lenOf;split<;>rfl
 simp only [A2V,B4j,B7I st id hU,J7,bO,hlo]
 by_cases h2:c=2
 ·rw [A0 h2,if_pos h2];rfl
 rw [A4 h2,if_neg h2]
 by_cases h3:c=3
 ·rw [A0 h3,if_pos (.inl h3)];rfl
 rw [A4 h3]
 by_cases h4:c=4
 ·rw [A0 h4,if_pos (.inr h4)];rfl
 rw [A4 h4,if_neg (fun h=>h.elim h3 h4)]
 simp only [cond_false,bO]
 by_cases h5:c=5
 ·rw [A0 h5,if_pos h5];rfl
 rw [A4 h5,if_neg h5]
 by_cases h6:c=6
 ·rw [A0 h6,if_pos h6];rfl
 rw [A4 h6,if_neg h6]
 rfl
theorem C1L(st:A5)(r:A16)(hU:Ups st.2.2.2):A0L st r=some (D4m st r,()):=by
 simp only [A0L,B03,B7I st r.2.1 hU,D4m,lenOf,bO]
 cases hh:H5 st.2.2.2 r.2.1 with
 | false=>rfl
 | true=>
  simp only [if_true,Bool.not_true,cond_false]
  by_cases h5:r.1=5
  ·rw [A0 h5]
   cases hd:(rd kUp st.2.2.2 (B2 st.2.2.2 r.2.1:Int)).2.2.2 with
   | true=>rw [if_neg (fun h=>by cases h.2)];rfl
   | false=>rw [if_pos ⟨h5,rfl⟩];rfl
  ·rw [A4 h5,if_neg (fun h=>h5 h.1)]
   rfl
theorem C9P(st:A5)(r:A16)(dat:List Int)(hid:r.2.1.size≤maxLen)(h:Rt st)(hS:A5T st)(hok:D3 st=some (true,()))(hb:Byt dat)(hd:dat.length≤1048576)(ho:-9223372036854775808≤r.2.2∧r.2.2≤9223372036854775807) :
  O0 st r dat=some ((A8n st r dat).1,(A8n st r dat).2,()):=by
 have hU:=h.up
 simp only [O0,Z6,A8n]
 by_cases h1:r.1=1
 ·rw [A0 h1,if_pos h1,B2P st r.2.1 r.2.2 hid h hS hok]
  simp only [cond_true,bO,B9]
  by_cases hz:(A5E st r.2.1 r.2.2).2=0
  ·rw [A0 hz,if_pos hz];rfl
  ·rw [A4 hz,if_neg hz,B4z hz]
   simp only [Bool.not_false,cond_true,A5F st r.2.1 _ hU,bO]
 rw [A4 h1,if_neg h1]
 by_cases h3:r.1=3
 ·rw [A0 h3,if_pos h3,B4t st r.2.1 r.2.2 dat hid h hS hok hb hd ho]
  simp only [cond_true,cond_false,bO,B9]
  by_cases hz:(A8l st r.2.1 r.2.2 dat).2=0
  ·rw [A0 hz,if_pos hz]
   have hl:=B60 h hb hz
   have hlo:lenOf st r.2.1≤2000000000:=by
    unfold lenOf
    split
    ·rename_i hh
     obtain ⟨hlt,_⟩:=H3.1 hh
     have hdl:=B0I hU _ (List.getElem_mem hlt)
     rw [← E3 (k:=kUp) hlt] at hdl
     omega
    ·omega
   rw [w64 (by omega) (by omega)]
   rfl
  ·rw [A4 hz,if_neg hz,B7H hz]
   simp only [Bool.not_false,cond_true,A5F st r.2.1 _ hU,bO]
 rw [A4 h3,if_neg h3]
 by_cases h4:r.1=4
 ·rw [A0 h4,if_pos h4,B2Q st r.2.1 r.2.2 hid h hS hok]
  simp only [cond_true,cond_false,bO,B9]
  by_cases hz:(A40 st r.2.1 r.2.2).2=0
  ·rw [A0 hz,if_pos hz];rfl
  ·rw [A4 hz,if_neg hz,B50 hz]
   simp only [Bool.not_false,cond_true,A5F st r.2.1 _ hU,bO]
 rw [A4 h4,if_neg h4]
 by_cases h6:r.1=6
 ·rw [A0 h6,if_pos h6,B2R st r.2.1 hid h hS hok]
  simp only [cond_true,cond_false,bO,B9]
  by_cases hz:(A8m st r.2.1).2=0
  ·rw [A0 hz,if_pos hz];rfl
  ·rw [A4 hz,if_neg hz,C1K hz]
   simp only [Bool.not_false,cond_true,A5F st r.2.1 _ hU,bO]
 rw [A4 h6,if_neg h6,C1L st r hU]
 rfl
theorem D2b(st:A5)(r:A16)(dat:List Int)(hid:r.2.1.size≤maxLen)(h:Rt st)(hS:A5T st)(hok:D3 st=some (true,()))(hb:Byt dat)(hd:dat.length≤1048576)(ho:-9223372036854775808≤r.2.2∧r.2.2≤9223372036854775807) :
  F5 st r dat=some ((A8n st r dat).1,(A8n st r dat).2,()):=by
 have hU:=h.up
 simp only [F5,S4,A8n]
 by_cases h1:r.1=1
 ·rw [A0 h1,if_pos h1,B2P st r.2.1 r.2.2 hid h hS hok]
  simp only [cond_true,bO,B9]
  by_cases hz:(A5E st r.2.1 r.2.2).2=0
  ·rw [A0 hz,if_pos hz];rfl
  ·rw [A4 hz,if_neg hz,B4z hz]
   simp only [Bool.not_false,cond_true,A5F st r.2.1 _ hU,bO]
 rw [A4 h1,if_neg h1]
 by_cases h3:r.1=3
 ·rw [A0 h3,if_pos h3,B4t st r.2.1 r.2.2 dat hid h hS hok hb hd ho]
  simp only [cond_true,cond_false,bO,B9]
  by_cases hz:(A8l st r.2.1 r.2.2 dat).2=0
  ·rw [A0 hz,if_pos hz]
   have hl:=B60 h hb hz
   have hlo:lenOf st r.2.1≤2000000000:=by
    unfold lenOf
    split
    ·rename_i hh
     obtain ⟨hlt,_⟩:=H3.1 hh
     have hdl:=B0I hU _ (List.getElem_mem hlt)
     rw [← E3 (k:=kUp) hlt] at hdl
     omega
    ·omega
   rw [w64 (by omega) (by omega)]
   rfl
  ·rw [A4 hz,if_neg hz,B7H hz]
   simp only [Bool.not_false,cond_true,A5F st r.2.1 _ hU,bO]
 rw [A4 h3,if_neg h3]
 by_cases h4:r.1=4
 ·rw [A0 h4,if_pos h4,B2Q st r.2.1 r.2.2 hid h hS hok]
  simp only [cond_true,cond_false,bO,B9]
  by_cases hz:(A40 st r.2.1 r.2.2).2=0
  ·rw [A0 hz,if_pos hz];rfl
  ·rw [A4 hz,if_neg hz,B50 hz]
   simp only [Bool.not_false,cond_true,A5F st r.2.1 _ hU,bO]
 rw [A4 h4,if_neg h4]
 by_cases h6:r.1=6
 ·rw [A0 h6,if_pos h6,B2R st r.2.1 hid h hS hok]
  simp only [cond_true,cond_false,bO,B9]
  by_cases hz:(A8m st r.2.1).2=0
  ·rw [A0 hz,if_pos hz];rfl
  ·rw [A4 hz,if_neg hz,C1K hz]
   simp only [Bool.not_false,cond_true,A5F st r.2.1 _ hU,bO]
 rw [A4 h6,if_neg h6,C1L st r hU]
 rfl
def V7(c:A00):A00:=if I6 c&&!B5k c then (c.1,c.2.1,2,c.2.2.2) else c
theorem B8D(c:A00)(h:c.1.size≤maxLen)(h2:c.2.1.length≤140737488355328):A1I c=some (V7 c,()):=by
 simp only [A1I,B4l,pe,B4q _ h2,A4p _ h,C0t,A3,V7]
 cases I6 c<;>cases B5k c<;>simp
theorem C9Q{st:A5}{r:A16}{dat:List Int}(h:Rt st)(hb:Byt dat):Steps r.2.1 st (A8n st r dat).1:=by
 unfold A8n
 split
 ·exact B89 h
 ·split
  ·exact B4y h hb
  ·split
   ·exact B8A h
   ·split
    ·exact B8B h
    ·exact Steps.refl
theorem C1M{st:A5}(h:Rt st)(id:ByteArray):0≤lenOf st id∧lenOf st id≤1000000000:=by
 unfold lenOf
 split
 ·rename_i hh
  obtain ⟨hlt,_⟩:=H3.1 hh
  have hg:=h.up.2.2 _ (List.getElem_mem hlt)
  rw [E3 (k:=kUp) (xs:=st.2.2.2) hlt]
  have h1:=hg.1
  have h2:=hg.2.1
  omega
 ·omega
theorem C9R{st:A5}{r:A16}{dat:List Int}(h:Rt st)(hb:Byt dat){c:Nat}(hd:Dur st c):A0y (A8n st r dat).2=true:=by
 have key:∀ a b:Int,(100≤a∧a≤599)→(-1≤b∧b≤1000000000)→A0y (a,b)=true:=fun a b h1 h2=>by
  simp only [A0y]
  rw [A0 h1,A0 h2]
  rfl
 have hl:=C1M h
 have hcode:∀ code id,A0y (J7 st code id)=true:=fun code id=>by
  have:=hl id
  unfold J7
  repeat' split
  all_goals exact key _ _ (by omega) (by omega)
 unfold A8n
 split
 ·simp only
  split
  ·exact key _ _ (by omega) (by omega)
  ·exact hcode _ _
 ·split
  ·simp only
   split
   ·rename_i h0
    obtain ⟨q1,q2,q3⟩:=B60 h hb h0
    have hR:=(B5y (B3H (B4y (off:=r.2.2) (id:=r.2.1) h hb) hd).1.g).1
    have:=C1M hR r.2.1
    exact key _ _ (by omega) (by omega)
   ·exact hcode _ _
  ·split
   ·simp only
    split
    ·exact key _ _ (by omega) (by omega)
    ·exact hcode _ _
   ·split
    ·simp only
     split
     ·exact key _ _ (by omega) (by omega)
     ·exact hcode _ _
    ·simp only [D4m]
     have:=hl r.2.1
     repeat' split
     all_goals exact key _ _ (by omega) (by omega)
structure SvI (k:Nat) (sv:D4):Prop where
 dur:∃ c,Dur sv.1 c
 ep:sv.1.2.1≤(k:Int)
 wn:B7F sv.1
 hl:sv.2.length≤200
 hr:∀ h∈sv.2,A0y h.2=true
theorem B61{k:Nat}{sv:D4}(h:SvI k sv):Rt sv.1∧D4f sv∧D3 sv.1=some (true,()):=by
 obtain ⟨c,hd⟩:=h.dur
 obtain ⟨a,b,d,_⟩:=B5y hd.g
 have:=h.hl
 exact ⟨a,⟨b,by show sv.2.length≤_;omega⟩,d⟩
theorem D4n{k:Nat}{sv:D4}(h:SvI k sv):∀ u∈sv.1.2.2.2,(show Int from u.2.1)≤1000000:=by
 obtain ⟨c,hd⟩:=h.dur
 exact B0P hd.g.up h.wn (fun u hu=>by cases hu)
theorem C1N{k k':Nat}{sv:D4}(h:SvI k sv)(hk:k≤k'):SvI k' sv:=⟨h.dur,by have:=h.ep;omega,h.wn,h.hl,h.hr⟩
theorem C9S{k:Nat}{sv:D4}(h:SvI k sv):J3 sv=some (true,())∧A1Y sv=some (true,()):=by
 obtain ⟨hR,hS,hok⟩:=B61 h
 have hl:=h.hl
 obtain ⟨b,e1,e2,_⟩:=B88 sv hR.dk.1 hS.2
 have hs:J3 sv=some (true,()):=by
  simp only [J3,A61]
  have key:=G2 (M3 R1 sv) (fun j=>((j:Int),())) sv.2.length (.inl ()) (fun i hi=>?_) ?_
  ·have key':C0 (M3 R1 sv) (0,())=_:=key
   rw [key']
   simp only [B9]
   rw [A0 (by omega),hok]
   rfl
  ·simp only [M3]
   rw [A0 (show (i:Int)<(sv.2.length:Int) by omega),A0 (show (0:Int)≤(i:Int) by omega),E3 (k:=B0) (xs:=sv.2) hi,A7f,h.hr _ (List.getElem_mem hi),w64 (by omega) (by omega)]
   rfl
  ·simp only [M3]
   rw [A4 (by omega)]
   rfl
 rw [hs] at e1
 injection e1 with e1;injection e1 with e1
 subst e1
 exact ⟨hs,e2⟩
theorem C9T{k:Nat}{sv:D4}(h:SvI k sv):SvI k (((sv.1.1.1,sv.1.1.1),sv.1.2),[]):=by
 obtain ⟨c,hd⟩:=h.dur
 exact ⟨⟨_,B0O hd.g⟩,h.ep,h.wn,Nat.zero_le _,fun x hx=>by cases hx⟩
theorem D2c{k:Nat}{sv:D4}(h:SvI k sv):T1 sv=some ((((sv.1.1.1,sv.1.1.1),sv.1.2),[]),sv.2,()):=by
 obtain ⟨hR,hS,hok⟩:=B61 h
 have hl:=h.hl
 simp only [T1,A3S,A5U sv hS,(C9S h).1,bO,Bool.not_true,cond_false,Y5,A4n,V6 sv.1 hS.1,hok,B4s sv.1.1 hR.dk,cond_true]
 rw [A0 (by simp;omega),A0 (by simp;omega)]
 rfl
theorem D2d{k:Nat}{sv:D4}(h:SvI k sv)(hk:k≤9999)(ke:List Bool):∃ us,GoodS (S1 (Q2 sv.1.1.1 sv.1.1.2 ke) us)∧A5D sv.1.1=true∧SvI (k+1) (S1 (Q2 sv.1.1.1 sv.1.1.2 ke) us,[]):=by
 obtain ⟨c,hd⟩:=h.dur
 have hep:=h.ep
 obtain ⟨m,us,g1,g2,g3,g4,g5,g6,g7⟩:=B7E hd ke (by omega)
 refine ⟨us,g7,hd.g.dk,⟨_,B4x g7⟩,?_,?_,Nat.zero_le _,fun x hx=>by cases hx⟩
 ·show A3X (Q2 sv.1.1.1 sv.1.1.2 ke)+1≤((k+1:Nat):Int)
  omega
 ·intro r hr h1
  have hr':r∈B7 (Q2 sv.1.1.1 sv.1.1.2 ke):=hr
  rw [g3] at hr'
  exact h.wn r (List.mem_of_mem_take hr') h1
theorem C9U{k:Nat}{sv:D4}(h:SvI k sv)(hk:k≤9999)(ke:List Bool):∃ y,G6 sv ke=some (y,true,sv,())∧SvI (k+1) y:=by
 obtain ⟨us,g1,g2,g3⟩:=D2d h hk ke
 refine ⟨_,?_,g3⟩
 have hop:E5 (C1G sv.1.1 ke)=_:=B7G g1
 simp only [G6,U2,(C9S h).1,B7D sv.1.1 ke g2,hop,bO,Bool.not_true,cond_false]
theorem C9V{k:Nat}{sv:D4}(h:SvI k sv)(who:Int)(r:A16)(dat:List Int)(hid:r.2.1.size≤maxLen)(hb:Byt dat)(hd:dat.length≤1048576)(ho:-9223372036854775808≤r.2.2∧r.2.2≤9223372036854775807) :
  ∃ y b,W9 sv who r dat=some (y,b,())∧SvI k y:=by
 obtain ⟨hR,hS,hok⟩:=B61 h
 have hl:=h.hl
 obtain ⟨c,hdu⟩:=h.dur
 simp only [W9,A5R,A5U sv hS,(C9S h).1,C18 r hid,bO,Bool.not_true,cond_false]
 cases hq:A0v r with
 | false=>exact ⟨sv,false,rfl,h⟩
 | true=>
  by_cases h2:(sv.2.length:Int)=200
  ·rw [A0 h2];exact ⟨sv,false,rfl,h⟩
  ·rw [A4 h2]
   simp only [Bool.not_true,cond_false,B9,bO,C9P sv.1 r dat hid hR hS.1 hok hb hd ho]
   rw [A0 (by simp;omega),A0 (by simp;omega)]
   have hst:=C9Q (r:=r) hR hb
   obtain ⟨k1,k2,_⟩:=B3H hst hdu
   refine ⟨_,true,rfl,⟨c,k1⟩,by show (A8n sv.1 r dat).1.2.1≤_;rw [k2];exact h.ep,C1J hst hdu h.wn,by simp;omega,fun x hx=>?_⟩
   rcases List.mem_append.1 hx with hx | hx
   ·exact h.hr x hx
   ·rw [List.mem_singleton] at hx;subst hx;exact C9R hR hb hdu
theorem D2e(c:B5)(hc:Cur c):∃ r c',A0N c=some (r,c',())∧Cur c'∧-1≤r.2.2∧r.2.2≤4294967295:=by
 obtain ⟨k,c1,q1,h1,k0,k1⟩:=F6 c 6 hc (by omega)
 obtain ⟨s,c2,q2,h2,_⟩:=B2G c1 [(⟨#[97]⟩:ByteArray),(⟨#[98]⟩:ByteArray),(⟨#[117,112,49]⟩:ByteArray),(⟨#[101,105,103,104,116,108,101,116]⟩:ByteArray)] h1 (by simp)
 simp only [A0N,B09,q1,q2,bO]
 obtain ⟨m,qm⟩:∃ m,U7 (IntKind.i64.wrap (1+k))=some (m,()):=by
  simp only [U7,A52]
  cases decide (IntKind.i64.wrap (1+k)=1)<;>cases decide (IntKind.i64.wrap (1+k)=3)<;>cases decide (IntKind.i64.wrap (1+k)=4)<;>exact ⟨_,rfl⟩
 rw [qm]
 simp only [bO]
 cases decide (m≥0) with
 | false=>exact ⟨_,_,rfl,h2,by simp only;omega,by simp only;omega⟩
 | true=>
  obtain ⟨n,c3,q3,h3,hn⟩:=O3 c2 [0,5,24,100,1000000000] h2 (by simp)
  have hn2:0≤n∧n≤1000000000:=by
   simp only [List.mem_cons,List.not_mem_nil,or_false] at hn
   omega
  simp only [cond_true,q3,bO]
  cases decide (IntKind.i64.wrap (1+k)=4) with
  | false=>exact ⟨_,_,rfl,h3,by simp only;omega,by simp only;omega⟩
  | true=>
   obtain ⟨b,c4,q4,h4⟩:=A4U c3 2 h3 (by omega)
   simp only [cond_true,q4,bO]
   cases b
   ·exact ⟨_,_,rfl,h4,by simp only;omega,by simp only;omega⟩
   ·exact ⟨_,_,rfl,h4,by simp only;omega,by simp only;omega⟩
theorem C9W(c:B5)(hc:Cur c):∃ r c',A0N c=some (r,c',())∧Cur c'∧-1≤r.2.2∧r.2.2≤4294967295∧r.2.1.size≤64:=by
 obtain ⟨k,c1,q1,h1,k0,k1⟩:=F6 c 6 hc (by omega)
 obtain ⟨s,c2,q2,h2,hs⟩:=B2G c1 [(⟨#[97]⟩:ByteArray),(⟨#[98]⟩:ByteArray),(⟨#[117,112,49]⟩:ByteArray),(⟨#[101,105,103,104,116,108,101,116]⟩:ByteArray)] h1 (by simp)
 have hsz:s.size≤64:=by
  simp only [List.mem_cons,List.not_mem_nil,or_false] at hs
  rcases hs with rfl | rfl | rfl | rfl<;>decide
 simp only [A0N,B09,q1,q2,bO]
 obtain ⟨m,qm⟩:∃ m,U7 (IntKind.i64.wrap (1+k))=some (m,()):=by
  simp only [U7,A52]
  cases decide (IntKind.i64.wrap (1+k)=1)<;>cases decide (IntKind.i64.wrap (1+k)=3)<;>cases decide (IntKind.i64.wrap (1+k)=4)<;>exact ⟨_,rfl⟩
 rw [qm]
 simp only [bO]
 cases decide (m≥0) with
 | false=>exact ⟨_,_,rfl,h2,by simp only;omega,by simp only;omega,hsz⟩
 | true=>
  obtain ⟨n,c3,q3,h3,hn⟩:=O3 c2 [0,5,24,100,1000000000] h2 (by simp)
  have hn2:0≤n∧n≤1000000000:=by
   simp only [List.mem_cons,List.not_mem_nil,or_false] at hn
   omega
  simp only [cond_true,q3,bO]
  cases decide (IntKind.i64.wrap (1+k)=4) with
  | false=>exact ⟨_,_,rfl,h3,by simp only;omega,by simp only;omega,hsz⟩
  | true=>
   obtain ⟨b,c4,q4,h4⟩:=A4U c3 2 h3 (by omega)
   simp only [cond_true,q4,bO]
   cases b
   ·exact ⟨_,_,rfl,h4,by simp only;omega,by simp only;omega,hsz⟩
   ·exact ⟨_,_,rfl,h4,by simp only;omega,by simp only;omega,hsz⟩
theorem D2f{k:Nat}{sv:D4}(h:SvI k sv)(c:B5)(hc:Cur c):∃ r dat c',T8 c sv.1=some (r,dat,c',())∧Cur c'∧r.2.1.size≤maxLen∧Byt dat∧dat.length≤1048576∧(-9223372036854775808≤r.2.2∧r.2.2≤9223372036854775807):=by
 obtain ⟨hR,hS,hok⟩:=B61 h
 obtain ⟨r,c1,q1,h1,r0,r1⟩:=D2e c hc
 obtain ⟨s,c2,q2,h2,hs⟩:=B2G c1 [(⟨#[97]⟩:ByteArray),(⟨#[98]⟩:ByteArray),(⟨#[99]⟩:ByteArray)] h1 (by simp)
 have hsz:s.size≤maxLen:=by
  simp only [List.mem_cons,List.not_mem_nil,or_false] at hs
  rcases hs with rfl | rfl | rfl<;>decide
 have qu:=B7I sv.1 s hR.up
 obtain ⟨u,bu,qu',u1,u2,u3⟩:∃ u b,I1 sv.1 s=some (u,b,())∧(List.length u.2.2.1:Int)≤u.2.1∧u.2.1≤1000000∧Byt u.2.2.1:=by
  refine ⟨_,_,qu,?_⟩
  split
  ·rename_i hh
   obtain ⟨hlt,_⟩:=H3.1 hh
   have hg:=hR.up.2.2 _ (List.getElem_mem hlt)
   have hw:=D4n h _ (List.getElem_mem hlt)
   rw [E3 (k:=kUp) (xs:=sv.1.2.2.2) hlt]
   exact ⟨hg.1,hw,hg.2.2.2⟩
  ·exact ⟨by simp,by simp,T3⟩
 simp only [T8,A5S,q1,q2,qu',bO]
 cases decide (r.1=1) with
 | true=>
  obtain ⟨n,c3,q3,h3,hn⟩:=O3 c2 [0,3,30,1000000,1000001] h2 (by simp)
  have hn2:0≤n∧n≤1000001:=by
   simp only [List.mem_cons,List.not_mem_nil,or_false] at hn
   omega
  simp only [cond_true,q3,bO]
  exact ⟨_,_,_,rfl,h3,hsz,T3,Nat.zero_le _,by simp only;omega⟩
 | false=>
  simp only [cond_false]
  cases decide (r.1=3) with
  | true=>
   obtain ⟨o,c3,q3,h3,ho⟩:=O3 c2 [(List.length u.2.2.1:Int),(List.length u.2.2.1:Int),(List.length u.2.2.1:Int),0,7] h2 (by simp)
   have ho2:0≤o∧o≤1000007:=by
    simp only [List.mem_cons,List.not_mem_nil,or_false] at ho
    omega
   obtain ⟨n,c4,q4,h4,hn⟩:=O3 c3 [1,3,24,30,0] h3 (by simp)
   have hn2:0≤n∧n≤30:=by
    simp only [List.mem_cons,List.not_mem_nil,or_false] at hn
    omega
   obtain ⟨dat,c5,q5,h5,hl5,hb5⟩:=B0H c4 n h4 (by omega)
   simp only [cond_true,q3,q4,q5,bO]
   by_cases hg:u.2.1>(List.length u.2.2.1:Int)
   ·obtain ⟨b,c6,q6,h6⟩:=A4U c5 2 h5 (by omega)
    rw [A0 hg]
    simp only [cond_true,q6,bO]
    cases b with
    | true=>
     obtain ⟨d2,c7,q7,h7,hl7,hb7⟩:=B0H c6 (IntKind.i64.wrap (u.2.1-(List.length u.2.2.1:Int))) h6 (by rw [w64 (by omega) (by omega)];omega)
     rw [w64 (by omega) (by omega)] at hl7
     have q7':F3 (c6.1,(c6.2.1,c6.2.2)) (IntKind.i64.wrap (u.2.1-(List.length u.2.2.1:Int)))=_:=q7
     simp only [cond_true,q7',bO]
     exact ⟨_,_,_,rfl,h7,hsz,hb7,by omega,by simp only;omega⟩
    | false=>exact ⟨_,_,_,rfl,h6,hsz,hb5,by omega,by simp only;omega⟩
   ·rw [A4 hg]
    exact ⟨_,_,_,rfl,h5,hsz,hb5,by omega,by simp only;omega⟩
  | false=>
   simp only [cond_false]
   cases decide (r.1=4) with
   | true=>
    have hx:A3U u.2.2.1 ^^^ 4294967295<2 ^ 32:=Nat.xor_lt_two_pow (A66 u3) (by omega)
    simp only [cond_true]
    rw [B2C _ u3 (by simp only [maxLen];omega)]
    simp only [bO]
    obtain ⟨n,c3,q3,h3,hn⟩:=O3 c2 [((A3U u.2.2.1 ^^^ 4294967295:Nat):Int),((A3U u.2.2.1 ^^^ 4294967295:Nat):Int),7] h2 (by simp)
    have hn2:0≤n∧n≤4294967296:=by
     simp only [List.mem_cons,List.not_mem_nil,or_false] at hn
     omega
    simp only [q3,bO]
    exact ⟨_,_,_,rfl,h3,hsz,T3,Nat.zero_le _,by simp only;omega⟩
   | false=>exact ⟨_,_,_,rfl,h2,hsz,T3,Nat.zero_le _,by simp only;omega⟩
theorem C9X(c:B5)(n:Int)(hc:Cur c)(hn:0<n∧n≤1000):∃ y c',P0 c n=some (y,c',())∧SvI 1000 y∧Cur c':=by
 obtain ⟨m,c1,q1,h1,hm⟩:=O3 c [30,30,6] hc (by simp)
 have hm2:m≤200:=by
  simp only [List.mem_cons,List.not_mem_nil,or_false] at hm
  omega
 obtain ⟨k,c2,q2,h2,k0,k1⟩:=F6 c1 n h1 (by omega)
 have h0:SvI 0 (L9 m):=by
  obtain ⟨⟨d,hd⟩,hep,_⟩:=A8D m hm2
  have hsc:B7 (D0 m).1 = []:=by
   have h1:(0:Int)=((B7 (D0 m).1).length:Int):=by
    rcases hd.g with ⟨_,_,_,h4,_⟩
    exact h4
   exact List.eq_nil_of_length_eq_zero (by omega)
  exact ⟨⟨d,hd⟩,hep,fun r hr=>by (rw [show B7 (L9 m).1.1.1 = [] from hsc] at hr;cases hr),Nat.zero_le _,fun x hx=>by cases hx⟩
 simp only [P0,A0P,B2M,q1,q2,bO]
 obtain ⟨z,e,hz⟩:=R4 (Y7 G6 W9 T1 O2 T8 C1) (fun l=>l.1.toNat)
  (fun l=>∃ j:Nat,l.1≤1000-(j:Int)∧j≤1000∧SvI j (((l.2.2.2.2.2.2.1,l.2.2.2.2.2.2.2.1),(l.2.1,(l.2.2.1,l.2.2.2.2.2.2.2.2.1))),l.2.2.2.2.2.2.2.2.2.1)∧Cur (l.2.2.2.1,(l.2.2.2.2.1,l.2.2.2.2.2.1))) (fun z=>SvI 1000 z.1∧Cur z.2.1) (fun l hl=>by
   obtain ⟨j,g0,gj,g1,g2⟩:=hl
   simp only [Y7]
   by_cases hi:l.1>0
   ·obtain ⟨b,c3,q3,h3,b0,b1⟩:=F6 _ 6 g2 (by omega)
    rw [A0 hi,q3]
    simp only [cond_true,bO]
    rw [w64 (by omega) (by omega)]
    cases decide (b=0) with
    | true=>
     have qs:=D2c g1
     simp only [cond_true,qs,bO]
     exact .inl ⟨_,rfl,⟨j+1,by simp only;omega,by omega,C1N (C9T g1) (by omega),h3⟩,by simp only;omega⟩
    | false=>
     simp only [cond_false]
     cases decide (b=1) with
     | true=>
      obtain ⟨ke,c4,q4,h4⟩:=C1B c3 h3
      obtain ⟨y,q5,hy⟩:=C9U g1 (by omega) ke
      simp only [cond_true,q4,q5,bO]
      exact .inl ⟨_,rfl,⟨j+1,by simp only;omega,by omega,hy,h4⟩,by simp only;omega⟩
     | false=>
      obtain ⟨r,dat,c4,q4,h4,a1,a2,a3,a4⟩:=D2f g1 c3 h3
      obtain ⟨who,c5,q5,h5,_⟩:=F6 c4 3 h4 (by omega)
      obtain ⟨y,b',q6,hy⟩:=C9V g1 who r dat a1 a2 a3 a4
      have q4':T8 c3 ((l.2.2.2.2.2.2.1,l.2.2.2.2.2.2.2.1),(l.2.1,(l.2.2.1,l.2.2.2.2.2.2.2.2.1)))=_:=q4
      simp only [cond_false,q4',q5,q6,bO]
      exact .inl ⟨_,rfl,⟨j+1,by simp only;omega,by omega,C1N hy (by omega),h5⟩,by simp only;omega⟩
   ·rw [A4 hi]
    exact .inr ⟨_,rfl,C1N g1 gj,g2⟩) (k,(L9 m).1.2.1,(L9 m).1.2.2.1,c2.1,c2.2.1,c2.2.2,(L9 m).1.1.1,(L9 m).1.1.2,(L9 m).1.2.2.2,(L9 m).2,()) ⟨0,by simp only;omega,by omega,h0,h2⟩
 exact ⟨z.1,z.2.1,e,hz⟩
structure LeU (u v:TUp):Prop where
 id:u.1=v.1
 want:@Eq Int u.2.1 v.2.1
 len:List.length u.2.2.1≤List.length v.2.2.1
 dat:u.2.2.1=List.take (List.length u.2.2.1) v.2.2.1
 fin:u.2.2.2=true→v.2.2.2=true∧v.2.2.1=u.2.2.1
def B7J(us vs:List TUp):Prop:=∀ u∈us,∃ v∈vs,LeU u v
theorem C1O(u:TUp):LeU u u:=⟨rfl,rfl,Nat.le_refl _,(List.take_length).symm,fun h=>⟨h,rfl⟩⟩
theorem D2g{u v x:TUp}(h:LeU u v)(h':LeU v x):LeU u x:=
 ⟨h.id.trans h'.id,h.want.trans h'.want,Nat.le_trans h.len h'.len,by
  have h1:=h.dat
  rw [h'.dat,List.take_take,Nat.min_eq_left h.len] at h1
  exact h1,fun hd=>by
  obtain ⟨g1,g2⟩:=h.fin hd
  obtain ⟨g3,g4⟩:=h'.fin g1
  exact ⟨g3,g4.trans g2⟩⟩
theorem C4I(us:List TUp):B7J us us:=fun u hu=>⟨u,hu,C1O u⟩
theorem C9Y{us vs xs:List TUp}(h:B7J us vs)(h':B7J vs xs):B7J us xs:=fun u hu=>by
 obtain ⟨v,hv,h1⟩:=h u hu
 obtain ⟨x,hx,h2⟩:=h' v hv
 exact ⟨x,hx,D2g h1 h2⟩
theorem C6x{us:List TUp}{p:Nat}{v:TUp}(h:∀ hp:p<us.length,LeU us[p] v):B7J us (us.set p v):=fun u hu=>by
 obtain ⟨j,hj,rfl⟩:=List.getElem_of_mem hu
 by_cases hjp:p=j
 ·subst hjp
  exact ⟨v,List.mem_iff_getElem.2 ⟨p,by rw [List.length_set];exact hj,List.getElem_set_self _⟩,h hj⟩
 ·exact ⟨us[j],List.mem_iff_getElem.2 ⟨j,by rw [List.length_set];exact hj,List.getElem_set_ne hjp _⟩,C1O _⟩
theorem C1P{us us':List TUp}{r:F7}(h:J6 us r=some us')(hk:r.2.2.1≠4):B7J us us':=by
 simp only [J6] at h
 split at h
 ·split at h
  ·cases h
  ·injection h with h;subst h
   intro u hu
   refine ⟨u,?_,C1O u⟩
   rw [← List.take_append_drop (B2 us r.2.2.2.1) us] at hu
   rcases List.mem_append.1 hu with hu | hu
   ·exact List.mem_append_left _ hu
   ·exact List.mem_append_right _ (List.mem_cons_of_mem _ hu)
 ·split at h
  ·cases h
  ·split at h
   ·split at h
    ·cases h
    ·rename_i hc
     injection h with h;subst h
     refine C6x fun hp=>?_
     rw [E3 (k:=kUp) (xs:=us) hp] at hc ⊢
     rw [not_or] at hc
     refine ⟨rfl,rfl,?_,?_,fun hd=>absurd hd hc.1⟩
     ·simp only [List.length_append];omega
     ·simp only [List.take_left]
   ·split at h
    ·split at h
     ·cases h
     ·injection h with h;subst h
      refine C6x fun hp=>?_
      rw [E3 (k:=kUp) (xs:=us) hp]
      refine ⟨rfl,rfl,Nat.le_refl _,(List.take_length).symm,fun _=>⟨rfl,rfl⟩⟩
    ·cases h
theorem C1Q:∀ {l:List F7} {us us':List TUp},G3 us l=some us'→(∀ r∈l,r.2.2.1≠4)→B7J us us'
 | [],us,us',h,_=>by
  simp only [G3,Option.some.injEq] at h;subst h
  exact C4I _
 | r::l,us,us',h,hk=>by
  simp only [G3] at h
  split at h
  ·rename_i us1 e1
   exact C9Y (C1P e1 (hk r List.mem_cons_self)) (C1Q h fun x hx=>hk x (List.mem_cons_of_mem _ hx))
  ·cases h
theorem B7K{L:List F7}{a b:Nat}{ua ub:List TUp}(hab:a≤b)(ha:G3 [] (L.take a)=some ua)(hb:G3 [] (L.take b)=some ub)(hk:∀ r∈L,r.2.2.1≠4):B7J ua ub:=by
 have e:L.take b=L.take a++(L.take b).drop a:=by
  have:=List.take_append_drop a (L.take b)
  rw [List.take_take,Nat.min_eq_left hab] at this
  exact this.symm
 rw [e,B2S,ha] at hb
 exact C1Q hb fun r hr=>hk r (List.mem_of_mem_take (List.mem_of_mem_drop hr))
structure OkU (f:List Int) (u:TUp):Prop where
 want:@Eq Int u.2.1 (f.length:Int)
 len:List.length u.2.2.1≤f.length
 dat:u.2.2.1=f.take (List.length u.2.2.1)
 fin:u.2.2.2=true→List.length u.2.2.1=f.length
theorem D7P{f:List Int}{u v:TUp}(h:LeU u v)(hv:OkU f v):OkU f u:=by
 refine ⟨h.want.trans hv.want,Nat.le_trans h.len hv.len,?_,fun hd=>?_⟩
 ·have h1:=h.dat
  rw [hv.dat,List.take_take,Nat.min_eq_left h.len] at h1
  exact h1
 ·obtain ⟨g1,g2⟩:=h.fin hd
  rw [← g2]
  exact hv.fin g1
structure ClG (c:B1):Prop where
 ok:I6 c=true
 lo:c.2.2.1≠6
 byt:Byt c.2.1
 off:c.2.2.1=3→c.2.2.2<(c.2.1.length:Int)
def Fits(c:B1)(r:A0w):Prop:=
 (c.2.2.1=1∧(r=(201,0)∨(∃ o:Nat,o≤c.2.1.length∧r=(409,(o:Int)))∨r=(507,-1)))∨
 (c.2.2.1=2∧(r=(404,-1)∨∃ o:Nat,o≤c.2.1.length∧r=(200,(o:Int))))∨
 (c.2.2.1=3∧((∃ o:Nat,o≤c.2.1.length∧(r=(204,(o:Int))∨r=(409,(o:Int))))∨r=(404,-1)∨r=(507,-1)))∨
 (c.2.2.1=4∧(r=(200,-1)∨r=(404,-1)∨(∃ o:Nat,o≤c.2.1.length∧r=(409,(o:Int)))∨r=(507,-1)))
def Told(c:B1)(r:A0w)(us:List TUp):Prop:=
 (r.2=-1∨∃ u∈us,u.1=c.1∧r.2≤(List.length u.2.2.1:Int))∧(c.2.2.1=4→r.1=200→∃ u∈us,u.1=c.1∧u.2.2.2=true)
theorem C4J{c:B1}{r:A0w}{us vs:List TUp}(h:Told c r us)(hl:B7J us vs):Told c r vs:=by
 refine ⟨h.1.elim .inl fun ⟨u,hu,e,hle⟩=>?_,fun h4 h2=>?_⟩
 ·obtain ⟨v,hv,hlu⟩:=hl u hu
  have:=hlu.len
  exact .inr ⟨v,hv,hlu.id.symm.trans e,by omega⟩
 ·obtain ⟨u,hu,e,hd⟩:=h.2 h4 h2
  obtain ⟨v,hv,hlu⟩:=hl u hu
  exact ⟨v,hv,hlu.id.symm.trans e,(hlu.fin hd).1⟩
def D7Q(c:B1)(st st':A5):Prop:=st' = st∨∃ r us,B1I r∧r.1=st.2.1∧r.2.1=st.2.2.1∧st.2.2.1<(st.1.1.length:Int)∧J6 st.2.2.2 r=some us∧r.2.2.1≠4∧st' = wrote st r us∧∀ u∈us,u∈st.2.2.2∨(u.1=c.1∧OkU c.2.1 u)
theorem B3I{st:A5}{id:ByteArray}(h:H5 st.2.2.2 id=true):∃ u∈st.2.2.2,u.1=id∧lenOf st id=(List.length u.2.2.1:Int)∧rd kUp st.2.2.2 (B2 st.2.2.2 id:Int)=u:=by
 obtain ⟨hlt,e⟩:=H3.1 h
 refine ⟨_,List.getElem_mem hlt,C5G e,?_,E3 (k:=kUp) (xs:=st.2.2.2) hlt⟩
 unfold lenOf
 rw [if_pos h,E3 (k:=kUp) (xs:=st.2.2.2) hlt]
theorem A0d{c:B1}(h:ClG c):idB c.1=true∧c.2.1.length≤400∧1≤c.2.2.1∧c.2.2.1≤5∧0≤c.2.2.2∧c.2.2.2≤(c.2.1.length:Int):=by
 have h1:=h.ok
 simp only [I6,Bool.and_eq_true,decide_eq_true_eq] at h1
 have:=h.lo
 refine ⟨h1.1.1.1,?_⟩
 omega
theorem D2h{c:B1}(hc:ClG c){st:A5}(hR:Rt st)(hu:∀ u∈st.2.2.2,u.1=c.1→OkU c.2.1 u){r:A16}{dat:List Int}(hq:M7 c=(r,dat,true,())) :
  D7Q c st (A8n st r dat).1∧Fits c (A8n st r dat).2∧Told c (A8n st r dat).2 (A8n st r dat).1.2.2.2:=by
 obtain ⟨hid,hlen,h1,h5,o0,o1⟩:=A0d hc
 obtain ⟨r5,r200⟩:=D7O hR
 have tell:H5 st.2.2.2 c.1=true→∃ o:Nat,o≤c.2.1.length∧lenOf st c.1=(o:Int)∧∃ u∈st.2.2.2,u.1=c.1∧(o:Int)≤(List.length u.2.2.1:Int):=fun hh=>by
  obtain ⟨u,hm,e,hl,_⟩:=B3I hh
  exact ⟨_,(hu u hm e).len,hl,u,hm,e,Int.le_refl _⟩
 unfold M7 at hq
 rw [hc.ok] at hq
 simp only [Bool.true_eq_false,if_false] at hq
 split at hq
 ·rename_i s1
  injection hq with q1 q2
  injection q2 with q2 _
  subst q1;subst q2
  simp only [A8n,if_true]
  have hcode:∀ k,(A5E st c.1 (c.2.1.length:Int)).2=k→k=0∨k=3∧H5 st.2.2.2 c.1=true∨k=5:=by
   intro k hk
   unfold A5E at hk
   rw [if_pos ⟨hid,by omega,by omega⟩] at hk
   split at hk
   ·rename_i hh;exact .inr (.inl ⟨hk.symm,hh⟩)
   ·split at hk
    ·exact .inr (.inr hk.symm)
    ·exact .inl hk.symm
  by_cases hz:(A5E st c.1 (c.2.1.length:Int)).2=0
  ·rw [if_pos hz]
   have hz':=hz
   unfold A5E at hz' ⊢
   rw [if_pos ⟨hid,by omega,by omega⟩] at hz' ⊢
   split at hz'
   ·simp at hz'
   ·rename_i hh
    rw [if_neg hh]
    split at hz'
    ·simp at hz'
    ·rename_i h10
     rw [if_neg h10]
     have hr:=B2O hR.g 1 (c.2.1.length:Int) c.1 hid (fun hx=>h10 (.inl hx)) (.inl ⟨rfl,by omega,by omega⟩)
     have hf:=B7B (st:=st) (id:=c.1) (want:=(c.2.1.length:Int)) hh (fun hx=>h10 (.inr hx))
     refine ⟨.inr ⟨_,_,⟨hr,T3⟩,rfl,rfl,by omega,hf,by simp,rfl,fun u hm=>?_⟩,.inl ⟨s1,.inl rfl⟩,.inr ⟨(c.1,(c.2.1.length:Int),[],false),?_,rfl,by simp⟩,fun h4=>by rw [s1] at h4;cases h4⟩
     ·rcases List.mem_append.1 hm with hm | hm
      ·exact .inl (List.mem_of_mem_take hm)
      ·rcases List.mem_cons.1 hm with rfl | hm
       ·exact .inr ⟨rfl,rfl,Nat.zero_le _,rfl,fun h=>by cases h⟩
       ·exact .inl (List.mem_of_mem_drop hm)
     ·show _∈_++_::_
      simp
  ·rw [if_neg hz,B4z hz]
   rcases hcode _ rfl with h | ⟨h,hh⟩ | h
   ·exact absurd h hz
   ·obtain ⟨o,g1,g2,g3⟩:=tell hh
    rw [h]
    have e:J7 st 3 c.1=(409,(o:Int)):=by unfold J7;rw [if_neg (by omega),if_pos (.inl rfl),g2]
    rw [e]
    exact ⟨.inl rfl,.inl ⟨s1,.inr (.inl ⟨o,g1,rfl⟩)⟩,.inr g3,fun h4=>by rw [s1] at h4;cases h4⟩
   ·rw [h]
    have e:J7 st 5 c.1=(507,-1):=by unfold J7;rw [if_neg (by omega),if_neg (by omega),if_pos rfl]
    rw [e]
    exact ⟨.inl rfl,.inl ⟨s1,.inr (.inr rfl)⟩,.inl rfl,fun h4=>by rw [s1] at h4;cases h4⟩
 ·split at hq
  ·rename_i s2
   injection hq with q1 q2
   injection q2 with q2 _
   subst q1;subst q2
   simp only [A8n]
   rw [if_neg (by omega),if_neg (by omega),if_neg (by omega),if_neg (by omega)]
   refine ⟨.inl rfl,?_⟩
   unfold D4m
   simp only
   split
   ·rename_i hh
    obtain ⟨o,g1,g2,g3⟩:=tell hh
    rw [if_neg (by simp),g2]
    exact ⟨.inr (.inl ⟨s2,.inr ⟨o,g1,rfl⟩⟩),.inr g3,fun h4=>by rw [s2] at h4;cases h4⟩
   ·exact ⟨.inr (.inl ⟨s2,.inl rfl⟩),.inl rfl,fun h4=>by rw [s2] at h4;cases h4⟩
  ·split at hq
   ·rename_i s3
    injection hq with q1 q2
    injection q2 with q2 _
    subst q1
    have hoff:=hc.off s3
    obtain ⟨ho,hoe⟩:∃ o:Nat,c.2.2.2=(o:Int):=⟨c.2.2.2.toNat,by omega⟩
    rw [hoe,Int.toNat_natCast] at q2
    have hdl:dat.length=min (ho+24) c.2.1.length-ho:=by rw [← q2];simp [List.length_drop,List.length_take]
    have hbd:Byt dat:=by rw [← q2];exact A6t (A3V hc.byt _) _
    have hpc:nPc dat=1:=by unfold nPc;omega
    simp only [A8n]
    rw [if_neg (by omega),if_pos trivial]
    have hcode:∀ k,(A8l st c.1 c.2.2.2 dat).2=k→k=0∨k=2∨k=4∧H5 st.2.2.2 c.1=true∨k=5:=by
     intro k hk
     unfold A8l at hk
     rw [if_pos ⟨hid,by omega,by omega⟩] at hk
     split at hk
     ·rename_i hh
      split at hk
      ·exact .inr (.inr (.inl ⟨hk.symm,hh⟩))
      ·split at hk
       ·exact .inr (.inr (.inr hk.symm))
       ·exact .inl hk.symm
     ·exact .inr (.inl hk.symm)
    by_cases hz:(A8l st c.1 c.2.2.2 dat).2=0
    ·rw [if_pos hz]
     obtain ⟨e1,e2,e3⟩:=B60 hR hbd hz
     have hz':=hz
     unfold A8l at hz' e1 ⊢
     rw [if_pos ⟨hid,by omega,by omega⟩] at hz' e1 ⊢
     split at hz'
     ·rename_i hh
      rw [if_pos hh] at e1 ⊢
      split at hz'
      ·simp at hz'
      ·rename_i h4
       rw [if_neg h4] at e1 ⊢
       split at hz'
       ·simp at hz'
       ·rename_i hl5
        rw [if_neg hl5] at e1 ⊢
        simp only [hpc] at e1 ⊢
        have hcc:=C00 hR hbd hid (by omega) hh h4 hl5
        obtain ⟨hr,hf,hI⟩:=B5s hcc (D4i hcc) (show 0<nPc dat by omega)
        have hpl:O4 24 dat 0=dat:=by unfold O4;rw [Nat.zero_mul,Nat.zero_add,List.drop_zero,List.take_of_length_le (by omega)]
        have hnx:=hcc.nx
        obtain ⟨u0,hm0,hid0,hl0,hrd0⟩:=B3I hh
        have hok0:=hu u0 hm0 hid0
        have hnd:u0.2.2.2=false:=by have:=hcc.nd;rw [hrd0] at this;exact this
        have hat:c.2.2.2=(List.length u0.2.2.1:Int):=by rw [e2,hl0]
        have hnew:OkU c.2.1 (u0.1,u0.2.1,u0.2.2.1++dat,u0.2.2.2):=by
         refine ⟨hok0.want,?_,?_,fun hd=>by rw [hnd] at hd;cases hd⟩
         ·simp only [List.length_append];omega
         ·simp only [List.length_append]
          have hou:List.length u0.2.2.1=ho:=by omega
          have hd0:=hok0.dat
          rw [hou] at hd0
          rw [hou,hdl]
          rw [hd0,← q2]
          have:=List.take_append_drop ho (c.2.1.take (min (ho+24) c.2.1.length))
          rw [List.take_take,Nat.min_eq_left (by omega)] at this
          rw [this]
          congr 1
          omega
        have hcat:B5r st.2.2.2 c.1 dat=st.2.2.2.set (B2 st.2.2.2 c.1) (u0.1,u0.2.1,u0.2.2.1++dat,u0.2.2.2):=by unfold B5r;rw [hrd0]
        rw [hpl] at hr hf
        have hmem:∀ u∈B5r st.2.2.2 c.1 dat,u∈st.2.2.2∨(u.1=c.1∧OkU c.2.1 u):=fun u hm=>by
         rw [hcat] at hm
         rcases List.mem_or_eq_of_mem_set hm with hm | rfl
         ·exact .inl hm
         ·exact .inr ⟨hid0,hnew⟩
        have hput1:putAt st c.1 c.2.2.2 dat 1=wrote st (st.2.1,st.2.2.1,2,c.1,c.2.2.2+((0*24:Nat):Int),dat) (B5r st.2.2.2 c.1 dat):=by
         show C9G (putAt st c.1 c.2.2.2 dat 0) c.1 _ (O4 24 dat 0)=_
         rw [hpl];rfl
        rw [hput1]
        refine ⟨.inr ⟨_,_,⟨hr,hbd⟩,rfl,rfl,by omega,hf,by simp,rfl,hmem⟩,.inr (.inr (.inl ⟨s3,.inl ⟨(c.2.2.2+(dat.length:Int)).toNat,by omega,.inl ?_⟩⟩)),.inr ?_,fun h4=>by rw [s3] at h4;cases h4⟩
        ·rw [Int.toNat_of_nonneg (by omega)]
        ·refine ⟨(u0.1,u0.2.1,u0.2.2.1++dat,u0.2.2.2),?_,hid0,by simp only [List.length_append];omega⟩
         show _∈B5r st.2.2.2 c.1 dat
         rw [hcat]
         obtain ⟨hlt,_⟩:=H3.1 hh
         exact List.mem_iff_getElem.2 ⟨_,by rw [List.length_set];exact hlt,List.getElem_set_self _⟩
     ·simp at hz'
    ·rw [if_neg hz,B7H hz]
     rcases hcode _ rfl with h | h | ⟨h,hh⟩ | h
     ·exact absurd h hz
     ·rw [h]
      have e:J7 st 2 c.1=(404,-1):=by unfold J7;rw [if_pos rfl]
      rw [e]
      exact ⟨.inl rfl,.inr (.inr (.inl ⟨s3,.inr (.inl rfl)⟩)),.inl rfl,fun h4=>by rw [s3] at h4;cases h4⟩
     ·obtain ⟨o,g1,g2,g3⟩:=tell hh
      rw [h]
      have e:J7 st 4 c.1=(409,(o:Int)):=by unfold J7;rw [if_neg (by omega),if_pos (.inr rfl),g2]
      rw [e]
      exact ⟨.inl rfl,.inr (.inr (.inl ⟨s3,.inl ⟨o,g1,.inr rfl⟩⟩)),.inr g3,fun h4=>by rw [s3] at h4;cases h4⟩
     ·rw [h]
      have e:J7 st 5 c.1=(507,-1):=by unfold J7;rw [if_neg (by omega),if_neg (by omega),if_pos rfl]
      rw [e]
      exact ⟨.inl rfl,.inr (.inr (.inl ⟨s3,.inr (.inr rfl)⟩)),.inl rfl,fun h4=>by rw [s3] at h4;cases h4⟩
   ·split at hq
    ·rename_i s4
     injection hq with q1 q2
     injection q2 with q2 _
     subst q1;subst q2
     simp only [A8n]
     rw [if_neg (by omega),if_neg (by omega),if_pos trivial]
     have hcrc:∀ u∈st.2.2.2,u.1=c.1→¬ (List.length u.2.2.1:Int)<u.2.1→u.2.2.1=c.2.1:=fun u hm e hl=>by
      have hk:=hu u hm e
      have h7:=hk.want
      have h8:=hk.len
      have h9:=hk.dat
      rw [List.take_of_length_le (by omega)] at h9
      exact h9
     have hcode:∀ k,(A40 st c.1 ((A3U c.2.1 ^^^ 4294967295:Nat):Int)).2=k→(k=0∧∃ u∈(A40 st c.1 ((A3U c.2.1 ^^^ 4294967295:Nat):Int)).1.2.2.2,u.1=c.1∧u.2.2.2=true)∨k=2∨k=4∧H5 st.2.2.2 c.1=true∨k=5:=by
      intro k hk
      unfold A40 at hk ⊢
      rw [if_pos hid] at hk ⊢
      split at hk
      ·rename_i hh
       obtain ⟨u0,hm0,hid0,hl0,hrd0⟩:=B3I hh
       rw [if_pos hh]
       rw [hrd0] at hk ⊢
       split at hk
       ·exact .inr (.inr (.inl ⟨hk.symm,hh⟩))
       ·rename_i hl
        rw [if_neg hl]
        have hfd:=hcrc u0 hm0 hid0 hl
        rw [hfd] at hk ⊢
        simp only [ne_eq,not_true_eq_false,if_false] at hk ⊢
        split at hk
        ·rename_i hd
         rw [if_pos hd]
         exact .inl ⟨hk.symm,u0,hm0,hid0,hd⟩
        ·rename_i hd
         rw [if_neg hd]
         split at hk
         ·exact .inr (.inr (.inr hk.symm))
         ·rename_i hle
          rw [if_neg hle]
          refine .inl ⟨hk.symm,(u0.1,u0.2.1,c.2.1,true),?_,hid0,rfl⟩
          obtain ⟨hlt,_⟩:=H3.1 hh
          show _∈List.set _ _ _
          exact List.mem_iff_getElem.2 ⟨_,by rw [List.length_set];exact hlt,List.getElem_set_self _⟩
      ·exact .inr (.inl hk.symm)
     by_cases hz:(A40 st c.1 ((A3U c.2.1 ^^^ 4294967295:Nat):Int)).2=0
     ·rw [if_pos hz]
      rcases hcode _ rfl with ⟨_,hd⟩ | h | ⟨h,_⟩ | h
      ·refine ⟨?_,.inr (.inr (.inr ⟨s4,.inl rfl⟩)),.inl rfl,fun _ _=>hd⟩
       have hz':=hz
       unfold A40 at hz' ⊢
       rw [if_pos hid] at hz' ⊢
       split at hz'
       ·rename_i hh
        rw [if_pos hh]
        split at hz'
        ·simp at hz'
        ·rename_i hl
         rw [if_neg hl]
         split at hz'
         ·simp at hz'
         ·rename_i hcr
          rw [if_neg hcr]
          split at hz'
          ·rename_i hd
           rw [if_pos hd]
           exact .inl rfl
          ·rename_i hd
           rw [if_neg hd]
           split at hz'
           ·simp at hz'
           ·rename_i hle
            rw [if_neg hle]
            have hr:=B2O hR.g 3 0 c.1 hid hle (.inr ⟨.inl rfl,rfl⟩)
            have hf:=B7C hR.up hh hl hd
            obtain ⟨u0,hm0,hid0,hl0,hrd0⟩:=B3I hh
            have hok0:=hu u0 hm0 hid0
            refine .inr ⟨_,_,⟨hr,T3⟩,rfl,rfl,by omega,hf,by simp,rfl,fun u hm=>?_⟩
            rw [hrd0] at hm hl
            rcases List.mem_or_eq_of_mem_set hm with hm | rfl
            ·exact .inl hm
            ·have h7:=hok0.want
             have h8:=hok0.len
             exact .inr ⟨hid0,hok0.want,hok0.len,hok0.dat,fun _=>by show List.length u0.2.2.1=_;omega⟩
       ·simp at hz'
      ·rw [h] at hz;cases hz
      ·rw [h] at hz;cases hz
      ·rw [h] at hz;cases hz
     ·rw [if_neg hz,B50 hz]
      rcases hcode _ rfl with ⟨h,_⟩ | h | ⟨h,hh⟩ | h
      ·exact absurd h hz
      ·rw [h]
       have e:J7 st 2 c.1=(404,-1):=by unfold J7;rw [if_pos rfl]
       rw [e]
       exact ⟨.inl rfl,.inr (.inr (.inr ⟨s4,.inr (.inl rfl)⟩)),.inl rfl,fun _ h2=>by cases h2⟩
      ·obtain ⟨o,g1,g2,g3⟩:=tell hh
       rw [h]
       have e:J7 st 4 c.1=(409,(o:Int)):=by unfold J7;rw [if_neg (by omega),if_pos (.inr rfl),g2]
       rw [e]
       exact ⟨.inl rfl,.inr (.inr (.inr ⟨s4,.inr (.inr (.inl ⟨o,g1,rfl⟩))⟩)),.inr g3,fun _ h2=>by cases h2⟩
      ·rw [h]
       have e:J7 st 5 c.1=(507,-1):=by unfold J7;rw [if_neg (by omega),if_neg (by omega),if_pos rfl]
       rw [e]
       exact ⟨.inl rfl,.inr (.inr (.inr ⟨s4,.inr (.inr (.inr rfl))⟩)),.inl rfl,fun _ h2=>by cases h2⟩
    ·unfold B84 at hq
     injection hq with _ hq
     injection hq with _ hq
     injection hq with hq _
     cases hq
theorem D2i{c:B1}(hc:ClG c){r:A0w}(hf:Fits c r):ClG (hear c r)∧(hear c r).1=c.1∧(hear c r).2.1=c.2.1∧((hear c r).2.2.1=5→c.2.2.1=4∧r.1=200)∧B5k c=false:=by
 obtain ⟨hid,hlen,h1,h5,o0,o1⟩:=A0d hc
 have mk:∀ (s o:Int),1≤s→s≤5→0≤o→o≤(c.2.1.length:Int)→(s=3→o<(c.2.1.length:Int))→ClG (c.1,c.2.1,s,o):=fun s o g1 g2 g3 g4 g5=>by
  refine ⟨?_,by show s≠6;omega,hc.byt,g5⟩
  simp only [I6,Bool.and_eq_true,decide_eq_true_eq]
  refine ⟨⟨⟨hid,by omega⟩,by omega⟩,by omega⟩
 have far_ok:∀ o:Nat,o≤c.2.1.length→ClG (far c (o:Int))∧(far c (o:Int)).1=c.1∧(far c (o:Int)).2.1=c.2.1∧(far c (o:Int)).2.2.1≠5:=fun o ho=>by
  unfold far
  rw [if_pos ⟨by omega,by omega⟩]
  split
  ·exact ⟨mk 4 _ (by omega) (by omega) (by omega) (by omega) (fun h=>by cases h),rfl,rfl,by simp⟩
  ·exact ⟨mk 3 _ (by omega) (by omega) (by omega) (by omega) (fun _=>by omega),rfl,rfl,by simp⟩
 have ov:∀ s:Int,c.2.2.1=s→s≠5→s≠6→B5k c=false:=fun s e n5 n6=>by
  unfold B5k
  rw [e,A4 n5,A4 n6]
  rfl
 have stay:∀ (st o:Int) (s:Int),A6s c.2.2.1 st=s→s≠0→s≠5→1≤s→s≤4→(s=3→c.2.2.2<(c.2.1.length:Int))→ClG (hear c (st,o))∧(hear c (st,o)).1=c.1∧(hear c (st,o)).2.1=c.2.1∧(hear c (st,o)).2.2.1≠5:=fun st o s e n0 n5 g1 g2 g3=>by
  unfold hear
  simp only [e]
  rw [if_neg n0]
  exact ⟨mk s _ g1 (by omega) o0 o1 g3,rfl,rfl,n5⟩
 have goFar:∀ (st:Int) (o:Nat),A6s c.2.2.1 st=0→o≤c.2.1.length→ClG (hear c (st,(o:Int)))∧(hear c (st,(o:Int))).1=c.1∧(hear c (st,(o:Int))).2.1=c.2.1∧(hear c (st,(o:Int))).2.2.1≠5:=fun st o e ho=>by
  unfold hear
  simp only [e]
  exact far_ok o ho
 have fin:∀ {r:A0w},(ClG (hear c r)∧(hear c r).1=c.1∧(hear c r).2.1=c.2.1∧(hear c r).2.2.1≠5)→B5k c=false→ClG (hear c r)∧(hear c r).1=c.1∧(hear c r).2.1=c.2.1∧((hear c r).2.2.1=5→c.2.2.1=4∧r.1=200)∧B5k c=false:=fun h ho=>⟨h.1,h.2.1,h.2.2.1,fun e=>absurd e h.2.2.2,ho⟩
 rcases hf with ⟨s,h | ⟨o,ho,h⟩ | h⟩ | ⟨s,h | ⟨o,ho,h⟩⟩ | ⟨s,⟨o,ho,h | h⟩ | h | h⟩ | ⟨s,h | h | ⟨o,ho,h⟩ | h⟩<;>subst h
 ·exact fin (goFar 201 0 (by rw [s];rfl) (Nat.zero_le _)) (ov _ s (by omega) (by omega))
 ·exact fin (stay 409 _ 2 (by rw [s];rfl) (by omega) (by omega) (by omega) (by omega) (fun h=>by cases h)) (ov _ s (by omega) (by omega))
 ·exact fin (stay 507 _ 1 (by rw [s];rfl) (by omega) (by omega) (by omega) (by omega) (fun h=>by cases h)) (ov _ s (by omega) (by omega))
 ·exact fin (stay 404 _ 1 (by rw [s];rfl) (by omega) (by omega) (by omega) (by omega) (fun h=>by cases h)) (ov _ s (by omega) (by omega))
 ·exact fin (goFar 200 o (by rw [s];rfl) ho) (ov _ s (by omega) (by omega))
 ·exact fin (goFar 204 o (by rw [s];rfl) ho) (ov _ s (by omega) (by omega))
 ·exact fin (goFar 409 o (by rw [s];rfl) ho) (ov _ s (by omega) (by omega))
 ·exact fin (stay 404 _ 1 (by rw [s];rfl) (by omega) (by omega) (by omega) (by omega) (fun h=>by cases h)) (ov _ s (by omega) (by omega))
 ·exact fin (stay 507 _ 3 (by rw [s];rfl) (by omega) (by omega) (by omega) (by omega) (fun _=>hc.off s)) (ov _ s (by omega) (by omega))
 ·refine ⟨?_,?_,?_,fun _=>⟨s,rfl⟩,ov _ s (by omega) (by omega)⟩
  ·have e:hear c (200,-1)=(c.1,c.2.1,5,c.2.2.2):=by unfold hear;rw [s];rfl
   rw [e]
   exact mk 5 _ (by omega) (by omega) o0 o1 (fun h=>by cases h)
  ·unfold hear;rw [s];rfl
  ·unfold hear;rw [s];rfl
 ·exact fin (stay 404 _ 1 (by rw [s];rfl) (by omega) (by omega) (by omega) (by omega) (fun h=>by cases h)) (ov _ s (by omega) (by omega))
 ·exact fin (stay 409 _ 2 (by rw [s];rfl) (by omega) (by omega) (by omega) (by omega) (fun h=>by cases h)) (ov _ s (by omega) (by omega))
 ·exact fin (stay 507 _ 4 (by rw [s];rfl) (by omega) (by omega) (by omega) (by omega) (fun h=>by cases h)) (ov _ s (by omega) (by omega))
theorem A6v{c:B1}(hc:ClG c):ClG (V7 c)∧(V7 c).1=c.1∧(V7 c).2.1=c.2.1∧((V7 c).2.2.1=5→c.2.2.1=5):=by
 obtain ⟨hid,hlen,h1,h5,o0,o1⟩:=A0d hc
 unfold V7
 split
 ·refine ⟨⟨?_,by show (2:Int)≠6;omega,hc.byt,fun h=>by cases h⟩,rfl,rfl,fun h=>by cases h⟩
  simp only [I6,Bool.and_eq_true,decide_eq_true_eq]
  refine ⟨⟨⟨hid,by omega⟩,by omega⟩,by omega⟩
 ·exact ⟨hc,rfl,rfl,fun h=>h⟩
theorem D7R{w:A7}(h:Sm 1048576 D68 w):D7M w:=
 ⟨D6I (Nat.le_refl _) (Sm.l (Sm.l (Sm.l (Sm.l h)))),(Sm.r (Sm.l h)).1,⟨(Sm.l (Sm.r h)).1,fun c hc=>by
  have h1:Sm 1048576 A9 c:=(Sm.l (Sm.r h)).2 c hc
  have h2:c.1.size≤1048576:=Sm.l h1
  simp only [maxLen];omega⟩,⟨(Sm.l (Sm.r (Sm.r (Sm.r h)))).1,fun a ha=>by
  have h1:Sm 1048576 H0 a:=(Sm.l (Sm.r (Sm.r (Sm.r h)))).2 a ha
  have h2:a.2.1.2.1.size≤1048576:=Sm.l (Sm.r (Sm.l (Sm.r h1)))
  simp only [maxLen];omega⟩,(Sm.l (Sm.r (Sm.r (Sm.r (Sm.r h))))).1⟩
abbrev D1S:K:=(.pair .str (.pair (.rs 5 (.int .u8)) E7))
abbrev D1T:K:=(.pair (.int .i64) (.pair W6 (.rs 5 (.int .u8))))
theorem B2U(k:K){xs:List k.T}{i:Nat}{x:k.T}(h:xs[i]? = some x):rd k xs (i:Int)=x:=by
 obtain ⟨hi,e⟩:=List.getElem?_eq_some_iff.1 h
 rw [E3 (k:=k) hi,e]
def cW(i:Nat)(l:List V4):Nat:=l.countP fun a=>decide (a.1=(i:Int))
def cH(i:Nat)(l:List D5):Nat:=l.countP fun a=>decide (a.1=(i:Int))
structure WI (k c:Nat) (uc:List TUp) (st:A5) (held:List D5) (cls:List B1) (busy:List Bool) (asks:List V4) (tells:List D5) (best:List Int):Prop where
 dur:Dur st c
 ep:st.2.1≤(k:Int)
 nd:∀ r∈B7 st.1.1,r.2.2.1≠4
 fuc:G3 [] ((B7 st.1.1).take c)=some uc
 n6:cls.length≤6
 lb:busy.length=cls.length
 lt:best.length=cls.length
 dist:∀ (i j:Nat) (a b:B1),cls[i]? = some a→cls[j]? = some b→a.1=b.1→i=j
 cl:∀ (i:Nat) (a:B1),cls[i]? = some a→ClG a
 cnt:∀ (i:Nat) b,busy[i]? = some b→cW i asks+cH i held+cH i tells=if b=true then 1 else 0
 dn:∀ (i:Nat) (a:B1),cls[i]? = some a→a.2.2.1=5→busy[i]? = some false
 ask:∀ a∈asks,∃ (i:Nat) (cl:B1),cls[i]? = some cl∧a.1=(i:Int)∧M7 cl=(a.2.1,a.2.2,true,())
 hld:∀ h∈held,∃ (i:Nat) (cl:B1),cls[i]? = some cl∧h.1=(i:Int)∧Fits cl h.2∧Told cl h.2 st.2.2.2
 tell:∀ h∈tells,∃ (i:Nat) (cl:B1),cls[i]? = some cl∧h.1=(i:Int)∧Fits cl h.2∧Told cl h.2 uc
 bst:∀ (i:Nat) (a:B1) (b:Int),cls[i]? = some a→best[i]? = some b→b=-1∨∃ u∈uc,u.1=a.1∧b≤(List.length u.2.2.1:Int)
 ends:∀ (i:Nat) (a:B1),cls[i]? = some a→a.2.2.1=5→∃ u∈uc,u.1=a.1∧u.2.2.2=true
 oku:∀ u∈st.2.2.2,∃ (i:Nat) (a:B1),cls[i]? = some a∧u.1=a.1∧OkU a.2.1 u
 la:asks.length≤60
 l6:tells.length≤60
 lh:held.length≤200
def WIw(k:Nat)(w:A7):Prop:=∃ c uc,WI k c uc w.1.1 w.1.2 w.2.1 w.2.2.1 w.2.2.2.1 w.2.2.2.2.1 w.2.2.2.2.2
theorem wiw{k c:Nat}{uc:List TUp}{st:A5}{held cls busy asks tells best}(h:WI k c uc st held cls busy asks tells best):WIw k (((st,held),(cls,(busy,(asks,(tells,best))))):A7):=⟨c,uc,h⟩
theorem D6o{k c:Nat}{uc:List TUp}{st:A5}{held cls busy asks tells best}(h:WI k c uc st held cls busy asks tells best):B7J uc st.2.2.2:=by
 have h1:=h.dur.g.up
 rw [← List.take_length (l:=B7 st.1.1)] at h1
 exact B7K h.dur.le h.fuc h1 h.nd
def rm{α:Type}(l:List α)(j:Nat):List α:=l.take j++l.drop (j+1)
theorem D4o{α:Type}{l:List α}{j:Nat}{a:α}(h:l[j]? = some a):l=l.take j++a::l.drop (j+1):=by
 obtain ⟨hj,e⟩:=List.getElem?_eq_some_iff.1 h
 rw [← e,← List.drop_eq_getElem_cons hj,List.take_append_drop]
theorem C6y{α:Type}(p:α→Bool){l:List α}{j:Nat}{a:α}(h:l[j]? = some a):l.countP p=(rm l j).countP p+(if p a=true then 1 else 0):=by
 conv=>lhs;rw [D4o h]
 unfold rm
 rw [List.countP_append,List.countP_append,List.countP_cons]
 omega
theorem D4p{α:Type}{l:List α}{j:Nat}{x:α}(h:x∈rm l j):x∈l:=(List.mem_append.1 h).elim List.mem_of_mem_take List.mem_of_mem_drop
theorem D4q{α:Type}{l:List α}{j:Nat}(h:j<l.length):(rm l j).length+1=l.length:=by
 simp only [rm,List.length_append,List.length_take,List.length_drop]
 omega
theorem B3J{α:Type}{l:List α}{i j:Nat}{v x:α}(h:(l.set i v)[j]? = some x):(j=i∧x=v)∨(j≠i∧l[j]? = some x):=by
 rw [List.getElem?_set] at h
 split at h
 ·rename_i e
  split at h
  ·injection h with h
   exact .inl ⟨e.symm,h.symm⟩
  ·cases h
 ·rename_i e
  exact .inr ⟨fun x=>e x.symm,h⟩
theorem B51{α:Type}{p:α→Bool}{l:List α}(h:l.countP p=0){a:α}(ha:a∈l):¬ p a=true:=List.countP_eq_zero.1 h a ha
theorem C5K{k c:Nat}{uc:List TUp}{st:A5}{held cls busy asks tells best}(h:WI k c uc st held cls busy asks tells best):Rt st∧A5T st∧D3 st=some (true,()):=by
 obtain ⟨a,b,c,_⟩:=B5y h.dur.g
 exact ⟨a,b,c⟩
theorem B3K{a:B1}(h:ClG a):a.1.size≤maxLen:=by
 obtain ⟨h1,_⟩:=A0d h
 have:a.1.size≤8:=by simp only [idB,Bool.and_eq_true,decide_eq_true_eq] at h1;omega
 simp only [maxLen];omega
theorem D6N(k:Nat)(w:A7)(h:WIw k w)(i:Int)(hi:i<9223372036854775807):∃ b w',A1v w i=some (b,w',())∧WIw k w':=by
 obtain ⟨⟨st,held⟩,cls,busy,asks,tells,best⟩:=w
 obtain ⟨c,uc,h⟩:=h
 simp only at h
 have hn:=h.n6
 have hlb:=h.lb
 have same:WIw k (((st,held),(cls,(busy,(asks,(tells,best))))):A7):=⟨c,uc,h⟩
 simp only [A1v,A88,T2,bO]
 rw [w64 (n:=(cls.length:Int)-1) (by omega) (by omega)]
 by_cases hr:0≤i∧i≤(cls.length:Int)-1
 ·obtain ⟨i,rfl⟩:∃ j:Nat,i=(j:Int):=⟨i.toNat,by omega⟩
  have hic:i<cls.length:=by omega
  obtain ⟨cl,hcl⟩:∃ x,cls[i]? = some x:=⟨_,List.getElem?_eq_getElem hic⟩
  obtain ⟨b,hb⟩:∃ x,busy[i]? = some x:=⟨_,List.getElem?_eq_getElem (by omega)⟩
  have hg:=h.cl i cl hcl
  rw [A0 hr,A0 (show (0:Int)≤(i:Int) by omega),A0 (show (i:Int)<(busy.length:Int) by omega),A0 (show (i:Int)<(cls.length:Int) by omega),B2U .bool hb,B2U D1S hcl,C55 cl (B3K hg) hg.byt]
  simp only [Bool.not_true,cond_false,cond_true]
  cases b with
  | true=>exact ⟨false,_,rfl,same⟩
  | false=>
   simp only [cond_false]
   by_cases h60:(asks.length:Int)=60
   ·rw [A0 h60];exact ⟨false,_,rfl,same⟩
   ·rw [A4 h60]
    have hla:=h.la
    simp only [cond_false,B9,bO]
    generalize hq:M7 cl=q
    obtain ⟨r,dat,ok,u⟩:=q
    cases ok with
    | false=>exact ⟨false,_,rfl,same⟩
    | true=>
     simp only [Bool.not_true,cond_false]
     rw [A0 (by simp;omega),A0 (by simp;omega)]
     refine ⟨true,_,rfl,wiw (c:=c) (uc:=uc) ?_⟩
     have hpend:=h.cnt i false hb
     simp only [Bool.false_eq_true,if_false] at hpend
     have hcount:∀ j:Nat,cW j (asks ++ [((i:Int),(r,dat))])=cW j asks+if j=i then 1 else 0:=fun j=>by
      unfold cW
      rw [List.countP_append,List.countP_singleton]
      by_cases hji:j=i
      ·subst hji;simp
      ·rw [if_neg hji];simp;omega
     have hs5:cl.2.2.1≠5:=fun e=>by
      unfold M7 at hq
      rw [hg.ok,e] at hq
      simp [B84] at hq
     refine {h with lb:=?_,cnt:=?_,dn:=?_,ask:=?_,la:=?_}
     ·simp only [List.length_set];exact h.lb
     ·intro j b' hb'
      rw [hcount j]
      rw [Int.toNat_natCast] at hb'
      rcases B3J hb' with ⟨rfl,rfl⟩ | ⟨hne,hb'⟩
      ·rw [if_pos rfl,if_pos rfl];omega
      ·have:=h.cnt j b' hb'
       rw [if_neg hne];omega
     ·intro j a ha h5
      rw [Int.toNat_natCast,List.getElem?_set_ne (fun e=>?_)]
      ·exact h.dn j a ha h5
      ·subst e
       rw [hcl] at ha
       injection ha with ha
       rw [ha] at hs5
       exact hs5 h5
     ·intro a ha
      rcases List.mem_append.1 ha with ha | ha
      ·exact h.ask a ha
      ·rw [List.mem_singleton.1 ha]
       exact ⟨i,cl,hcl,rfl,hq⟩
     ·simp only [List.length_append,List.length_cons,List.length_nil];omega
 ·rw [A4 hr]
  exact ⟨false,_,rfl,same⟩
theorem D4r(k:Nat)(w:A7)(h:WIw k w)(j:Int)(hj:j<9223372036854775807):∃ b w',A1J w j=some (b,w',())∧WIw k w':=by
 obtain ⟨⟨st,held⟩,cls,busy,asks,tells,best⟩:=w
 obtain ⟨c,uc,h⟩:=h
 simp only at h
 have hn:=h.n6
 have hla:=h.la
 have hlh:=h.lh
 have same:WIw k (((st,held),(cls,(busy,(asks,(tells,best))))):A7):=⟨c,uc,h⟩
 simp only [A1J,A6m,T2,bO]
 rw [w64 (n:=(asks.length:Int)-1) (by omega) (by omega)]
 by_cases hr:0≤j∧j≤(asks.length:Int)-1
 ·obtain ⟨j,rfl⟩:∃ q:Nat,j=(q:Int):=⟨j.toNat,by omega⟩
  have hjl:j<asks.length:=by omega
  rw [A0 hr]
  simp only [Bool.not_true,cond_false]
  by_cases h200:(held.length:Int)=200
  ·rw [A0 h200];exact ⟨false,_,rfl,same⟩
  rw [A4 h200]
  obtain ⟨a,ha⟩:∃ x,asks[j]? = some x:=⟨_,List.getElem?_eq_getElem hjl⟩
  obtain ⟨i,cl,hcl,hai,hq⟩:=h.ask a (List.mem_of_getElem? ha)
  have hg:=h.cl i cl hcl
  obtain ⟨hR,hS,hok⟩:=C5K h
  have huc:=D6o h
  simp only [cond_false,B9]
  rw [B2U D1T ha,w64 (n:=(j:Int)+1) (by omega) (by omega),A0 (show (0:Int)≤(j:Int) by omega),A0 (show (j:Int)<(asks.length:Int) by omega),A0 (show (j:Int)≤(asks.length:Int) by omega),
   A0 (show (0:Int)≤(j:Int)+1 by omega),A0 (show (j:Int)+1≤(asks.length:Int) by omega),A0 (by simp;omega),A0 (by simp;omega),A0 (by simp;omega),A0 (by simp;omega)]
  simp only [cond_true]
  have hdat:Byt a.2.2∧List.length a.2.2≤1048576:=by
   obtain ⟨_,h400,_⟩:=A0d hg
   have hl:=B2D cl
   rw [hq] at hl
   refine ⟨?_,by have:List.length a.2.2≤cl.2.1.length:=hl;omega⟩
   have hbb:Byt (M7 cl).2.1:=by
    unfold M7 B84
    repeat' split
    all_goals first | exact T3 | exact A6t (A3V hg.byt _) _
   rw [hq] at hbb
   exact hbb
  have hreq:a.2.1.2.1.size≤maxLen∧(-9223372036854775808≤a.2.1.2.2∧a.2.1.2.2≤9223372036854775807):=by
   obtain ⟨_,h400,_,_,o0,o1⟩:=A0d hg
   have hcs:=B3K hg
   have hcrc:=A66 hg.byt
   have hx:A3U cl.2.1 ^^^ 4294967295<2 ^ 32:=Nat.xor_lt_two_pow hcrc (by omega)
   have e:(M7 cl).1.2.1.size≤maxLen∧(-9223372036854775808≤(M7 cl).1.2.2∧(M7 cl).1.2.2≤9223372036854775807):=by
    unfold M7 B84
    repeat' split
    all_goals first | exact ⟨hcs,by simp only;omega⟩ | exact ⟨Nat.zero_le _,by simp only;omega⟩
   rw [hq] at e
   exact e
  have hdo:=D2b st a.2.1 a.2.2 hreq.1 hR hS hok hdat.1 hdat.2 hreq.2
  have hdo':F5 ((st.1.1,st.1.2),(st.2.1,(st.2.2.1,st.2.2.2))) a.2.1 a.2.2=_:=hdo
  rw [hdo]
  simp only [bO]
  rw [A0 (by simp;omega),A0 (by simp;omega)]
  have hser:=D2h hg hR (fun u hu e=>by
   obtain ⟨i',a',h1,h2,h3⟩:=h.oku u hu
   have:=h.dist i' i a' cl h1 hcl (by rw [← h2,e])
   subst this
   rw [hcl] at h1;injection h1 with h1;rw [h1];exact h3) hq
  generalize A8n st a.2.1 a.2.2=ans at hser ⊢
  obtain ⟨st',resp⟩:=ans
  obtain ⟨hsv,hfit,htold⟩:=hser
  simp only at hsv hfit htold
  refine ⟨true,_,rfl,wiw (c:=c) (uc:=uc) ?_⟩
  have hst:Dur st' c∧st'.2.1=st.2.1∧(∀ r∈B7 st'.1.1,r.2.2.1≠4)∧(B7 st'.1.1).take c=(B7 st.1.1).take c∧B7J st.2.2.2 st'.2.2.2∧∀ u∈st'.2.2.2,u∈st.2.2.2∨(u.1=cl.1∧OkU cl.2.1 u):=by
   rcases hsv with rfl | ⟨r,us,g1,g2,g3,g4,g5,g6,rfl,g7⟩
   ·exact ⟨h.dur,rfl,h.nd,rfl,C4I _,fun u hu=>.inl hu⟩
   ·have hsc:=(B0M h.dur.g g1 g2 g3 g4 g5).2
    refine ⟨C4H h.dur g1 g2 g3 g4 g5,rfl,fun x hx=>?_,?_,C1P g5 g6,g7⟩
    ·rw [hsc] at hx
     rcases List.mem_append.1 hx with hx | hx
     ·exact h.nd x hx
     ·rw [List.mem_singleton.1 hx];exact g6
    ·rw [hsc,List.take_append_of_le_length h.dur.le]
  obtain ⟨k1,k2,k3,k4,k5,k6⟩:=hst
  have hrm:([]++(asks.take (j:Int).toNat).drop 0)++(asks.take asks.length).drop ((j:Int)+1).toNat=rm asks j:=by
   unfold rm
   rw [Int.toNat_natCast,show ((j:Int)+1).toNat=j+1 by omega,List.drop_zero,List.take_length]
   rfl
  simp only [hrm]
  have hcn:∀ i':Nat,cW i' asks=cW i' (rm asks j)+if (i':Int)=a.1 then 1 else 0:=fun i'=>by
   have:=C6y (fun x:V4=>decide (x.1=(i':Int))) ha
   unfold cW
   rw [this]
   by_cases e:(i':Int)=a.1
   ·rw [if_pos e,if_pos (by simp [e])]
   ·rw [if_neg e,if_neg (by simp;omega)]
  have hch:∀ i':Nat,cH i' (held ++ [(a.1,resp)])=cH i' held+if (i':Int)=a.1 then 1 else 0:=fun i'=>by
   unfold cH
   rw [List.countP_append,List.countP_singleton]
   by_cases e:(i':Int)=a.1
   ·rw [if_pos e,if_pos (by simp [e])]
   ·rw [if_neg e,if_neg (by simp;omega)]
  refine {h with dur:=k1,ep:=by rw [k2];exact h.ep,nd:=k3,fuc:=by rw [k4];exact h.fuc,cnt:=?_,ask:=?_,hld:=?_,oku:=?_,la:=?_,lh:=?_}
  ·intro i' b hb
   have:=h.cnt i' b hb
   have h1:=hcn i'
   have h2:=hch i'
   omega
  ·exact fun x hx=>h.ask x (D4p hx)
  ·intro x hx
   rcases List.mem_append.1 hx with hx | hx
   ·obtain ⟨i',a',h1,h2,h3,h4⟩:=h.hld x hx
    exact ⟨i',a',h1,h2,h3,C4J h4 k5⟩
   ·rw [List.mem_singleton.1 hx]
    exact ⟨i,cl,hcl,hai,hfit,htold⟩
  ·intro u hu
   rcases k6 u hu with hu | ⟨e,hu⟩
   ·exact h.oku u hu
   ·exact ⟨i,cl,hcl,e,hu⟩
  ·have:=D4q hjl;omega
  ·simp only [List.length_append,List.length_cons,List.length_nil];omega
 ·rw [A4 hr]
  exact ⟨false,_,rfl,same⟩
theorem D6O(k:Nat)(w:A7)(h:WIw k w):∃ b w',A54 w=some (b,w',())∧WIw k w':=by
 obtain ⟨⟨st,held⟩,cls,busy,asks,tells,best⟩:=w
 obtain ⟨c,uc,h⟩:=h
 simp only at h
 have hl6:=h.l6
 have hlh:=h.lh
 have same:WIw k (((st,held),(cls,(busy,(asks,(tells,best))))):A7):=⟨c,uc,h⟩
 obtain ⟨hR,hS,hok⟩:=C5K h
 have huc:=D6o h
 simp only [A54,B21]
 rw [w64 (n:=(tells.length:Int)+(held.length:Int)) (by omega) (by omega)]
 by_cases h60:(tells.length:Int)+(held.length:Int)>60
 ·rw [A0 h60];exact ⟨false,_,rfl,same⟩
 ·rw [A4 h60,A0 (by omega),A0 (by omega),B4s st.1 hS.1]
  simp only [cond_false,cond_true,bO]
  refine ⟨true,_,rfl,wiw (c:=(B7 st.1.1).length) (uc:=st.2.2.2) ?_⟩
  have hup:=h.dur.g.up
  have hd:=B0O h.dur.g
  refine {h with dur:=hd,fuc:=by show G3 [] ((B7 st.1.1).take (B7 st.1.1).length)=_;rw [List.take_length];exact hup,cnt:=?_,hld:=fun x hx=>by (cases hx),tell:=?_,bst:=?_,ends:=?_,l6:=?_,lh:=by simp}
  ·intro i b hb
   have:=h.cnt i b hb
   have e:cH i (tells++held)=cH i tells+cH i held:=List.countP_append
   rw [e]
   have e0:cH i ([]:List D5)=0:=rfl
   rw [e0]
   omega
  ·intro x hx
   rcases List.mem_append.1 hx with hx | hx
   ·obtain ⟨i,a,h1,h2,h3,h4⟩:=h.tell x hx
    exact ⟨i,a,h1,h2,h3,C4J h4 huc⟩
   ·exact h.hld x hx
  ·intro i a b ha hb
   rcases h.bst i a b ha hb with h1 | ⟨u,hu,e,hle⟩
   ·exact .inl h1
   ·obtain ⟨v,hv,hlu⟩:=huc u hu
    have:=hlu.len
    exact .inr ⟨v,hv,hlu.id.symm.trans e,by omega⟩
  ·intro i a ha h5
   obtain ⟨u,hu,e,hd⟩:=h.ends i a ha h5
   obtain ⟨v,hv,hlu⟩:=huc u hu
   exact ⟨v,hv,hlu.id.symm.trans e,(hlu.fin hd).1⟩
  ·simp only [List.length_append];omega
theorem D6P(k:Nat)(w:A7)(h:WIw k w)(j:Int)(hj:j<9223372036854775807):∃ b w',A1y w j=some (b,w',())∧WIw k w':=by
 obtain ⟨⟨st,held⟩,cls,busy,asks,tells,best⟩:=w
 obtain ⟨c,uc,h⟩:=h
 simp only at h
 have hn:=h.n6
 have hl6:=h.l6
 have hlb:=h.lb
 have hlt:=h.lt
 have same:WIw k (((st,held),(cls,(busy,(asks,(tells,best))))):A7):=⟨c,uc,h⟩
 simp only [A1y,A8A,T2,bO]
 rw [w64 (n:=(tells.length:Int)-1) (by omega) (by omega)]
 by_cases hr:0≤j∧j≤(tells.length:Int)-1
 ·obtain ⟨j,rfl⟩:∃ q:Nat,j=(q:Int):=⟨j.toNat,by omega⟩
  have hjl:j<tells.length:=by omega
  obtain ⟨a,ha⟩:∃ x,tells[j]? = some x:=⟨_,List.getElem?_eq_getElem hjl⟩
  obtain ⟨i,cl,hcl,hai,hfit,htold⟩:=h.tell a (List.mem_of_getElem? ha)
  have hg:=h.cl i cl hcl
  have hic:i<cls.length:=(List.getElem?_eq_some_iff.1 hcl).1
  obtain ⟨b,hb⟩:∃ x,busy[i]? = some x:=⟨_,List.getElem?_eq_getElem (show i<busy.length by omega)⟩
  obtain ⟨bt0,hbt⟩:∃ x,best[i]? = some x:=⟨_,List.getElem?_eq_getElem (show i<best.length by omega)⟩
  have hct:∀ i':Nat,cH i' tells=cH i' (rm tells j)+if (i':Int)=a.1 then 1 else 0:=fun i'=>by
   have:=C6y (fun x:D5=>decide (x.1=(i':Int))) ha
   unfold cH
   rw [this]
   by_cases e:(i':Int)=a.1
   ·rw [if_pos e,if_pos (by simp [e])]
   ·rw [if_neg e,if_neg (by simp;omega)]
  have hpend:=h.cnt i b hb
  have hcti:=hct i
  rw [if_pos hai.symm] at hcti
  have hbt':b=true:=by
   cases b with
   | true=>rfl
   | false=>simp only [Bool.false_eq_true,if_false] at hpend;omega
  subst hbt'
  simp only [if_true] at hpend
  have hz:cW i asks=0∧cH i held=0∧cH i (rm tells j)=0:=by omega
  obtain ⟨hearG,he1,he2,he5,hov⟩:=D2i hg hfit
  have hrm:([]++(tells.take j).drop 0)++(tells.take tells.length).drop ((j:Int)+1).toNat=rm tells j:=by
   unfold rm
   rw [show ((j:Int)+1).toNat=j+1 by omega,List.drop_zero,List.take_length]
   rfl
  obtain ⟨who,resp⟩:=a
  simp only at hai hfit htold hearG he1 he2 he5 hov ha hct
  subst hai
  rw [A0 hr,B2U B0 ha]
  simp only [Bool.not_true,cond_false]
  rw [w64 (n:=(j:Int)+1) (by omega) (by omega),A0 (show (0:Int)≤(j:Int) by omega),A0 (show (j:Int)<(tells.length:Int) by omega),A0 (show (j:Int)≤(tells.length:Int) by omega),
   A0 (show (0:Int)≤(j:Int)+1 by omega),A0 (show (j:Int)+1≤(tells.length:Int) by omega),A0 (by simp;omega),A0 (by simp;omega),A0 (by simp;omega),A0 (by simp;omega),
   A0 (show (0:Int)≤(i:Int) by omega),A0 (show (i:Int)<(busy.length:Int) by omega),A0 (show (i:Int)<(cls.length:Int) by omega),B2U .bool hb,B2U D1S hcl,C0t,C97,hov]
  simp only [cond_true,Bool.not_false,bO,Int.toNat_natCast]
  rw [hrm]
  rw [A0 (show (i:Int)<(best.length:Int) by omega),B2U (.int .i64) hbt]
  have main:∀ best',best'.length=cls.length→(∀ (i':Nat) (b':Int),best'[i']? = some b'→(i'≠i∧best[i']? = some b')∨(i' = i∧(b' = bt0∨b' = resp.2)))→
    WIw k (((st,held),(cls.set i (hear cl resp),(busy.set i false,(asks,(rm tells j,best'))))):A7):=fun best' hbl hbb=>by
   refine wiw (c:=c) (uc:=uc) ?_
   have hsetn:∀ (i':Nat) (x:B1),(cls.set i (hear cl resp))[i']? = some x→(i' = i∧x=hear cl resp)∨(i'≠i∧cls[i']? = some x):=fun i' x hx=>B3J hx
   have hget:∀ (i':Nat) (x:B1),i'≠i→cls[i']? = some x→(cls.set i (hear cl resp))[i']? = some x:=fun i' x hne hx=>by rw [List.getElem?_set_ne (fun e=>hne e.symm)];exact hx
   have hgeti:(cls.set i (hear cl resp))[i]? = some (hear cl resp):=by rw [List.getElem?_set_self hic]
   refine {h with n6:=by simp only [List.length_set];exact h.n6,lb:=by simp only [List.length_set];exact h.lb,lt:=by simp only [List.length_set];exact hbl,dist:=?_,cl:=?_,cnt:=?_,dn:=?_,ask:=?_,hld:=?_,tell:=?_,bst:=?_,ends:=?_,oku:=?_,l6:=?_}
   ·intro p q x y hx hy e
    rcases hsetn p x hx with ⟨e1,rfl⟩ | ⟨n1,hx1⟩<;>rcases hsetn q y hy with ⟨e2,rfl⟩ | ⟨n2,hy1⟩
    ·exact e1.trans e2.symm
    ·exact e1.trans (h.dist _ _ cl y hcl hy1 (by rw [← he1];exact e))
    ·exact (h.dist _ _ x cl hx1 hcl (by rw [← he1];exact e)).trans e2.symm
    ·exact h.dist _ _ x y hx1 hy1 e
   ·intro p x hx
    rcases hsetn p x hx with ⟨_,rfl⟩ | ⟨_,hx⟩
    ·exact hearG
    ·exact h.cl p x hx
   ·intro p b' hb'
    rcases B3J hb' with ⟨rfl,rfl⟩ | ⟨hne,hb'⟩
    ·simp only [Bool.false_eq_true,if_false];omega
    ·have h1:=h.cnt p b' hb'
     have h2:=hct p
     rw [if_neg (by omega)] at h2
     omega
   ·intro p x hx h5
    rcases hsetn p x hx with ⟨rfl,rfl⟩ | ⟨hne,hx⟩
    ·rw [List.getElem?_set_self (show p<busy.length by omega)]
    ·rw [List.getElem?_set_ne (fun e=>hne e.symm)]
     exact h.dn p x hx h5
   ·intro x hx
    obtain ⟨i',a',h1,h2,h3⟩:=h.ask x hx
    have hne:i'≠i:=fun e=>by
     subst e
     exact B51 hz.1 hx (decide_eq_true h2)
    exact ⟨i',a',hget i' a' hne h1,h2,h3⟩
   ·intro x hx
    obtain ⟨i',a',h1,h2,h3⟩:=h.hld x hx
    have hne:i'≠i:=fun e=>by
     subst e
     exact B51 hz.2.1 hx (decide_eq_true h2)
    exact ⟨i',a',hget i' a' hne h1,h2,h3⟩
   ·intro x hx
    obtain ⟨i',a',h1,h2,h3⟩:=h.tell x (D4p hx)
    have hne:i'≠i:=fun e=>by
     subst e
     exact B51 hz.2.2 hx (decide_eq_true h2)
    exact ⟨i',a',hget i' a' hne h1,h2,h3⟩
   ·intro p x b' hx hb'
    rcases hsetn p x hx with ⟨rfl,rfl⟩ | ⟨hne,hx⟩
    ·rw [he1]
     rcases hbb p b' hb' with ⟨hne,_⟩ | ⟨_,rfl | rfl⟩
     ·exact absurd rfl hne
     ·exact h.bst p cl _ hcl hbt
     ·exact htold.1
    ·rcases hbb p b' hb' with ⟨_,hb'⟩ | ⟨e,_⟩
     ·exact h.bst p x b' hx hb'
     ·exact absurd e hne
   ·intro p x hx h5
    rcases hsetn p x hx with ⟨rfl,rfl⟩ | ⟨hne,hx⟩
    ·obtain ⟨g1,g2⟩:=he5 h5
     rw [he1]
     exact htold.2 g1 g2
    ·exact h.ends p x hx h5
   ·intro u hu
    obtain ⟨i',a',h1,h2,h3⟩:=h.oku u hu
    by_cases e:i' = i
    ·subst e
     rw [hcl] at h1;injection h1 with h1;subst h1
     exact ⟨i',_,hgeti,by rw [he1];exact h2,by rw [he2];exact h3⟩
    ·exact ⟨i',a',hget i' a' e h1,h2,h3⟩
   ·have:=D4q hjl;omega
  by_cases hgt:resp.2>bt0
  ·rw [A0 hgt]
   simp only [cond_true]
   refine ⟨true,_,rfl,main (best.set i resp.2) (by rw [List.length_set];exact hlt) fun i' b' hb'=>?_⟩
   rcases B3J hb' with ⟨e,rfl⟩ | ⟨hne,hb'⟩
   ·exact .inr ⟨e,.inr rfl⟩
   ·exact .inl ⟨hne,hb'⟩
  ·rw [A4 hgt]
   simp only [cond_true,cond_false]
   refine ⟨true,_,rfl,main best hlt fun i' b' hb'=>?_⟩
   by_cases e:i' = i
   ·subst e
    rw [hbt] at hb';injection hb' with hb'
    exact .inr ⟨rfl,.inl hb'.symm⟩
   ·exact .inl ⟨e,hb'⟩
 ·rw [A4 hr]
  exact ⟨false,_,rfl,same⟩
theorem C4K(l:List D5)(i:Int)(hl:l.length≤1048576):A1u l i=some (l.filter (fun x=>!decide (x.1=i)),()):=by
 simp only [A1u,A87]
 refine G2 (A2K l i) (fun j=>((j:Int),(l.take j).filter (fun x=>!decide (x.1=i)),())) l.length (l.filter (fun x=>!decide (x.1=i)),()) (fun j hj=>?_) ?_
 ·have h1:((j:Int)<(l.length:Int)):=by omega
  have h2:(0:Int)≤(j:Int):=by omega
  have hlen:=List.length_filter_le (fun x:D5=>!decide (x.1=i)) (l.take j)
  rw [List.length_take] at hlen
  simp only [A2K,A0 h1,A0 h2,cond_true]
  rw [B2U B0 (List.getElem?_eq_getElem hj),w64 (by omega) (by omega),List.take_succ_eq_append_getElem hj,List.filter_append]
  by_cases e:l[j].1=i
  ·rw [A0 e]
   simp only [Bool.not_true,cond_false]
   have:([l[j]].filter fun x=>!decide (x.1=i)) = []:=by simp [e]
   rw [this,List.append_nil]
   rfl
  ·rw [A4 e]
   simp only [Bool.not_false,cond_true]
   rw [A0 (by simp;omega),A0 (by simp;omega)]
   have:([l[j]].filter fun x=>!decide (x.1=i)) = [l[j]]:=by simp [e]
   rw [this]
   rfl
 ·simp only [A2K,List.take_length]
  rw [A4 (by omega)]
  rfl
theorem C9Z(w:A7)(i:Int)(hl:w.2.2.2.1.length≤1048576):C0 (A1K w i) (0,[],())=some (w.2.2.2.1.filter (fun x=>!decide (x.1=i)),()):=by
 refine G2 (A1K w i) (fun j=>((j:Int),(w.2.2.2.1.take j).filter (fun x=>!decide (x.1=i)),())) w.2.2.2.1.length (w.2.2.2.1.filter (fun x=>!decide (x.1=i)),()) (fun j hj=>?_) ?_
 ·have h1:((j:Int)<(w.2.2.2.1.length:Int)):=by omega
  have h2:(0:Int)≤(j:Int):=by omega
  have hlen:=List.length_filter_le (fun x:V4=>!decide (x.1=i)) (w.2.2.2.1.take j)
  rw [List.length_take] at hlen
  simp only [A1K,A0 h1,A0 h2,cond_true]
  rw [B2U D1T (List.getElem?_eq_getElem hj),w64 (by omega) (by omega),List.take_succ_eq_append_getElem hj,List.filter_append]
  by_cases e:w.2.2.2.1[j].1=i
  ·rw [A0 e]
   simp only [Bool.not_true,cond_false]
   have:([w.2.2.2.1[j]].filter fun x=>!decide (x.1=i)) = []:=by simp [e]
   rw [this,List.append_nil]
   rfl
  ·rw [A4 e]
   simp only [Bool.not_false,cond_true]
   rw [A0 (by simp;omega),A0 (by simp;omega)]
   have:([w.2.2.2.1[j]].filter fun x=>!decide (x.1=i)) = [w.2.2.2.1[j]]:=by simp [e]
   rw [this]
   rfl
 ·simp only [A1K,List.take_length]
  rw [A4 (by omega)]
  rfl
theorem A5V{α:Type}{f:α→Int}{i j:Int}(hne:j≠i)(l:List α):(l.filter fun x=>!decide (f x=i)).countP (fun x=>decide (f x=j))=l.countP (fun x=>decide (f x=j)):=by
 rw [List.countP_filter]
 refine List.countP_congr fun x _=>?_
 simp only [Bool.and_eq_true,decide_eq_true_eq,Bool.not_eq_true',decide_eq_false_iff_not]
 omega
theorem A5W{α:Type}{f:α→Int}{i:Int}(l:List α):(l.filter fun x=>!decide (f x=i)).countP (fun x=>decide (f x=i))=0:=by
 rw [List.countP_eq_zero]
 intro x hx
 have:=(List.mem_filter.1 hx).2
 simpa using this
theorem D7S(k:Nat)(w:A7)(h:WIw k w)(i:Int)(hi:i<9223372036854775807):∃ b w',A3Q w i=some (b,w',())∧WIw k w':=by
 obtain ⟨⟨st,held⟩,cls,busy,asks,tells,best⟩:=w
 obtain ⟨c,uc,h⟩:=h
 simp only at h
 have hn:=h.n6
 have hl6:=h.l6
 have hla:=h.la
 have hlh:=h.lh
 have hlb:=h.lb
 have hlt:=h.lt
 have same:WIw k (((st,held),(cls,(busy,(asks,(tells,best))))):A7):=⟨c,uc,h⟩
 simp only [A3Q,B07,T2,bO]
 rw [w64 (n:=(cls.length:Int)-1) (by omega) (by omega)]
 by_cases hr:0≤i∧i≤(cls.length:Int)-1
 ·obtain ⟨i,rfl⟩:∃ q:Nat,i=(q:Int):=⟨i.toNat,by omega⟩
  have hic:i<cls.length:=by omega
  obtain ⟨cl,hcl⟩:∃ x,cls[i]? = some x:=⟨_,List.getElem?_eq_getElem hic⟩
  have hg:=h.cl i cl hcl
  obtain ⟨_,h400,_⟩:=A0d hg
  obtain ⟨cutG,he1,he2,he5⟩:=A6v hg
  rw [A0 hr,C9Z (((st,held),(cls,(busy,(asks,(tells,best))))):A7) (i:Int) (by show asks.length≤_;omega),C4K tells _ (by omega),C4K held _ (by omega),A0 (show (0:Int)≤(i:Int) by omega),A0 (show (i:Int)<(cls.length:Int) by omega),A0 (show (i:Int)<(busy.length:Int) by omega),B2U D1S hcl,B8D cl (B3K hg) (by omega)]
  simp only [Bool.not_true,cond_false,cond_true,bO,Int.toNat_natCast]
  refine ⟨true,_,rfl,wiw (c:=c) (uc:=uc) ?_⟩
  have hsetn:∀ (i':Nat) (x:B1),(cls.set i (V7 cl))[i']? = some x→(i' = i∧x=V7 cl)∨(i'≠i∧cls[i']? = some x):=fun i' x hx=>B3J hx
  have hget:∀ (i':Nat) (x:B1),i'≠i→cls[i']? = some x→(cls.set i (V7 cl))[i']? = some x:=fun i' x hne hx=>by rw [List.getElem?_set_ne (fun e=>hne e.symm)];exact hx
  have hgeti:(cls.set i (V7 cl))[i]? = some (V7 cl):=by rw [List.getElem?_set_self hic]
  have hni:∀ {x:Int} {i':Nat},(!decide (x=(i:Int)))=true→x=(i':Int)→i'≠i:=fun hx e hh=>by
   subst hh;rw [e] at hx;simp at hx
  refine {h with n6:=by simp only [List.length_set];exact h.n6,lb:=by simp only [List.length_set];exact h.lb,lt:=by simp only [List.length_set];exact h.lt,dist:=?_,cl:=?_,cnt:=?_,dn:=?_,ask:=?_,hld:=?_,tell:=?_,bst:=?_,ends:=?_,oku:=?_,la:=Nat.le_trans (List.length_filter_le _ _) hla,l6:=Nat.le_trans (List.length_filter_le _ _) hl6,lh:=Nat.le_trans (List.length_filter_le _ _) hlh}
  ·intro p q x y hx hy e
   rcases hsetn p x hx with ⟨e1,rfl⟩ | ⟨n1,hx1⟩<;>rcases hsetn q y hy with ⟨e2,rfl⟩ | ⟨n2,hy1⟩
   ·exact e1.trans e2.symm
   ·exact e1.trans (h.dist _ _ cl y hcl hy1 (by rw [← he1];exact e))
   ·exact (h.dist _ _ x cl hx1 hcl (by rw [← he1];exact e)).trans e2.symm
   ·exact h.dist _ _ x y hx1 hy1 e
  ·intro p x hx
   rcases hsetn p x hx with ⟨_,rfl⟩ | ⟨_,hx⟩
   ·exact cutG
   ·exact h.cl p x hx
  ·intro p b' hb'
   rcases B3J hb' with ⟨rfl,rfl⟩ | ⟨hne,hb'⟩
   ·simp only [Bool.false_eq_true,if_false]
    have e1:cW p (asks.filter fun x=>!decide (x.1=(p:Int)))=0:=A5W (f:=fun x:V4=>x.1) asks
    have e2:cH p (held.filter fun x=>!decide (x.1=(p:Int)))=0:=A5W (f:=fun x:D5=>x.1) held
    have e3:cH p (tells.filter fun x=>!decide (x.1=(p:Int)))=0:=A5W (f:=fun x:D5=>x.1) tells
    rw [e1,e2,e3]
   ·have h1:=h.cnt p b' hb'
    have hne':(p:Int)≠(i:Int):=by omega
    have e1:cW p (asks.filter fun x=>!decide (x.1=(i:Int)))=cW p asks:=A5V (f:=fun x:V4=>x.1) hne' asks
    have e2:cH p (held.filter fun x=>!decide (x.1=(i:Int)))=cH p held:=A5V (f:=fun x:D5=>x.1) hne' held
    have e3:cH p (tells.filter fun x=>!decide (x.1=(i:Int)))=cH p tells:=A5V (f:=fun x:D5=>x.1) hne' tells
    rw [e1,e2,e3]
    exact h1
  ·intro p x hx h5
   rcases hsetn p x hx with ⟨rfl,rfl⟩ | ⟨hne,hx⟩
   ·rw [List.getElem?_set_self (show p<busy.length by omega)]
   ·rw [List.getElem?_set_ne (fun e=>hne e.symm)]
    exact h.dn p x hx h5
  ·intro x hx
   obtain ⟨hx,hxi⟩:=List.mem_filter.1 hx
   obtain ⟨i',a',h1,h2,h3⟩:=h.ask x hx
   exact ⟨i',a',hget i' a' (hni hxi h2) h1,h2,h3⟩
  ·intro x hx
   obtain ⟨hx,hxi⟩:=List.mem_filter.1 hx
   obtain ⟨i',a',h1,h2,h3⟩:=h.hld x hx
   exact ⟨i',a',hget i' a' (hni hxi h2) h1,h2,h3⟩
  ·intro x hx
   obtain ⟨hx,hxi⟩:=List.mem_filter.1 hx
   obtain ⟨i',a',h1,h2,h3⟩:=h.tell x hx
   exact ⟨i',a',hget i' a' (hni hxi h2) h1,h2,h3⟩
  ·intro p x b' hx hb'
   rcases hsetn p x hx with ⟨rfl,rfl⟩ | ⟨hne,hx⟩
   ·rw [he1];exact h.bst p cl b' hcl hb'
   ·exact h.bst p x b' hx hb'
  ·intro p x hx h5
   rcases hsetn p x hx with ⟨rfl,rfl⟩ | ⟨hne,hx⟩
   ·rw [he1];exact h.ends p cl hcl (he5 h5)
   ·exact h.ends p x hx h5
  ·intro u hu
   obtain ⟨i',a',h1,h2,h3⟩:=h.oku u hu
   by_cases e:i' = i
   ·subst e
    rw [hcl] at h1;injection h1 with h1;subst h1
    exact ⟨i',_,hgeti,by rw [he1];exact h2,by rw [he2];exact h3⟩
   ·exact ⟨i',a',hget i' a' e h1,h2,h3⟩
 ·rw [A4 hr]
  exact ⟨false,_,rfl,same⟩
theorem D4s(k:Nat)(hk:k≤9999)(w:A7)(h:WIw k w)(ke:List Bool):∃ b w',A1L w ke=some (b,w',())∧WIw (k+1) w':=by
 obtain ⟨⟨st,held⟩,cls,busy,asks,tells,best⟩:=w
 obtain ⟨c,uc,h⟩:=h
 simp only at h
 have hn:=h.n6
 have hlb:=h.lb
 have hlt:=h.lt
 have hep:=h.ep
 obtain ⟨m,us,g1,g2,g3,g4,g5,g6,g7⟩:=B7E h.dur ke (by omega)
 have hfl:=B7D st.1 ke h.dur.g.dk
 have hop:E5 (C1G st.1 ke)=_:=B7G g7
 simp only [A1L,A6n,hfl,hop,bO,Bool.not_true,cond_false]
 have key:=G2 (A1d A1I) (fun j=>((j:Int),(S1 (Q2 st.1.1 st.1.2 ke) us).2.1,(S1 (Q2 st.1.1 st.1.2 ke) us).2.2.1,([]:List V4),([]:List D5),A67 (cls.map V7) cls j,A67 (List.replicate cls.length false) busy j,best,(S1 (Q2 st.1.1 st.1.2 ke) us).1.1,(S1 (Q2 st.1.1 st.1.2 ke) us).1.2,(S1 (Q2 st.1.1 st.1.2 ke) us).2.2.2,())) cls.length
  (true,(((((S1 (Q2 st.1.1 st.1.2 ke) us).1.1,(S1 (Q2 st.1.1 st.1.2 ke) us).1.2),((S1 (Q2 st.1.1 st.1.2 ke) us).2.1,((S1 (Q2 st.1.1 st.1.2 ke) us).2.2.1,(S1 (Q2 st.1.1 st.1.2 ke) us).2.2.2))),[]),(cls.map V7,(List.replicate cls.length false,([],([],best))))),()) (fun j hj=>?_) ?_
 ·refine ⟨true,_,key,wiw (c:=m) (uc:=us) ?_⟩
  have hle:B7J us st.2.2.2:=by
   have h1:=h.dur.g.up
   rw [← List.take_length (l:=B7 st.1.1)] at h1
   exact B7K g2 g4 h1 h.nd
  have hle2:B7J uc us:=B7K g1 h.fuc g4 h.nd
  have hsc:B7 (S1 (Q2 st.1.1 st.1.2 ke) us).1.1=(B7 st.1.1).take m:=g3
  have hlen:((B7 st.1.1).take m).length=m:=by rw [List.length_take];omega
  have hdur:=B4x g7
  rw [g3,hlen] at hdur
  have hmap:∀ (i:Nat) (x:B1),(cls.map V7)[i]? = some x→∃ a,cls[i]? = some a∧x=V7 a:=fun i x hx=>by
   rw [List.getElem?_map] at hx
   cases ha:cls[i]? with
   | none=>rw [ha] at hx;cases hx
   | some a=>rw [ha] at hx;injection hx with hx;exact ⟨a,rfl,hx.symm⟩
  exact {
   dur:=hdur
   ep:=by show A3X (Q2 st.1.1 st.1.2 ke)+1≤((k+1:Nat):Int);omega
   nd:=fun r hr=>by rw [hsc] at hr;exact h.nd r (List.mem_of_mem_take hr)
   fuc:=by rw [hsc,List.take_take,Nat.min_self];exact g4
   n6:=by rw [List.length_map];exact h.n6
   lb:=by rw [List.length_map,List.length_replicate]
   lt:=by rw [List.length_map];exact h.lt
   dist:=fun p q x y hx hy e=>by
    obtain ⟨a,ha,rfl⟩:=hmap p x hx
    obtain ⟨b,hb,rfl⟩:=hmap q y hy
    rw [(A6v (h.cl p a ha)).2.1,(A6v (h.cl q b hb)).2.1] at e
    exact h.dist p q a b ha hb e
   cl:=fun p x hx=>by
    obtain ⟨a,ha,rfl⟩:=hmap p x hx
    exact (A6v (h.cl p a ha)).1
   cnt:=fun p b hb=>by
    have:=(List.mem_replicate.1 (List.mem_of_getElem? hb)).2
    subst this
    rfl
   dn:=fun p x hx h5=>by
    obtain ⟨a,ha,rfl⟩:=hmap p x hx
    have hp:=(List.getElem?_eq_some_iff.1 ha).1
    rw [List.getElem?_replicate,if_pos hp]
   ask:=fun x hx=>by cases hx
   hld:=fun x hx=>by cases hx
   tell:=fun x hx=>by cases hx
   bst:=fun p x b hx hb=>by
    obtain ⟨a,ha,rfl⟩:=hmap p x hx
    rw [(A6v (h.cl p a ha)).2.1]
    rcases h.bst p a b ha hb with h1 | ⟨u,hu,e,hl⟩
    ·exact .inl h1
    ·obtain ⟨v,hv,hlu⟩:=hle2 u hu
     have:=hlu.len
     exact .inr ⟨v,hv,hlu.id.symm.trans e,by omega⟩
   ends:=fun p x hx h5=>by
    obtain ⟨a,ha,rfl⟩:=hmap p x hx
    obtain ⟨_,e1,_,e5⟩:=A6v (h.cl p a ha)
    rw [e1]
    obtain ⟨u,hu,e,hd⟩:=h.ends p a ha (e5 h5)
    obtain ⟨v,hv,hlu⟩:=hle2 u hu
    exact ⟨v,hv,hlu.id.symm.trans e,(hlu.fin hd).1⟩
   oku:=fun u hu=>by
    obtain ⟨v,hv,hlu⟩:=hle u hu
    obtain ⟨i,a,ha,e,hok⟩:=h.oku v hv
    obtain ⟨_,e1,e2,_⟩:=A6v (h.cl i a ha)
    exact ⟨i,V7 a,by rw [List.getElem?_map,ha];rfl,by rw [e1];exact hlu.id.trans e,by rw [e2];exact D7P hlu hok⟩
   la:=Nat.zero_le _
   l6:=Nat.zero_le _
   lh:=Nat.zero_le _}
 ·have hlm:(cls.map V7).length=cls.length:=List.length_map _
  have hlr:(List.replicate cls.length false).length=busy.length:=by rw [List.length_replicate];omega
  have l1:=B5v (l:=cls.map V7) (x:=cls) hlm j
  have l2:=B5v (l:=List.replicate cls.length false) (x:=busy) hlr j
  have gc:=C1H (l:=cls.map V7) (x:=cls) hlm hj
  rw [List.getElem?_eq_getElem hj] at gc
  have hg:=h.cl j _ (List.getElem?_eq_getElem hj)
  obtain ⟨_,h400,_⟩:=A0d hg
  simp only [A1d,l1,l2]
  rw [A0 (show (j:Int)<(cls.length:Int) by omega),A0 (show (0:Int)≤(j:Int) by omega),B2U D1S gc,B8D _ (B3K hg) (by omega),A0 (show (j:Int)<(busy.length:Int) by omega),w64 (by omega) (by omega)]
  simp only [cond_true,bO,Int.toNat_natCast]
  have e1:=B5w (l:=cls.map V7) (x:=cls) hlm (i:=j) (by omega)
  have e2:=B5w (l:=List.replicate cls.length false) (x:=busy) hlr (i:=j) (by rw [List.length_replicate];exact hj)
  rw [List.getElem_map] at e1
  rw [List.getElem_replicate] at e2
  rw [e1,e2]
  rfl
 ·have e1:A67 (cls.map V7) cls cls.length=cls.map V7:=by unfold A67;rw [List.drop_length,List.append_nil,List.take_of_length_le (by simp)]
  have e2:A67 (List.replicate cls.length false) busy cls.length=List.replicate cls.length false:=by unfold A67;rw [← hlb,List.drop_length,List.append_nil,List.take_of_length_le (by simp)]
  simp only [A1d,e1,e2,List.length_map]
  rw [A4 (by omega)]
  rfl
theorem B3L{k:Nat}{w:A7}(h:WIw k w):WIw (k+1) w:=by
 obtain ⟨c,uc,h⟩:=h
 exact ⟨c,uc,{h with ep:=by have:=h.ep;omega}⟩
theorem D7T(k:Nat)(hk:k≤9999)(w:A7)(h:WIw k w)(e:B6t)(he:e.2.1<9223372036854775807):∃ b w',A2q w e=some (b,w',())∧WIw (k+1) w':=by
 simp only [A2q,B27]
 by_cases h1:e.1=1
 ·obtain ⟨b,w',q,hw⟩:=D6N k w h e.2.1 he
  rw [A0 h1,q]
  exact ⟨b,w',rfl,B3L hw⟩
 rw [A4 h1]
 by_cases h2:e.1=2
 ·obtain ⟨b,w',q,hw⟩:=D4r k w h e.2.1 he
  rw [A0 h2,q]
  exact ⟨b,w',rfl,B3L hw⟩
 rw [A4 h2]
 by_cases h3:e.1=3
 ·obtain ⟨b,w',q,hw⟩:=D6O k w h
  rw [A0 h3,q]
  exact ⟨b,w',rfl,B3L hw⟩
 rw [A4 h3]
 by_cases h4:e.1=4
 ·obtain ⟨b,w',q,hw⟩:=D6P k w h e.2.1 he
  rw [A0 h4,q]
  exact ⟨b,w',rfl,B3L hw⟩
 rw [A4 h4]
 by_cases h5:e.1=5
 ·obtain ⟨b,w',q,hw⟩:=D7S k w h e.2.1 he
  rw [A0 h5,q]
  exact ⟨b,w',rfl,B3L hw⟩
 rw [A4 h5]
 by_cases h6:e.1=6
 ·obtain ⟨b,w',q,hw⟩:=D4s k hk w h e.2.2
  rw [A0 h6,q]
  exact ⟨b,w',rfl,hw⟩
 rw [A4 h6]
 exact ⟨false,w,rfl,B3L h⟩
def B7L(id:ByteArray)(f:List Int):A00:=if I6 (id,f,1,0) then (id,f,1,0) else (⟨#[]⟩,[],0,0)
theorem C1R(id:ByteArray)(f:List Int)(h:id.size≤maxLen)(h2:f.length≤140737488355328):Y3 id f=some (B7L id f,()):=by
 simp only [Y3,A89]
 rw [A0 (by simp;omega),A0 (by simp;omega)]
 simp only [cond_true,List.nil_append]
 rw [A4p _ h]
 simp only [A3,B7L]
 cases I6 (id,f,1,0)<;>simp
theorem D7U{c:B1}{r:A16}{d:List Int}(hc:ClG c)(hq:M7 c=(r,d,true,())):A0v r=true∧r.2.1.size≤1048576∧d.length≤400:=by
 obtain ⟨hid,h400,_,_,o0,o1⟩:=A0d hc
 have hcs:=B3K hc
 have hx:A3U c.2.1 ^^^ 4294967295<2 ^ 32:=Nat.xor_lt_two_pow (A66 hc.byt) (by omega)
 have h8:c.1.size≤8:=by simp only [idB,Bool.and_eq_true,decide_eq_true_eq] at hid;omega
 have hl:=B2D c
 have key:∀ a b:Int,(1≤a∧a≤6)→(0≤b∧b≤B0J a)→A0v (a,(c.1,b))=true:=fun a b h1 h2=>by
  simp only [A0v]
  rw [A0 h1,A0 h2,hid]
  rfl
 have e:(M7 c).2.2.1=true→A0v (M7 c).1=true∧(M7 c).1.2.1.size≤1048576:=by
  unfold M7 B84
  repeat' split
  all_goals first | exact fun h=>⟨key _ _ (by omega) (by simp [B0J]<;>omega),by show c.1.size≤_;omega⟩ | (intro h;cases h)
 rw [hq] at e hl
 obtain ⟨e1,e2⟩:=e rfl
 exact ⟨e1,e2,by have:d.length≤c.2.1.length:=hl;omega⟩
theorem B0Q(c:B5)(n:Int)(h:Cur c)(hn:n<9223372036854775808):∃ r c',C1 c n=some (r,c',())∧Cur c'∧0≤r∧(r<n∨r=0):=by
 by_cases h0:n≤0
 ·refine ⟨0,c,?_,h,Int.le_refl _,.inr rfl⟩
  simp only [C1,A7U]
  rw [A0 h0]
  rfl
 ·obtain ⟨r,c',e,h1,h2,h3⟩:=F6 c n h (by omega)
  exact ⟨r,c',e,h1,h2,.inl h3⟩
theorem C6z(c:B5)(w:A7)(h:Cur c)(h1:w.2.1.length≤1000)(h2:w.2.2.2.1.length≤1000)(h3:w.2.2.2.2.1.length≤1000) :
  ∃ e c',J9 c w=some (e,c',w,())∧Cur c'∧e.2.1<9223372036854775807:=by
 obtain ⟨k,c1,q1,hc1,k0,k1⟩:=F6 c 12 h (by omega)
 simp only [J9,Z8,q1,bO]
 obtain ⟨b0,m0⟩:∃ b,(bif decide (k=0) then (some (decide (k=0),()):Option (Bool×Unit)) else bif decide (k=1) then some (decide (k=1),()) else some (decide (k=2),()))=some (b,()):=by
  cases decide (k=0)<;>cases decide (k=1)<;>exact ⟨_,rfl⟩
 rw [m0]
 simp only [bO]
 cases b0 with
 | true=>
  obtain ⟨r,c2,q2,hc2,r0,r1⟩:=B0Q c1 (w.2.1.length:Int) hc1 (by omega)
  simp only [cond_true,q2,bO,B9]
  exact ⟨_,_,rfl,hc2,by simp only;omega⟩
 | false=>
 simp only [cond_false]
 obtain ⟨b1,m1⟩:∃ b,(bif decide (k=3) then (some (decide (k=3),()):Option (Bool×Unit)) else bif decide (k=4) then some (decide (k=4),()) else some (decide (k=5),()))=some (b,()):=by
  cases decide (k=3)<;>cases decide (k=4)<;>exact ⟨_,rfl⟩
 rw [m1]
 simp only [bO]
 cases b1 with
 | true=>
  obtain ⟨r,c2,q2,hc2,r0,r1⟩:=B0Q c1 (IntKind.i64.wrap ((w.2.2.2.1.length:Int)+1)) hc1 (by rw [w64 (by omega) (by omega)];omega)
  rw [w64 (by omega) (by omega)] at r1
  simp only [cond_true,q2,bO,B9]
  exact ⟨_,_,rfl,hc2,by simp only;omega⟩
 | false=>
 simp only [cond_false]
 obtain ⟨b2,m2⟩:∃ b,(bif decide (k=6) then (some (decide (k=6),()):Option (Bool×Unit)) else some (decide (k=7),()))=some (b,()):=by
  cases decide (k=6)<;>exact ⟨_,rfl⟩
 rw [m2]
 simp only [bO]
 cases b2 with
 | true=>
  simp only [cond_true,B9]
  exact ⟨_,_,rfl,hc1,by simp only;omega⟩
 | false=>
 simp only [cond_false]
 obtain ⟨b3,m3⟩:∃ b,(bif decide (k=8) then (some (decide (k=8),()):Option (Bool×Unit)) else some (decide (k=9),()))=some (b,()):=by
  cases decide (k=8)<;>exact ⟨_,rfl⟩
 rw [m3]
 simp only [bO]
 cases b3 with
 | true=>
  obtain ⟨r,c2,q2,hc2,r0,r1⟩:=B0Q c1 (IntKind.i64.wrap ((w.2.2.2.2.1.length:Int)+1)) hc1 (by rw [w64 (by omega) (by omega)];omega)
  rw [w64 (by omega) (by omega)] at r1
  simp only [cond_true,q2,bO,B9]
  exact ⟨_,_,rfl,hc2,by simp only;omega⟩
 | false=>
 simp only [cond_false]
 cases decide (k=10) with
 | true=>
  obtain ⟨r,c2,q2,hc2,r0,r1⟩:=B0Q c1 (w.2.1.length:Int) hc1 (by omega)
  simp only [cond_true,q2,bO,B9]
  exact ⟨_,_,rfl,hc2,by simp only;omega⟩
 | false=>
 simp only [cond_false,B9]
 obtain ⟨z,e,hz⟩:=R4 (W8 L4 w) (fun l=>(20-l.1).toNat)
  (fun l=>0≤l.1∧l.1≤20∧l.2.1=6∧l.2.2.1=0∧Cur (l.2.2.2.1,(l.2.2.2.2.1,l.2.2.2.2.2.1))∧(l.2.2.2.2.2.2.1.length:Int)=l.1) (fun z=>z.2.2.1=w∧Cur z.2.1∧z.1.2.1=0) (fun l hl=>by
   obtain ⟨g0,g1,g2,g3,g4,g5⟩:=hl
   simp only [W8]
   by_cases hi:l.1<20
   ·obtain ⟨b,c',q,hc'⟩:=A4U _ 2 g4 (by omega)
    rw [A0 hi,q]
    simp only [cond_true,bO]
    rw [A0 (by simp;omega),A0 (by simp;omega),w64 (by omega) (by omega)]
    exact .inl ⟨_,rfl,⟨by simp only;omega,by simp only;omega,g2,g3,hc',by simp;omega⟩,by simp only;omega⟩
   ·rw [A4 hi]
    exact .inr ⟨_,rfl,rfl,g4,g3⟩) (0,6,0,c1.1,c1.2.1,c1.2.2,[],()) ⟨by simp,by simp,rfl,rfl,hc1,rfl⟩
 obtain ⟨ev,c',w',u⟩:=z
 obtain ⟨z1,z2,z3⟩:=hz
 simp only at z1 z2 z3
 subst z1
 exact ⟨ev,c',e,z2,by omega⟩
def B7M(n:Int)(cls:List B1):A7:=(L9 n,cls,List.replicate cls.length false,[],[],List.replicate cls.length (-1))
def D7V:A7:=((((([],[]),(0,(0,[]))),[]),([],([],([],([],[]))))):A7)
theorem C35(n:Int)(cls:List B1)(hl:cls.length≤1000)(hc:∀ c∈cls,c.1.size≤maxLen∧c.2.1.length≤140737488355328):∃ w,M4 n cls=some (w,())∧(w=B7M n cls∨w=D7V):=by
 have hd:=C6m n
 have ks:C0 (H2 L7 cls) (0,0,0,(D0 n).1,(D0 n).2,[],[],[],[],[],())=some (0,0,(D0 n).1,(D0 n).2,[],[],cls,List.replicate cls.length false,List.replicate cls.length (-1),()):=by
  have key:=G2 (H2 L7 cls) (fun i=>((i:Int),0,0,(D0 n).1,(D0 n).2,[],[],cls.take i,List.replicate i false,List.replicate i (-1),())) cls.length (0,0,(D0 n).1,(D0 n).2,[],[],cls,List.replicate cls.length false,List.replicate cls.length (-1),()) (fun i hi=>?_) ?_
  ·simpa using key
  ·have g1:(i:Int)<(cls.length:Int):=by omega
   have g2:(0:Int)≤(i:Int):=by omega
   simp only [H2,A0 g1,A0 g2,cond_true]
   rw [E3 (k:=A9) (xs:=cls) hi,B4q _ (hc _ (List.getElem_mem hi)).2]
   simp only [A3]
   rw [A0 (by simp;omega),A0 (by simp;omega),A0 (by simp;omega),A0 (by simp;omega),A0 (by simp;omega),A0 (by simp;omega),w64 (by omega) (by omega),List.take_succ_eq_append_getElem hi,List.replicate_succ',List.replicate_succ']
   rfl
  ·simp [H2]
 have hsec:B1J (D0 n).1:=by
  refine ⟨by omega,fun s hs=>?_⟩
  unfold D0 at hs
  split at hs
  ·rw [List.eq_of_mem_replicate hs];exact Nat.zero_le _
  ·cases hs
 have hw:D7M (B7M n cls):=⟨hsec,by simp [B7M,L9],⟨by show cls.length≤_;omega,fun c h=>(hc c h).1⟩,⟨by simp [B7M],fun a ha=>by cases ha⟩,by simp [B7M]⟩
 obtain ⟨b,hb,hi⟩:=C19 (B7M n cls) hw
 simp only [M4,Y4,B2M,A3]
 have es:C0 (H2 L7 cls) (0,(L9 n).1.2.1,(L9 n).1.2.2.1,(L9 n).1.1.1,(L9 n).1.1.2,(L9 n).1.2.2.2,(L9 n).2,[],[],[],())=_:=ks
 rw [es]
 have hb':X4 (((((D0 n).1,(D0 n).2),((0:Int),((0:Int),[]))),[]),(cls,(List.replicate cls.length false,([],([],List.replicate cls.length (-1))))))=some (b,()):=hb
 simp only [hb']
 cases b with
 | false=>exact ⟨_,rfl,.inr rfl⟩
 | true=>exact ⟨_,rfl,.inl rfl⟩
def abc:List ByteArray:= [(⟨#[97]⟩:ByteArray),(⟨#[98]⟩:ByteArray),(⟨#[99]⟩:ByteArray)]
theorem D6Q:∀ i j:Nat,i<3→j<3→abc[i]? = abc[j]?→i=j:=by
 have ne:∀ a b:UInt8,(⟨#[a]⟩:ByteArray)=⟨#[b]⟩→a=b:=fun a b e=>by
  injection e with e;injection e with e;injection e
 intro i j hi hj
 have h:∀ (a b:UInt8),a≠b→(some (⟨#[a]⟩:ByteArray)=some ⟨#[b]⟩→i=j):=fun a b hne e=>absurd (ne a b (Option.some.inj e)) hne
 match i,j,hi,hj with
 | 0,0,_,_=>exact fun _=>rfl
 | 1,1,_,_=>exact fun _=>rfl
 | 2,2,_,_=>exact fun _=>rfl
 | 0,1,_,_=>exact fun e=>absurd (ne 97 98 (Option.some.inj e)) (by decide)
 | 0,2,_,_=>exact fun e=>absurd (ne 97 99 (Option.some.inj e)) (by decide)
 | 1,0,_,_=>exact fun e=>absurd (ne 98 97 (Option.some.inj e)) (by decide)
 | 1,2,_,_=>exact fun e=>absurd (ne 98 99 (Option.some.inj e)) (by decide)
 | 2,0,_,_=>exact fun e=>absurd (ne 99 97 (Option.some.inj e)) (by decide)
 | 2,1,_,_=>exact fun e=>absurd (ne 99 98 (Option.some.inj e)) (by decide)
theorem D7W:∀ s∈abc,idB s=true∧s.size=1:=by
 intro s hs
 simp only [abc,List.mem_cons,List.not_mem_nil,or_false] at hs
 rcases hs with rfl | rfl | rfl<;>exact ⟨by decide,rfl⟩
structure D2j (j:Int) (cls:List B1):Prop where
 n:(cls.length:Int)+j≤3
 ok:∀ a∈cls,ClG a∧a.2.2.1=1∧∃ i:Nat,i<3∧j≤(i:Int)∧abc[i]? = some a.1
 dist:∀ (p q:Nat) (a b:B1),cls[p]? = some a→cls[q]? = some b→a.1=b.1→p=q
theorem D4t{j:Nat}{cls:List B1}(h:D2j ((j:Int)+1) cls){a:B1}(ha:ClG a)(h1:a.2.2.1=1)(hid:abc[j]? = some a.1):D2j (j:Int) (cls ++ [a]):=by
 have hn:=h.n
 have get:∀ (p:Nat) (x:B1),(cls ++ [a])[p]? = some x→(p<cls.length∧cls[p]? = some x)∨(p=cls.length∧x=a):=fun p x hx=>by
  rcases Nat.lt_or_ge p cls.length with hp | hp
  ·rw [List.getElem?_append_left hp] at hx;exact .inl ⟨hp,hx⟩
  ·rw [List.getElem?_append_right hp] at hx
   have:=(List.getElem?_eq_some_iff.1 hx).1
   simp at this
   obtain rfl:p=cls.length:=by omega
   rw [Nat.sub_self] at hx
   injection hx with hx
   exact .inr ⟨rfl,hx.symm⟩
 have diff:∀ x∈cls,x.1≠a.1:=fun x hx e=>by
  obtain ⟨_,_,i,hi3,hi,g⟩:=h.ok x hx
  rw [e,← hid] at g
  have:=D6Q i j hi3 (by have:=(List.getElem?_eq_some_iff.1 hid).1;simpa [abc] using this) g
  omega
 refine ⟨by simp;omega,fun x hx=>?_,fun p q x y hx hy e=>?_⟩
 ·rcases List.mem_append.1 hx with hx | hx
  ·obtain ⟨g1,g2,i,g3,g4,g5⟩:=h.ok x hx
   exact ⟨g1,g2,i,g3,by omega,g5⟩
  ·rw [List.mem_singleton] at hx;subst hx
   have:=(List.getElem?_eq_some_iff.1 hid).1
   exact ⟨ha,h1,j,by simpa [abc] using this,Int.le_refl _,hid⟩
 ·rcases get p x hx with ⟨hp,gx⟩ | ⟨hp,rfl⟩<;>rcases get q y hy with ⟨hq,gy⟩ | ⟨hq,rfl⟩
  ·exact h.dist p q x y gx gy e
  ·exact absurd e (diff x (List.mem_of_getElem? gx))
  ·exact absurd e.symm (diff y (List.mem_of_getElem? gy))
  ·omega
theorem D4u{n:Int}(hn:n≤200){cls:List B1}(h:D2j 0 cls):WIw 0 (((D0 n,(0,(0,[]))),[]),(cls,(List.replicate cls.length false,([],([],List.replicate cls.length (-1)))))):=by
 obtain ⟨⟨c,hd⟩,hep,_⟩:=A8D n hn
 have hsc:B7 (D0 n).1 = []:=by
  have h1:(0:Int)=((B7 (D0 n).1).length:Int):=by
   rcases hd.g with ⟨_,_,_,h4,_⟩
   exact h4
  exact List.eq_nil_of_length_eq_zero (by omega)
 have hl:=h.n
 have hrep:∀ {α:Type} (v:α) (i:Nat) (x:α),(List.replicate cls.length v)[i]? = some x→x=v:=fun v i x hx=>(List.mem_replicate.1 (List.mem_of_getElem? hx)).2
 refine wiw (c:=c) (uc:= []) {
  dur:=hd
  ep:=hep
  nd:=fun r hr=>by rw [hsc] at hr;cases hr
  fuc:=by rw [hsc,List.take_nil];rfl
  n6:=by omega
  lb:=List.length_replicate
  lt:=List.length_replicate
  dist:=h.dist
  cl:=fun i a ha=>(h.ok a (List.mem_of_getElem? ha)).1
  cnt:=fun i b hb=>by rw [hrep _ _ _ hb];rfl
  dn:=fun i a ha h5=>by have:=(h.ok a (List.mem_of_getElem? ha)).2.1;omega
  ask:=fun a ha=>by cases ha
  hld:=fun a ha=>by cases ha
  tell:=fun a ha=>by cases ha
  bst:=fun i a b ha hb=>.inl (hrep _ _ _ hb)
  ends:=fun i a ha h5=>by have:=(h.ok a (List.mem_of_getElem? ha)).2.1;omega
  oku:=fun u hu=>by cases hu
  la:=Nat.zero_le _
  l6:=Nat.zero_le _
  lh:=Nat.zero_le _}
theorem C9a(c:B5)(h:Cur c)(j:Int)(hj:0≤j∧j≤3):∃ y c',C0 (S0 Y3 F3 F2) (j,c.1,c.2.1,c.2.2,[],())=some (c'.1,c'.2.1,c'.2.2,y,())∧Cur c'∧D2j 0 y:=by
 obtain ⟨z,e,hz⟩:=R4 (S0 Y3 F3 F2) (fun l=>l.1.toNat)
  (fun l=>0≤l.1∧l.1≤3∧Cur (l.2.1,(l.2.2.1,l.2.2.2.1))∧D2j l.1 l.2.2.2.2.1) (fun z=>Cur (z.1,(z.2.1,z.2.2.1))∧D2j 0 z.2.2.2.1) (fun l hl=>by
   obtain ⟨g0,g1,g2,g3⟩:=hl
   simp only [S0]
   by_cases hi:l.1>0
   ·obtain ⟨m,hm⟩:∃ m:Nat,l.1=(m:Int)+1:=⟨(l.1-1).toNat,by omega⟩
    have w1:IntKind.i64.wrap (l.1-1)=(m:Int):=by rw [w64 (by omega) (by omega)];omega
    obtain ⟨n,c1,q1,h1,hn⟩:=O3 _ [0,5,24,60,50] g2 (by simp)
    have hn2:0≤n∧n≤60:=by
     simp only [List.mem_cons,List.not_mem_nil,or_false] at hn
     omega
    obtain ⟨dat,c2,q2,h2,hl2,hb2⟩:=B0H c1 n h1 (by omega)
    have hm3:m<3:=by omega
    have hmabc:m<abc.length:=hm3
    have hrd:rd .str [(⟨#[97]⟩:ByteArray),(⟨#[98]⟩:ByteArray),(⟨#[99]⟩:ByteArray)] (m:Int)=abc[m]:=A3T (xs:=abc) hmabc
    obtain ⟨hid,hsz⟩:=D7W _ (List.getElem_mem hmabc)
    have hok:I6 (abc[m],dat,1,0)=true:=by
     simp only [I6,Bool.and_eq_true,decide_eq_true_eq]
     refine ⟨⟨⟨hid,by omega⟩,by omega⟩,by omega⟩
    have hlen:=g3.n
    have q3:=C1R abc[m] dat (by simp only [maxLen];omega) (by omega)
    simp only [B7L,hok,if_true] at q3
    rw [A0 hi,w1,A0 (show (0:Int)≤(m:Int) by omega),A0 (by simp;omega),q1]
    simp only [cond_true,bO,q2,hrd,q3]
    rw [A0 (by simp;omega),A0 (by simp;omega)]
    refine .inl ⟨_,rfl,⟨by simp only;omega,by simp only;omega,h2,?_⟩,by simp only;omega⟩
    refine D4t (by rw [← hm];exact g3) ⟨hok,by show (1:Int)≠6;omega,hb2,fun h=>by cases h⟩ rfl (List.getElem?_eq_getElem hmabc)
   ·rw [A4 hi]
    have e0:l.1=0:=by omega
    rw [e0] at g3
    exact .inr ⟨_,rfl,g2,g3⟩) (j,c.1,c.2.1,c.2.2,[],()) ⟨hj.1,hj.2,h,⟨by simp;omega,fun a ha=>by (cases ha),fun p q a b ha=>by (simp at ha)⟩⟩
 exact ⟨z.2.2.2.1,(z.1,(z.2.1,z.2.2.1)),e,hz.1,hz.2⟩
theorem D6R{k:Nat}{w:A7}(h:WIw k w):w.2.1.length≤6∧w.2.2.2.1.length≤60∧w.2.2.2.2.1.length≤60:=by
 obtain ⟨c,uc,h⟩:=h
 exact ⟨h.n6,h.la,h.l6⟩
theorem D7z{k k':Nat}{w:A7}(h:WIw k w)(hk:k≤k'):WIw k' w:=by
 obtain ⟨c,uc,h⟩:=h
 exact ⟨c,uc,{h with ep:=by have:=h.ep;omega}⟩
theorem C9b(c:B5)(n:Int)(hc:Cur c)(hn:0<n∧n≤1000):∃ w c',O9 c n=some (w,c',())∧WIw 1000 w∧Cur c':=by
 obtain ⟨m,c1,q1,h1,hm⟩:=O3 c [1,2,3] hc (by simp)
 have hm2:0≤m∧m≤3:=by
  simp only [List.mem_cons,List.not_mem_nil,or_false] at hm
  omega
 obtain ⟨cls,c2,q2,h2,hcls⟩:=C9a c1 h1 m hm2
 have hcn:=hcls.n
 obtain ⟨w,q3,hw⟩:=C35 40 cls (by omega) (fun x hx=>by
  obtain ⟨g,_⟩:=hcls.ok x hx
  have:=(A0d g).2.1
  exact ⟨B3K g,by omega⟩)
 have hw0:WIw 0 w:=by
  rcases hw with rfl | rfl
  ·exact D4u (n:=40) (by omega) hcls
  ·exact D4u (n:=-1) (by omega) (cls:= []) ⟨by simp,fun a ha=>by (cases ha),fun p q a b ha=>by (simp at ha)⟩
 obtain ⟨k,c3,q4,h3,k0,k1⟩:=F6 c2 n h2 (by omega)
 have q4':C1 (c2.1,(c2.2.1,c2.2.2)) n=_:=q4
 simp only [O9,A0O,q1,q2,q3,q4',bO]
 obtain ⟨z,e,hz⟩:=R4 (Y6 A2q J9) (fun l=>l.1.toNat)
  (fun l=>∃ j:Nat,l.1≤1000-(j:Int)∧j≤1000∧WIw j ((((l.2.1,l.2.2.1),(l.2.2.2.1,(l.2.2.2.2.1,l.2.2.2.2.2.1))),l.2.2.2.2.2.2.2.2.2.1),(l.2.2.2.2.2.2.2.2.2.2.1,(l.2.2.2.2.2.2.2.2.2.2.2.1,(l.2.2.2.2.2.2.2.2.2.2.2.2.1,(l.2.2.2.2.2.2.2.2.2.2.2.2.2.1,l.2.2.2.2.2.2.2.2.2.2.2.2.2.2.1)))))∧Cur (l.2.2.2.2.2.2.1,(l.2.2.2.2.2.2.2.1,l.2.2.2.2.2.2.2.2.1))) (fun z=>WIw 1000 z.1∧Cur z.2.1) (fun l hl=>by
   obtain ⟨j,g0,gj,g1,g2⟩:=hl
   obtain ⟨w1,w2,w3⟩:=D6R g1
   simp only [Y6]
   by_cases hi:l.1>0
   ·obtain ⟨ev,c',e,hc',hev⟩:=C6z _ _ g2 (Nat.le_trans w1 (by omega)) (Nat.le_trans w2 (by omega)) (Nat.le_trans w3 (by omega))
    obtain ⟨b,w',q,hw'⟩:=D7T j (by omega) _ g1 ev hev
    rw [A0 hi,e]
    simp only [cond_true,bO]
    rw [q]
    simp only [bO]
    rw [w64 (by omega) (by omega)]
    exact .inl ⟨_,rfl,⟨j+1,by simp only;omega,by omega,hw',hc'⟩,by simp only;omega⟩
   ·rw [A4 hi]
    exact .inr ⟨_,rfl,D7z g1 gj,g2⟩) (k,w.1.1.1.1,w.1.1.1.2,w.1.1.2.1,w.1.1.2.2.1,w.1.1.2.2.2,c3.1,c3.2.1,c3.2.2,w.1.2,w.2.1,w.2.2.1,w.2.2.2.1,w.2.2.2.2.1,w.2.2.2.2.2,()) ⟨0,by simp only;omega,by omega,hw0,h3⟩
 exact ⟨z.1,z.2.1,e,hz⟩
def cOk(c:B1):Prop:=I6 c=true∧Byt c.2.1
theorem D2k{c:B1}(h:cOk c):c.1.size≤8∧c.2.1.length≤400∧idB c.1=true∧1≤c.2.2.1∧c.2.2.1≤6∧0≤c.2.2.2∧c.2.2.2≤(c.2.1.length:Int):=by
 have h1:=h.1
 simp only [I6,Bool.and_eq_true,decide_eq_true_eq] at h1
 have:=C1A h1.1.1.1
 refine ⟨this,by omega,h1.1.1.1,?_⟩
 omega
theorem D7X{r:A16}(h:A0v r=true):r.2.1.size≤8∧(0≤r.2.2∧r.2.2≤4294967295):=by
 simp only [A0v,Bool.and_eq_true,decide_eq_true_eq] at h
 refine ⟨C1A h.1.2,h.2.1,?_⟩
 have:=h.2.2
 unfold B0J at this
 split at this
 ·omega
 ·split at this
  ·omega
  ·split at this
   ·omega
   ·omega
theorem C9c{c:B1}(h:cOk c){r:A16}{d:List Int}(hq:M7 c=(r,d,true,())):A0v r=true∧Byt d∧d.length≤1048576:=by
 obtain ⟨_,h400,hid,h1,h2,h3,h4⟩:=D2k h
 have hl:=B2D c
 rw [hq] at hl
 have hl':d.length≤c.2.1.length:=hl
 have hcrc:=A66 h.2
 have hx:A3U c.2.1 ^^^ 4294967295<2 ^ 32:=Nat.xor_lt_two_pow hcrc (by omega)
 have mk:∀ (op n:Int),1≤op→op≤6→0≤n→n≤B0J op→A0v (op,c.1,n)=true:=fun op n g1 g2 g3 g4=>by
  simp only [A0v,Bool.and_eq_true,decide_eq_true_eq]
  exact ⟨⟨by omega,hid⟩,by omega⟩
 have key:(M7 c).2.2.1=true→A0v (M7 c).1=true∧Byt (M7 c).2.1:=by
  unfold M7
  rw [h.1]
  simp only [Bool.true_eq_false,if_false]
  split
  ·exact fun _=>⟨mk 1 _ (by omega) (by omega) (by omega) (by show _≤(1000000000:Int);omega),T3⟩
  ·split
   ·exact fun _=>⟨mk 2 _ (by omega) (by omega) (by omega) (by show _≤(0:Int);omega),T3⟩
   ·split
    ·exact fun _=>⟨mk 3 _ (by omega) (by omega) (by omega) (by show _≤(1000000000:Int);omega),A6t (A3V h.2 _) _⟩
    ·split
     ·exact fun _=>⟨mk 4 _ (by omega) (by omega) (by omega) (by show _≤(4294967295:Int);omega),T3⟩
     ·exact fun e=>by cases e
 rw [hq] at key
 obtain ⟨k1,k2⟩:=key rfl
 exact ⟨k1,k2,by omega⟩
theorem D1U{α:Type}{l:List α}{i:Nat}{v x:α}(h:x∈l.set i v):x∈l∨x=v:=List.mem_or_eq_of_mem_set h
structure CpS (w:A7):Prop where
 sv:D4f w.1
 cl:w.2.1.length≤1048576
 fi:∀ c∈w.2.1,c.2.1.length≤1048576
 bu:w.2.2.1.length≤1048576
 as_:w.2.2.2.1.length≤1048576
 da:∀ a∈w.2.2.2.1,a.2.2.length≤1048576
 te:w.2.2.2.2.1.length≤1048576
 be_:w.2.2.2.2.2.length≤1048576
theorem C1S{w:A7}(h:CpS w):A59 w=some (w,()):=by
 obtain ⟨⟨⟨⟨now,sure⟩,ep,nx,ups⟩,held⟩,cls,busy,asks,tells,best⟩:=w
 obtain ⟨h1,h2,h3,h4,h5,h6,h7,h8⟩:=h
 simp only at h1 h2 h3 h4 h5 h6 h7 h8
 simp only [A59,B28,A5U _ h1,bO,List.nil_append,List.length_nil,Nat.zero_add]
 rw [A0 (show busy.length≤9223372036854775807 by omega),A0 (show busy.length*1≤140737488355328 by omega),A0 (show tells.length≤9223372036854775807 by omega),A0 (show tells.length*24≤140737488355328 by omega),A0 (show best.length≤9223372036854775807 by omega),A0 (show best.length*8≤140737488355328 by omega)]
 simp only [cond_true]
 have k1:C0 (A1z L7 (((((now,sure),(ep,(nx,ups))),held),(cls,(busy,(asks,(tells,best))))):A7)) (0,ep,nx,busy,tells,best,now,sure,ups,held,[],())=some (ep,nx,busy,tells,best,now,sure,ups,held,cls,()):=by
  have key:=G2 (A1z L7 (((((now,sure),(ep,(nx,ups))),held),(cls,(busy,(asks,(tells,best))))):A7)) (fun i=>((i:Int),ep,nx,busy,tells,best,now,sure,ups,held,cls.take i,())) cls.length (ep,nx,busy,tells,best,now,sure,ups,held,cls,()) (fun i hi=>?_) ?_
  ·simpa using key
  ·have g1:(i:Int)<(cls.length:Int):=by omega
   have g2:(0:Int)≤(i:Int):=by omega
   have hf:=h3 _ (List.getElem_mem hi)
   simp only [A1z,A0 g1,A0 g2,cond_true]
   rw [E3 (k:=A9) (xs:=cls) hi,B4q _ (by omega)]
   simp only [bO]
   rw [A0 (by simp;omega),A0 (by simp;omega),w64 (by omega) (by omega),List.take_succ_eq_append_getElem hi]
   rfl
  ·simp [A1z]
 rw [k1]
 simp only [bO]
 have key:=G2 (A4o (((((now,sure),(ep,(nx,ups))),held),(cls,(busy,(asks,(tells,best))))):A7)) (fun i=>((i:Int),ep,nx,busy,tells,best,now,sure,ups,held,cls,asks.take i,())) asks.length ((((((now,sure),(ep,(nx,ups))),held),(cls,(busy,(asks,(tells,best))))):A7),()) (fun i hi=>?_) ?_
 ·simpa using key
 ·have g1:(i:Int)<(asks.length:Int):=by omega
  have g2:(0:Int)≤(i:Int):=by omega
  have hf:=h6 _ (List.getElem_mem hi)
  simp only [A4o,A0 g1,A0 g2,cond_true]
  rw [E3 (k:=H0) (xs:=asks) hi,A0 (by simp;omega),A0 (by simp;omega),A0 (by simp;omega),A0 (by simp;omega),w64 (by omega) (by omega),List.take_succ_eq_append_getElem hi]
  rfl
 ·simp [A4o]
structure C9d (st:A5):Prop where
 sd:B2L st.1
 n:st.2.2.2.length≤20
 up:∀ u∈st.2.2.2,u.1.size≤64∧Byt u.2.2.1∧List.length u.2.2.1≤1000000∧(@LE.le Int _ (List.length u.2.2.1:Int) u.2.1∧@LE.le Int _ u.2.1 1000000)
theorem D1V{st:A5}(h:GoodS st)(hw:B7F st):C9d st:=by
 have hU:=C1F h
 have hS:=A4r h.dk
 have hwant:=B0P (N:=1000000) h.up hw (fun u hu=>by cases hu)
 refine ⟨hS.1,by have:=hU.2.1;omega,fun u hu=>?_⟩
 have hg:=hU.2.2 u hu
 have h1:=hg.1
 have h2:@LE.le Int _ u.2.1 1000000:=hwant u hu
 have h3:=hg.2.2.1
 exact ⟨by omega,hg.2.2.2,by omega,h1,h2⟩
theorem D2l{k:Nat}{st:A5}(h:A6u k st):C9d st:=by
 obtain ⟨c,hd⟩:=h.dur
 exact D1V hd.g h.wn
theorem D6S{k:Nat}{sv:D4}(h:SvI k sv):C9d sv.1:=by
 obtain ⟨c,hd⟩:=h.dur
 exact D1V hd.g h.wn
theorem D7Y{st:A5}(h:C9d st):A5T st:=⟨h.sd,by have:=h.n;omega,fun u hu=>by have:=(h.up u hu).2.2.1;omega⟩
theorem D2m(c:B5)(n:Int)(hc:Cur c)(hn:0<n∧n≤1000):∃ y c',Q8 c n=some (y,c',())∧C9d y∧Cur c':=by
 obtain ⟨st,c1,q1,h1,hc1⟩:=C9O c n hc hn
 have ha:=D2l h1
 obtain ⟨k,c2,q2,hc2,k0,k1⟩:=F6 c1 12 hc1 (by omega)
 have hl:=ha.n
 simp only [Q8,A0s,q1,q2,bO]
 cases decide (k=0) with
 | true=>
  obtain ⟨m,c3,q3,hc3,_⟩:=O3 c2 [(-1),10000,10001,0] hc2 (by simp)
  simp only [cond_true,q3,bO]
  exact ⟨_,_,rfl,⟨ha.sd,ha.n,ha.up⟩,hc3⟩
 | false=>
 simp only [cond_false]
 cases decide (k=1) with
 | true=>exact ⟨_,_,rfl,⟨ha.sd,ha.n,ha.up⟩,hc2⟩
 | false=>
 simp only [cond_false]
 cases decide (k=2) with
 | true=>
  obtain ⟨cd,hdr⟩:=h1.dur
  have hl10:=(C1F hdr.g).2.1
  simp only [cond_true]
  rw [A0 (by simp;omega),A0 (by simp;omega)]
  refine ⟨_,_,rfl,⟨ha.sd,by simp only [List.length_append,List.length_cons,List.length_nil];omega,fun u hu=>?_⟩,hc2⟩
  rcases List.mem_append.1 hu with hu | hu
  ·exact ha.up u hu
  ·rw [List.mem_singleton.1 hu]
   exact ⟨by decide,T3,Nat.zero_le _,by decide,by decide⟩
 | false=>
 simp only [cond_false]
 cases decide (k=3) with
 | true=>
  simp only [cond_true]
  by_cases hz:(st.1.1.length:Int)>0
  ·rw [A0 hz]
   exact ⟨_,_,rfl,⟨⟨C6e ha.sd.1 0 (by decide),ha.sd.2⟩,ha.n,ha.up⟩,hc2⟩
  ·rw [A4 hz]
   exact ⟨_,_,rfl,ha,hc2⟩
 | false=>exact ⟨_,_,rfl,ha,hc2⟩
theorem D2n(c:B5)(n:Int)(hc:Cur c)(hn:0<n∧n≤1000):∃ y c',Q9 c n=some (y,c',())∧C9d y.1∧y.2.length≤201∧Cur c':=by
 obtain ⟨sv,c1,q1,h1,hc1⟩:=C9X c n hc hn
 have ha:=D6S h1
 have hl:=h1.hl
 obtain ⟨k,c2,q2,hc2,k0,k1⟩:=F6 c1 12 hc1 (by omega)
 simp only [Q9,A0t,q1,q2,bO]
 cases decide (k=0) with
 | true=>
  obtain ⟨st,c3,q3,hst,hc3⟩:=D2m c2 5 hc2 (by omega)
  simp only [cond_true,q3,bO]
  exact ⟨_,_,rfl,hst,by simp only;omega,hc3⟩
 | false=>
 simp only [cond_false]
 cases decide (k=1) with
 | true=>
  obtain ⟨m,c3,q3,hc3,_⟩:=O3 c2 [0,200] hc2 (by simp)
  simp only [cond_true,q3,bO]
  rw [A0 (by simp;omega),A0 (by simp;omega)]
  exact ⟨_,_,rfl,ha,by simp only [List.length_append,List.length_cons,List.length_nil];omega,hc3⟩
 | false=>exact ⟨_,_,rfl,ha,by omega,hc2⟩
theorem D2o(c:B5)(hc:Cur c):∃ r c',A6p c=some (r,c',())∧Cur c'∧r.2.1.size≤64∧(-9223372036854775808≤r.2.2∧r.2.2≤9223372036854775807):=by
 obtain ⟨r,c1,q1,h1,r0,r1,r2⟩:=C9W c hc
 obtain ⟨k,c2,q2,h2,_⟩:=F6 c1 10 h1 (by omega)
 simp only [A6p,B4n,q1,q2,bO]
 cases decide (k=0) with
 | true=>
  obtain ⟨m,c3,q3,h3,_⟩:=O3 c2 [0,7,2] h2 (by simp)
  simp only [cond_true,q3,bO]
  exact ⟨_,_,rfl,h3,r2,by simp only;omega⟩
 | false=>
 simp only [cond_false]
 cases decide (k=1) with
 | true=>
  obtain ⟨s,c3,q3,h3,hs⟩:=B2G c2 [(⟨#[]⟩:ByteArray),(⟨#[65]⟩:ByteArray),(⟨#[110,105,110,101,98,121,116,101,115]⟩:ByteArray),(⟨#[97,32,98]⟩:ByteArray)] h2 (by simp)
  have hsz:s.size≤64:=by
   simp only [List.mem_cons,List.not_mem_nil,or_false] at hs
   rcases hs with rfl | rfl | rfl | rfl<;>decide
  simp only [cond_true,q3,bO]
  exact ⟨_,_,rfl,h3,hsz,by simp only;omega⟩
 | false=>
 simp only [cond_false]
 cases decide (k=2) with
 | true=>
  obtain ⟨m,c3,q3,h3,hm⟩:=O3 c2 [(-1),1000000001,4294967296,3] h2 (by simp)
  have hm2:-1≤m∧m≤4294967296:=by
   simp only [List.mem_cons,List.not_mem_nil,or_false] at hm
   omega
  simp only [cond_true,q3,bO]
  exact ⟨_,_,rfl,h3,r2,by simp only;omega⟩
 | false=>exact ⟨_,_,rfl,h2,r2,by omega⟩
theorem C9e(c:B5)(hc:Cur c):∃ r c',A5A c=some (r,c',())∧Cur c':=by
 obtain ⟨m,c1,q1,h1,_⟩:=O3 c [200,201,204,404,409,100,599] hc (by simp)
 obtain ⟨n,c2,q2,h2,_⟩:=O3 c1 [(-1),0,24,1000000000] h1 (by simp)
 simp only [A5A,B29,q1,q2,bO]
 exact ⟨_,_,rfl,h2⟩
structure BW (j:Nat) (w:A7):Prop where
 st:C9d w.1.1
 he:w.1.2.length≤300+j
 cl:w.2.1.length≤10
 co:∀ c∈w.2.1,c.1.size≤64∧Byt c.2.1∧c.2.1.length≤1000+j
 bu:w.2.2.1.length≤10+j
 as_:w.2.2.2.1.length≤100+j
 ao:∀ a∈w.2.2.2.1,a.2.1.2.1.size≤64∧Byt a.2.2∧a.2.2.length≤1000
 te:w.2.2.2.2.1.length≤100+j
 be_:w.2.2.2.2.2.length≤10
theorem D80{k:Nat}{w:A7}(h:WIw k w):BW 0 w:=by
 obtain ⟨c,uc,h⟩:=h
 obtain ⟨hR,hS,hok⟩:=C5K h
 have hU:=hR.up
 have hn:=h.n6
 have hlb:=h.lb
 have hlt:=h.lt
 have h60:=h.la
 have h6:=h.l6
 have h200:=h.lh
 refine ⟨⟨hR.dk,by have:=hU.2.1;omega,fun u hu=>?_⟩,by omega,by omega,fun x hx=>?_,by omega,by omega,fun a ha=>?_,by omega,by omega⟩
 ·obtain ⟨i,a,h1,_,h3⟩:=h.oku u hu
  have h4:=h3.len
  have h5:=(A0d (h.cl i a h1)).2.1
  have hg:=hU.2.2 u hu
  have h8:=hg.2.2.1
  have h9:@Eq Int u.2.1 (a.2.1.length:Int):=h3.want
  have h10:=hg.1
  exact ⟨by omega,hg.2.2.2,by omega,h10,by rw [h9];omega⟩
 ·obtain ⟨i,hi,rfl⟩:=List.getElem_of_mem hx
  have hg:=h.cl i _ (List.getElem?_eq_getElem hi)
  obtain ⟨hid,h4,_⟩:=A0d hg
  have:=C1A hid
  exact ⟨by omega,hg.byt,by omega⟩
 ·obtain ⟨i,cl,g1,_,g3⟩:=h.ask a ha
  obtain ⟨q1,q2,q3⟩:=D7U (h.cl i cl g1) g3
  obtain ⟨k1,k2,k3⟩:=C9c ⟨(h.cl i cl g1).ok,(h.cl i cl g1).byt⟩ g3
  have:=(D7X q1).1
  exact ⟨by omega,k2,by omega⟩
theorem D81{j:Nat}(hj:j≤1000){w:A7}(h:BW j w):CpS w:=by
 have h1:=h.he
 have h2:=h.cl
 have h3:=h.bu
 have h4:=h.as_
 have h5:=h.te
 have h6:=h.be_
 exact ⟨⟨D7Y h.st,by omega⟩,by omega,fun c hc=>by have:=(h.co c hc).2.2;omega,by omega,by omega,fun a ha=>by have:=(h.ao a ha).2.2;omega,by omega,by omega⟩
theorem D82{j:Nat}(hj:j≤1000){w:A7}(h:BW j w):Sm 1048576 A2O w∧D4Y w:=by
 obtain ⟨⟨st,held⟩,cls,busy,asks,tells,best⟩:=w
 obtain ⟨h0,h1,h2,hco,h3,h4,hao,h5,h6⟩:=h
 simp only at h0 h1 h2 hco h3 h4 hao h5 h6
 have hn:=h0.n
 refine ⟨⟨⟨⟨⟨⟨h0.sd.1.1,fun x hx=>h0.sd.1.2 x hx⟩,⟨h0.sd.2.1,fun x hx=>h0.sd.2.2 x hx⟩⟩,trivial,trivial,⟨by show List.length st.2.2.2≤_;omega,fun u hm=>?_⟩⟩,⟨by show held.length≤_;omega,fun x _=>⟨trivial,trivial,trivial⟩⟩⟩,⟨by show cls.length≤_;omega,fun x hx=>?_⟩,⟨by show busy.length≤_;omega,fun _ _=>trivial⟩,⟨by show asks.length≤_;omega,fun x hx=>?_⟩,⟨by show tells.length≤_;omega,fun x _=>⟨trivial,trivial,trivial⟩⟩,⟨by show best.length≤_;omega,fun _ _=>trivial⟩⟩,fun u hm=>(h0.up u hm).2.1,fun x hx=>(hco x hx).2.1⟩
 ·obtain ⟨g1,_,g2,_⟩:=h0.up u hm
  exact ⟨by show u.1.size≤_;omega,trivial,⟨by show List.length u.2.2.1≤_;omega,fun _ _=>trivial⟩,trivial⟩
 ·obtain ⟨g1,_,g2⟩:=hco x hx
  exact ⟨by show x.1.size≤_;omega,⟨by show x.2.1.length≤_;omega,fun _ _=>trivial⟩,trivial,trivial⟩
 ·obtain ⟨g1,_,g2⟩:=hao x hx
  exact ⟨trivial,⟨trivial,by show x.2.1.2.1.size≤_;omega,trivial⟩,⟨by show List.length x.2.2≤_;omega,fun _ _=>trivial⟩⟩
theorem D1W{j k:Nat}(hj:j≤k){w:A7}(h:BW j w):BW k w:=
 ⟨h.st,by have:=h.he;omega,h.cl,fun c hc=>by (obtain ⟨a1,a2,a3⟩:=h.co c hc;exact ⟨a1,a2,by omega⟩),by have:=h.bu;omega,by have:=h.as_;omega,h.ao,by have:=h.te;omega,h.be_⟩
theorem C9f(c:B5)(w:A7){j:Nat}(hj:j≤900)(hc:Cur c)(h:BW j w):∃ y c',L3 c w=some (y,c',())∧BW (j+1) y∧Cur c':=by
 have hcp:=C1S (D81 (by omega) h)
 simp only [L3,A0R,hcp,bO]
 have hm:=D1W (Nat.le_succ j) h
 have h1:=h.he
 have h2:=h.cl
 have h3:=h.bu
 have h4:=h.as_
 have h5:=h.te
 have h6:=h.be_
 obtain ⟨k,c1,q1,hc1,hk⟩:∃ (k:Int) (c1:B5),(bif decide ((w.2.1.length:Int)>0) then A3 (C1 c (w.2.1.length:Int)) fun c16=>some (c16.1,c16.2.1.1,c16.2.1.2.1,c16.2.1.2.2,()) else some (0,c.1,c.2.1,c.2.2,()))=some (k,c1.1,c1.2.1,c1.2.2,())∧Cur c1∧((w.2.1.length:Int)>0→0≤k∧k<(w.2.1.length:Int)):=by
  by_cases hz:(w.2.1.length:Int)>0
  ·obtain ⟨k,c1,q,hc1,k0,k1⟩:=F6 c (w.2.1.length:Int) hc (by omega)
   rw [A0 hz,q]
   exact ⟨k,c1,rfl,hc1,fun _=>by omega⟩
  ·rw [A4 hz]
   exact ⟨0,c,rfl,hc,fun hx=>absurd hx hz⟩
 rw [q1]
 simp only [bO]
 obtain ⟨m,c2,q2,hc2,_⟩:=F6 c1 9 hc1 (by omega)
 have q2':C1 (c1.1,(c1.2.1,c1.2.2)) 9=_:=q2
 rw [q2']
 simp only [bO]
 cases decide (m=0) with
 | true=>
  obtain ⟨sv,c3,q3,hsv,hl,hc3⟩:=D2n c2 6 hc2 (by omega)
  simp only [cond_true,q3,bO]
  exact ⟨_,_,rfl,{hm with st:=hsv,he:=by simp only;omega},hc3⟩
 | false=>
 simp only [cond_false]
 cases decide (m=1) with
 | true=>
  simp only [cond_true]
  by_cases hz:(w.2.1.length:Int)>0
  ·obtain ⟨k0,k1⟩:=hk hz
   obtain ⟨v,c3,q3,hc3,_⟩:=O3 c2 [0,5,6,7] hc2 (by simp)
   obtain ⟨i,rfl⟩:∃ i:Nat,k=(i:Int):=⟨k.toNat,by omega⟩
   have hi:i<w.2.1.length:=by omega
   rw [A0 hz,q3]
   simp only [cond_true,bO]
   rw [A0 k0,A0 k1,E3 (k:=A9) (xs:=w.2.1) hi]
   refine ⟨_,_,rfl,{hm with cl:=by simp only [List.length_set];exact h.cl,co:=fun x hx=>?_},hc3⟩
   have hci:=hm.co _ (List.getElem_mem hi)
   rcases D1U hx with hx | hx
   ·exact hm.co x hx
   ·rw [hx];exact hci
  ·rw [A4 hz]
   exact ⟨_,_,rfl,hm,hc2⟩
 | false=>
 simp only [cond_false]
 cases decide (m=2) with
 | true=>
  simp only [cond_true]
  by_cases hz:(w.2.1.length:Int)>0
  ·obtain ⟨k0,k1⟩:=hk hz
   obtain ⟨i,rfl⟩:∃ i:Nat,k=(i:Int):=⟨k.toNat,by omega⟩
   have hi:i<w.2.1.length:=by omega
   have hci:=h.co _ (List.getElem_mem hi)
   rw [A0 hz,A0 k0,A0 k1,E3 (k:=A9) (xs:=w.2.1) hi,A0 (by simp;omega),A0 (by simp;omega),A0 trivial]
   refine ⟨_,_,rfl,{hm with cl:=by simp only [List.length_set];exact h.cl,co:=fun x hx=>?_},hc2⟩
   rcases D1U hx with hx | hx
   ·exact hm.co x hx
   ·rw [hx]
    exact ⟨hci.1,B9w hci.2.1 (fun y hy=>by rw [List.mem_singleton.1 hy];omega),by simp only [List.length_append,List.length_cons,List.length_nil];omega⟩
  ·rw [A4 hz]
   exact ⟨_,_,rfl,hm,hc2⟩
 | false=>
 simp only [cond_false]
 cases decide (m=3) with
 | true=>
  simp only [cond_true]
  by_cases hz:(w.2.2.2.2.2.length:Int)>0
  ·obtain ⟨v,c3,q3,hc3,_⟩:=O3 c2 [100,1,(-1)] hc2 (by simp)
   rw [A0 hz,q3]
   simp only [cond_true,bO]
   exact ⟨_,_,rfl,{hm with be_:=by simp only [List.length_set];exact h.be_},hc3⟩
  ·rw [A4 hz]
   exact ⟨_,_,rfl,hm,hc2⟩
 | false=>
 simp only [cond_false]
 cases decide (m=4) with
 | true=>
  simp only [cond_true]
  rw [A0 (by simp;omega),A0 (by simp;omega)]
  exact ⟨_,_,rfl,{hm with bu:=by simp only [List.length_append,List.length_cons,List.length_nil];omega},hc2⟩
 | false=>
 simp only [cond_false]
 cases decide (m=5) with
 | true=>
  obtain ⟨who,c3,q3,hc3,_⟩:=F6 c2 4 hc2 (by omega)
  obtain ⟨r,c4,q4,hc4,r1,_⟩:=D2o c3 hc3
  simp only [cond_true,q3,q4,bO]
  rw [A0 (by simp;omega),A0 (by simp;omega)]
  refine ⟨_,_,rfl,{hm with as_:=by simp only [List.length_append,List.length_cons,List.length_nil];omega,ao:=fun x hx=>?_},hc4⟩
  rcases List.mem_append.1 hx with hx | hx
  ·exact h.ao x hx
  ·rw [List.mem_singleton.1 hx]
   exact ⟨r1,T3,Nat.zero_le _⟩
 | false=>
 simp only [cond_false]
 cases decide (m=6) with
 | true=>
  obtain ⟨who,c3,q3,hc3,_⟩:=F6 c2 4 hc2 (by omega)
  obtain ⟨r,c4,q4,hc4⟩:=C9e c3 hc3
  simp only [cond_true,q3,q4,bO]
  rw [A0 (by simp;omega),A0 (by simp;omega)]
  exact ⟨_,_,rfl,{hm with te:=by simp only [List.length_append,List.length_cons,List.length_nil];omega},hc4⟩
 | false=>exact ⟨_,_,rfl,hm,hc2⟩
theorem D6T(a:List Int)(h:a.length≤1048576)(m:Int)(hm:3≤m∧m≤1000):∃ s,A6o a m=some (s,())∧3≤s∧s≤m:=by
 have ht:(a.length:Int).tdiv 12=(a.length:Int) / 12:=Int.tdiv_eq_ediv_of_nonneg (by omega)
 simp only [A6o,B4m,ht]
 rw [w64 (n:=(a.length:Int) / 12) (by omega) (by omega),w64 (by omega) (by omega)]
 by_cases h1:3+(a.length:Int) / 12>m
 ·rw [A0 h1];exact ⟨_,rfl,by omega⟩
 ·rw [A4 h1];exact ⟨_,rfl,by omega⟩
theorem D2p(a:List Int)(h:a.length≤1048576):∃ w,Z9 a=some (w,())∧BW 3 w:=by
 obtain ⟨c,q,hc⟩:=D4b a h
 obtain ⟨s,qs,hs⟩:=D6T a h 40 (by omega)
 obtain ⟨w,c1,q1,hw,hc1⟩:=C9b c s hc (by omega)
 obtain ⟨k,c2,q2,hc2,k0,k1⟩:=F6 c1 3 hc1 (by omega)
 simp only [Z9,A4R,q,qs,q1,q2,bO]
 obtain ⟨z,e,hz⟩:=R4 (A2Z L3) (fun l=>l.1.toNat)
  (fun l=>∃ j:Nat,0≤l.1∧l.1+(j:Int)≤3∧BW j (((((l.2.1,l.2.2.1),(l.2.2.2.1,(l.2.2.2.2.1,l.2.2.2.2.2.1))),l.2.2.2.2.2.2.2.2.2.2.2.1),(l.2.2.2.2.2.2.1,(l.2.2.2.2.2.2.2.2.2.2.2.2.1,(l.2.2.2.2.2.2.2.1,(l.2.2.2.2.2.2.2.2.2.2.2.2.2.1,l.2.2.2.2.2.2.2.2.2.2.2.2.2.2.1))))):A7)∧Cur (l.2.2.2.2.2.2.2.2.1,(l.2.2.2.2.2.2.2.2.2.1,l.2.2.2.2.2.2.2.2.2.2.1))) (fun z=>BW 3 z.1) (fun l hl=>by
   obtain ⟨j,g0,gn,g1,g2⟩:=hl
   simp only [A2Z]
   by_cases hi:l.1>0
   ·obtain ⟨y,c',e,hy,hc'⟩:=C9f _ _ (show j≤900 by omega) g2 g1
    rw [A0 hi,e]
    simp only [cond_true,bO]
    rw [w64 (by omega) (by omega)]
    exact .inl ⟨_,rfl,⟨j+1,by simp only;omega,by simp only;omega,hy,hc'⟩,by simp only;omega⟩
   ·rw [A4 hi]
    exact .inr ⟨_,rfl,D1W (by omega) g1⟩) (k,w.1.1.1.1,w.1.1.1.2,w.1.1.2.1,w.1.1.2.2.1,w.1.1.2.2.2,w.2.1,w.2.2.2.1,c2.1,c2.2.1,c2.2.2,w.1.2,w.2.2.1,w.2.2.2.2.1,w.2.2.2.2.2,()) ⟨0,k0,by simp only;omega,D80 hw,hc2⟩
 exact ⟨z.1,e,hz⟩
theorem D6U(w:A7)(hs:Sm 1048576 A2O w)(hby:D4Y w):∃ b b1 b2 b3 n,X4 w=some (b,())∧A05 w=some (b,())∧A6k w=some (b1,())∧A2Q w=some (b1,())∧A2o w=some (b2,())∧A04 w=some (b2,())∧
  B1w w=some (b3,())∧A6Y w=some (b3,())∧A0n w=some (n,())∧Y1 w=some (n,()):=by
 obtain ⟨b,hb,hi⟩:=C19 w (D7R hs)
 obtain ⟨n,hn⟩:=C0x w hs
 exact ⟨b,_,_,_,n,hb,hi,C6S w hs,C6T w hs hby,B0F w hs,(C98 w hs).trans (B0F w hs),D2J w hs,D2K w hs,hn,(C0y w).trans hn⟩
theorem exactSafeD(a:List Int):B4p a=some (true,()):=by
 simp only [B4p,B4o,B9t,C4z,bO]
 by_cases ha:(a.length:Int)>1048576
 ·rw [A0 ha];rfl
 rw [A4 ha]
 obtain ⟨w,q,hw⟩:=D2p a (by omega)
 obtain ⟨hs,hby⟩:=D82 (by omega) hw
 obtain ⟨b,b1,b2,b3,n,s0,i0,s1,i1,s2,i2,s3,i3,s4,i4⟩:=D6U w hs hby
 simp only [cond_false,A0T,A2a,q,B5g,C0o,B5j,C0r,s0,i0,s1,i1,s2,i2,s3,i3,s4,i4,bO]
 cases b<;>cases b1<;>cases b2<;>cases b3<;>cases n<;>rfl
end Go.Proofs.YtpdcljonclhhpaaGreat.Ev
