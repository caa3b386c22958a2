/- What the plain functions of the program and of the reference answer: laws of plain data. -/
import Derived.Test.YtpdcljonclhhpaaGreatXRoundsa
set_option linter.unusedVariables false
set_option linter.unusedSimpArgs false
namespace Go.Proofs.YtpdcljonclhhpaaGreat.Ev
theorem B1y{now x:List ByteArray}{j:Nat}(hj:j≤(B7 now).length)(hx:x.take j=now.take j)(hlen:x.length=now.length):B7 x=(B7 now).take j++I6 (A0n 0 ((B7 now).take j)) j (x.drop j):=by
 have hll:=A7F 0 0 now
 have hs:I6 0 0 (x.take j)=(B7 now).take j:=by rw [hx,D28];rfl
 have h1:(I6 0 0 (x.take j)).length=(x.take j).length:=by
  rw [hs,List.length_take,List.length_take]
  simp only [B7] at hj ⊢
  omega
 have:=C8g 0 0 (x.take j) (x.drop j) h1
 rw [List.take_append_drop,hs] at this
 have hj2:(x.take j).length=j:=by rw [List.length_take];simp only [B7] at hj;omega
 rw [hj2,Nat.zero_add] at this
 exact this
theorem E0I{now:List ByteArray}{j:Nat}(hj:(B7 now).length=j):I6 (A0n 0 (B7 now)) j (now.drop j) = []:=by
 have h:=B1y (now:=now) (x:=now) (j:=j) (by omega) rfl rfl
 rw [← hj,List.take_length] at h
 rw [← hj]
 have h2:B7 now ++ []=B7 now++I6 (A0n 0 (B7 now)) (B7 now).length (now.drop (B7 now).length):=by rw [List.append_nil];exact h
 exact (List.append_cancel_left h2).symm
theorem D6s{st:A7}(h:GoodS st):∀ s∈st.1.1,(D3 s).2.1=true→(D3 s).1.1≤st.2.1:=by
 intro s hs hr
 obtain ⟨i,hi,rfl⟩:=List.getElem_of_mem hs
 by_cases hl:i<(B7 st.1.1).length
 ·obtain ⟨s',h1,h2⟩:=C8j 0 0 st.1.1 i hl
  rw [List.getElem?_eq_getElem hi] at h1
  injection h1 with h1
  rw [h1,h2]
  have:=(E0H 0 0 st.1.1).2 _ (List.getElem_mem hl)
  exact Int.le_trans this h.le
 ·have hm:st.1.1[i]∈st.1.1.drop (B7 st.1.1).length:=by
   rw [List.mem_iff_getElem]
   refine ⟨i-(B7 st.1.1).length,by rw [List.length_drop];omega,?_⟩
   rw [List.getElem_drop]
   congr 1
   omega
  have:=List.all_eq_true.1 h.tl _ hm
  simp only [A2c,hr,Bool.true_and,Bool.not_eq_true',decide_eq_false_iff_not] at this
  omega
structure Dur (st:A7) (c:Nat):Prop where
 g:GoodS st
 le:c≤(B7 st.1.1).length
 out:∀ i,¬ (c≤i∧i<(B7 st.1.1).length)→st.1.2[i]? = st.1.1[i]?
 inn:∀ i s,c≤i→i<(B7 st.1.1).length→st.1.2[i]? = some s→A2c st.2.1 s=false
 ep:∀ i (h:i<(B7 st.1.1).length),c≤i→(B7 st.1.1)[i].1=st.2.1
 sc:B7 st.1.2=(B7 st.1.1).take c
theorem D29{e:Int}{s:ByteArray}(h:A2c e s=false)(i:Nat):A1n e i s=false:=by
 simp only [A2c,Bool.and_eq_false_iff,decide_eq_false_iff_not] at h
 simp only [A1n]
 rcases h with h | h
 ·rw [h];rfl
 ·rw [A0 (show (D3 s).1.1<e by omega)];simp
theorem C4m{L:List G8}{e:Int}{j:Nat}(h0:0<j)(hj:j≤L.length):A0n e (L.take j)=(L[j-1]'(by omega)).1:=by
 induction L generalizing e j with
 | nil=>simp at hj;omega
 | cons r L ih=>
  cases j with
  | zero=>omega
  | succ j=>
   simp only [List.take_succ_cons,A0n]
   cases j with
   | zero=>simp [A0n]
   | succ j=>
    rw [ih (by omega) (by simpa using hj)]
    simp
theorem B45{st:A7}{c:Nat}(h:Dur st c)(k:List Bool){i:Nat}(hi:i<st.1.1.length)(hk:k.getD i false=true∨¬ (c≤i∧i<(B7 st.1.1).length)):(U8 st.1.1 st.1.2 k)[i]? = st.1.1[i]?:=by
 obtain ⟨_,k2,_⟩:=A93 h.g.dk
 rw [B8R k2 hi]
 split
 ·rfl
 ·rename_i hn
  rcases hk with hk | hk
  ·exact absurd hk hn
  ·exact h.out i hk
theorem D8A{α:Type}{x now:List α}{j:Nat}(hx:x.take j=now.take j)(hj:j<now.length)(hlen:x.length=now.length)(he:x[j]? = now[j]?):x.take (j+1)=now.take (j+1):=by
 rw [List.take_succ_eq_append_getElem (show j<x.length by omega),List.take_succ_eq_append_getElem hj,hx]
 rw [List.getElem?_eq_getElem (show j<x.length by omega),List.getElem?_eq_getElem hj] at he
 injection he with he
 rw [he]
theorem E0J{st:A7}{c:Nat}(h:Dur st c)(k:List Bool):∃ m,c≤m∧m≤(B7 st.1.1).length∧B7 (U8 st.1.1 st.1.2 k)=(B7 st.1.1).take m:=by
 obtain ⟨_,k2,k3,_⟩:=A93 h.g.dk
 have hml:=B8Q st.1.1 st.1.2 k
 have hll:(B7 st.1.1).length≤st.1.1.length:=A7F 0 0 st.1.1
 have go:∀ (n j:Nat),j+n=(B7 st.1.1).length→c≤j→(U8 st.1.1 st.1.2 k).take j=st.1.1.take j→∃ m,c≤m∧m≤(B7 st.1.1).length∧B7 (U8 st.1.1 st.1.2 k)=(B7 st.1.1).take m:=by
  intro n
  induction n with
  | zero=>
   intro j hj hc hx
   rw [Nat.add_zero] at hj
   refine ⟨j,hc,by omega,?_⟩
   rw [B1y (by omega) hx hml,hj,List.take_length]
   have hdrop:(U8 st.1.1 st.1.2 k).drop (B7 st.1.1).length=st.1.1.drop (B7 st.1.1).length:=by
    refine List.ext_getElem? fun i=>?_
    rw [List.getElem?_drop,List.getElem?_drop]
    by_cases hi:(B7 st.1.1).length+i<st.1.1.length
    ·exact B45 h k hi (.inr (by omega))
    ·rw [List.getElem?_eq_none (by omega),List.getElem?_eq_none (by omega)]
   rw [hdrop,E0I rfl,List.append_nil]
  | succ n ih=>
   intro j hj hc hx
   have hjl:j<st.1.1.length:=by omega
   cases hk:k.getD j false with
   | true=>exact ih (j+1) (by omega) (by omega) (D8A hx hjl hml (B45 h k hjl (.inl hk)))
   | false=>
    refine ⟨j,hc,by omega,?_⟩
    rw [B1y (by omega) hx hml]
    have hs:I6 (A0n 0 ((B7 st.1.1).take j)) j ((U8 st.1.1 st.1.2 k).drop j) = []:=by
     refine B7J _ _ _ fun s hs=>?_
     have hs2:(U8 st.1.1 st.1.2 k)[j]? = some s:=by
      rw [List.head?_eq_getElem?,List.getElem?_drop,Nat.add_zero] at hs
      exact hs
     rw [B8R k2 hjl,hk,if_neg (by simp)] at hs2
     by_cases hjc:j=c
     ·have hsp:=B1y (now:=st.1.2) (x:=st.1.2) (j:=c) (by rw [h.sc,List.length_take];omega) rfl rfl
      rw [h.sc,List.take_take,Nat.min_self] at hsp
      have hnil:I6 (A0n 0 ((B7 st.1.1).take c)) c (st.1.2.drop c) = []:=by
       have h2:(B7 st.1.1).take c ++ []=(B7 st.1.1).take c++I6 (A0n 0 ((B7 st.1.1).take c)) c (st.1.2.drop c):=by rw [List.append_nil];exact hsp
       exact (List.append_cancel_left h2).symm
      rw [hjc] at hs2 ⊢
      have hcl:c<st.1.2.length:=(List.getElem?_eq_some_iff.1 hs2).1
      rw [List.drop_eq_getElem_cons hcl,B1x] at hnil
      have:st.1.2[c]=s:=by rw [List.getElem?_eq_getElem hcl] at hs2;injection hs2
      rw [this] at hnil
      cases hg:A1n (A0n 0 ((B7 st.1.1).take c)) c s with
      | false=>rfl
      | true=>rw [hg] at hnil;cases hnil
     ·rw [C4m (by omega) (by omega),h.ep (j-1) (by omega) (by omega)]
      exact D29 (h.inn j s hc (by omega) hs2) _
    rw [hs,List.append_nil]
 refine go ((B7 st.1.1).length-c) c (by have:=h.le;omega) (Nat.le_refl _) ?_
 refine List.ext_getElem? fun i=>?_
 by_cases hi:i<c
 ·rw [List.getElem?_take_of_lt hi,List.getElem?_take_of_lt hi]
  exact B45 h k (by have:=h.le;omega) (.inr (by omega))
 ·rw [List.getElem?_eq_none (by rw [List.length_take];omega),List.getElem?_eq_none (by rw [List.length_take];omega)]
theorem D6t{now sure:List ByteArray}{k:List Bool}(h:now.length=sure.length){s:ByteArray}(hs:s∈U8 now sure k):s∈now∨s∈sure:=by
 obtain ⟨i,hi,rfl⟩:=List.getElem_of_mem hs
 have hi':i<now.length:=by rw [B8Q] at hi;exact hi
 have:=B8R (k:=k) h hi'
 rw [List.getElem?_eq_getElem hi] at this
 split at this
 ·exact .inl (List.mem_of_getElem? this.symm)
 ·exact .inr (List.mem_of_getElem? this.symm)
theorem D2A{st:A7}{c:Nat}(h:Dur st c):∀ s∈st.1.2,(D3 s).2.1=true→(D3 s).1.1≤st.2.1:=by
 intro s hs hr
 obtain ⟨i,hi,rfl⟩:=List.getElem_of_mem hs
 by_cases hb:c≤i∧i<(B7 st.1.1).length
 ·have:=h.inn i _ hb.1 hb.2 (List.getElem?_eq_getElem hi)
  simp only [A2c,hr,Bool.true_and,decide_eq_false_iff_not] at this
  omega
 ·have:=h.out i hb
  rw [List.getElem?_eq_getElem hi] at this
  exact D6s h.g _ (List.mem_of_getElem? this.symm) hr
theorem B8U:∀ (l:List G8) (us us':List TUp) (m:Nat),I1 us l=some us'→∃ u,I1 us (l.take m)=some u
 | _,us,_,0,_=>⟨us,by simp [I1]⟩
 | [],us,us',m+1,h=>⟨us',by simpa using h⟩
 | r::l,us,us',m+1,h=>by
  simp only [I1] at h
  simp only [List.take_succ_cons,I1]
  split at h
  ·rename_i u1 e1
   exact B8U l u1 us' m h
  ·cases h
theorem E1u{l:List ByteArray}{b:Int}(hb:-1≤b)(h:∀ s∈l,(D3 s).2.1=true→(D3 s).1.1≤b):A5N l≤b:=by
 have h1:=B5F (b+1) l (-1)
 have h2:(l.all fun s=>!A2c (b+1) s)=true:=List.all_eq_true.2 fun s hs=>by
  simp only [A2c,Bool.not_eq_true',Bool.and_eq_false_iff,decide_eq_false_iff_not]
  cases hr:(D3 s).2.1 with
  | false=>exact .inl rfl
  | true=>have:=h s hs hr;exact .inr (by omega)
 rw [h2,A0 (show (-1:Int)<b+1 by omega),Bool.and_true] at h1
 have:=of_decide_eq_true h1
 show l.foldl A3g (-1)≤b
 omega
def Y3(x:List ByteArray)(us:List TUp):A7:=((x,x),(A5N x+1,((List.length (B7 x):Int),us)))
theorem D2B{x:List ByteArray}{us:List TUp}(hd:A6W (x,x)=true)(hu:I1 [] (B7 x)=some us)(ht:A5N x+1≤10000):GoodS (Y3 x us):=by
 have h0:=D6p x
 refine ⟨hd,⟨by show 0≤A5N x+1;omega,ht⟩,hu,rfl,?_,?_⟩
 ·show A0n 0 (B7 x)≤A5N x+1
  have hg:∀ (i:Nat) (hi:i<(B7 x).length),∃ s,x[i]? = some s∧D3 s=((B7 x)[i],true,()):=C8j 0 0 x
  by_cases hl:0<(B7 x).length
  ·have e:=C4m (L:=B7 x) (e:=0) (j:=(B7 x).length) hl (Nat.le_refl _)
   rw [List.take_length] at e
   rw [e]
   obtain ⟨s,h1,h2⟩:=hg ((B7 x).length-1) (by omega)
   have h3:=D6q (List.mem_of_getElem? h1) (by rw [h2])
   rw [h2] at h3
   have h5:((B7 x)[(B7 x).length-1]'(by omega)).1≤A5N x:=h3
   have h6:@LE.le Int _ ((B7 x)[(B7 x).length-1]'(by omega)).1 (A5N x+1):=by omega
   exact h6
  ·rw [List.length_eq_zero_iff.1 (show (B7 x).length=0 by omega)]
   show (0:Int)≤_
   omega
 ·refine List.all_eq_true.2 fun s hs=>?_
  have hs2:s∈x:=List.mem_of_mem_drop hs
  simp only [A2c,Bool.not_eq_true',Bool.and_eq_false_iff,decide_eq_false_iff_not]
  cases hr:(D3 s).2.1 with
  | false=>exact .inl rfl
  | true=>
   have:=D6q hs2 hr
   refine .inr ?_
   show ¬ (D3 s).1.1≥A5N x+1
   omega
theorem B7L{st:A7}(h:GoodS st):Dur ((st.1.1,st.1.1),st.2) (B7 st.1.1).length:=
 ⟨⟨D84 h.dk,h.ep,h.up,h.nx,h.le,h.tl⟩,Nat.le_refl _,fun i _=>rfl,fun i s h1 h2 _=>by (have h3:i<(B7 st.1.1).length:=h2;omega),fun i h1 h2=>by (have h3:i<(B7 st.1.1).length:=h1;omega),(List.take_length).symm⟩
theorem D4y{x:List ByteArray}{us:List TUp}(h:GoodS (Y3 x us)):Dur (Y3 x us) (B7 x).length:=B7L h
theorem D8B{st:A7}{c:Nat}(h:Dur st c){r:G8}(hr:B3x r)(h1:r.1=st.2.1)(h2:r.2.1=st.2.2.1)(hlt:st.2.2.1<(st.1.1.length:Int)){us:List TUp}(hf:K1 st.2.2.2 r=some us):Dur (wrote st r us) c:=by
 obtain ⟨hg,hsc⟩:=B7K h.g hr h1 h2 hlt hf
 have hnx:=h.g.nx
 have hto:st.2.2.1.toNat=(B7 st.1.1).length:=by omega
 have hll:(B7 st.1.1).length<st.1.1.length:=by omega
 have hlen:((B7 st.1.1) ++ [r]).length=(B7 st.1.1).length+1:=by simp
 have hle:=h.le
 refine ⟨hg,by rw [hsc,hlen];omega,fun i hi=>?_,fun i s hc hi hs=>?_,fun i hi hc=>?_,?_⟩
 ·rw [hsc,hlen] at hi
  show st.1.2[i]? = (st.1.1.set st.2.2.1.toNat (V6 r))[i]?
  rw [hto,List.getElem?_set_ne (by omega)]
  exact h.out i (by omega)
 ·rw [hsc,hlen] at hi
  by_cases hi2:i<(B7 st.1.1).length
  ·exact h.inn i s hc hi2 hs
  ·have e:=h.out i (by omega)
   have hs':st.1.2[i]? = some s:=hs
   rw [e] at hs'
   have hm:s∈st.1.1.drop (B7 st.1.1).length:=by
    rw [List.mem_iff_getElem?]
    exact ⟨i-(B7 st.1.1).length,by rw [List.getElem?_drop,show (B7 st.1.1).length+(i-(B7 st.1.1).length)=i by omega];exact hs'⟩
   have:=List.all_eq_true.1 h.g.tl s hm
   have h7:A2c st.2.1 s=false:=by simpa using this
   exact h7
 ·have hi':=hi
  rw [hsc,hlen] at hi'
  have e:(B7 (wrote st r us).1.1)[i]=((B7 st.1.1) ++ [r])[i]'(by omega):=by simp only [hsc]
  rw [e]
  by_cases hi2:i<(B7 st.1.1).length
  ·rw [List.getElem_append_left hi2]
   exact h.ep i hi2 hc
  ·rw [List.getElem_append_right (by omega)]
   simp only [show i-(B7 st.1.1).length=0 by omega,List.getElem_cons_zero]
   exact h1
 ·show B7 st.1.2=_
  rw [hsc,List.take_append_of_le_length hle]
  exact h.sc
theorem D8C{st:A7}{c:Nat}(h:Dur st c)(k:List Bool)(hep:st.2.1≤9999):∃ m us,c≤m∧m≤(B7 st.1.1).length∧B7 (U8 st.1.1 st.1.2 k)=(B7 st.1.1).take m∧I1 [] ((B7 st.1.1).take m)=some us∧
  A5N (U8 st.1.1 st.1.2 k)≤st.2.1∧A6W (D6r st.1 k)=true∧GoodS (Y3 (U8 st.1.1 st.1.2 k) us):=by
 obtain ⟨_,k2,k3,k4,k5⟩:=A93 h.g.dk
 obtain ⟨m,h1,h2,h3⟩:=E0J h k
 obtain ⟨us,hu⟩:=B8U _ _ _ m h.g.up
 have hml:=B8Q st.1.1 st.1.2 k
 have hdb:A6W (U8 st.1.1 st.1.2 k,U8 st.1.1 st.1.2 k)=true:=by
  have hall:∀ s∈U8 st.1.1 st.1.2 k,s.size≤64:=fun s hs=>(D6t k2 hs).elim (k4 s) (k5 s)
  exact C4k rfl (by simp only [hml];exact k3) hall hall
 have ht:A5N (U8 st.1.1 st.1.2 k)≤st.2.1:=E1u (by have:=h.g.ep.1;omega) fun s hs hr=>(D6t k2 hs).elim (fun hs=>D6s h.g s hs hr) (fun hs=>D2A h s hs hr)
 exact ⟨m,us,h1,h2,h3,hu,ht,hdb,D2B hdb (by rw [h3];exact hu) (by omega)⟩
inductive Steps (id:ByteArray) (st:A7):A7→Prop
 | refl:Steps id st st
 | step {st1:A7} {r:G8} {us:List TUp}:Steps id st st1→B3x r→r.1=st1.2.1→r.2.1=st1.2.2.1→st1.2.2.1<(st1.1.1.length:Int)→r.2.2.2.1=id→(r.2.2.1=1→r.2.2.2.2.1≤1000000)→K1 st1.2.2.2 r=some us→Steps id st (wrote st1 r us)
theorem E2y{st:A7}(h:Rt st):0≤st.2.2.1∧st.1.1.length≤200:=⟨h.g.2.2.2.2.1.1,h.g.2.2.2.1⟩
theorem D2C{st:A7}{id:ByteArray}{n:Int}(h:Rt st):Steps id st (A2F st id n).1:=by
 unfold A2F
 split
 ·rename_i h1
  split
  ·exact Steps.refl
  ·rename_i h2
   split
   ·exact Steps.refl
   ·rename_i h3
    have hr:=A7t h.g 1 n id h1.1 (fun hx=>h3 (.inl hx)) (.inl ⟨rfl,h1.2.1,by omega⟩)
    exact .step Steps.refl ⟨hr,A01⟩ rfl rfl (by omega) rfl (fun _=>h1.2.2) (B5K h2 (fun hx=>h3 (.inr hx)))
 ·exact Steps.refl
theorem D2D{st:A7}{id:ByteArray}{n:Int}(h:Rt st):Steps id st (A1m st id n).1:=by
 unfold A1m
 split
 ·rename_i h1
  split
  ·rename_i h2
   split
   ·exact Steps.refl
   ·rename_i h3
    split
    ·exact Steps.refl
    ·split
     ·exact Steps.refl
     ·rename_i h5
      split
      ·exact Steps.refl
      ·rename_i h6
       have hr:=A7t h.g 3 0 id h1 h6 (.inr ⟨.inl rfl,rfl⟩)
       exact .step Steps.refl ⟨hr,A01⟩ rfl rfl (by omega) rfl (fun e=>by cases e) (B5L h.up h2 h3 h5)
  ·exact Steps.refl
 ·exact Steps.refl
theorem D2E{st:A7}{id:ByteArray}(h:Rt st):Steps id st (A4q st id).1:=by
 unfold A4q
 split
 ·rename_i h1
  split
  ·rename_i h2
   split
   ·exact Steps.refl
   ·rename_i h3
    have hr:=A7t h.g 4 0 id h1 h3 (.inr ⟨.inr rfl,rfl⟩)
    exact .step Steps.refl ⟨hr,A01⟩ rfl rfl (by omega) rfl (fun e=>by cases e) (C0B h2)
  ·exact Steps.refl
 ·exact Steps.refl
theorem C1N{st:A7}{id:ByteArray}{off:Int}{dat:List Int}(hc:D4r st id off dat):∀ j,j≤nPc dat→Steps id st (putAt st id off dat j)
 | 0,_=>Steps.refl
 | j+1,hj=>by
  have hI:=B5I hc j (by omega)
  obtain ⟨hr,hf,_⟩:=B42 hc hI (by omega)
  have h1:=hc.nx.2
  have h2:=hI.nx
  have h3:=hI.len
  exact .step (C1N hc j (by omega)) ⟨hr,A65 (A2a hc.byt _) _⟩ rfl rfl (by omega) rfl (fun e=>by cases e) hf
theorem D4z{st:A7}{id:ByteArray}{off:Int}{dat:List Int}(h:Rt st)(hb:Byt dat):Steps id st (A4S st id off dat).1:=by
 unfold A4S
 split
 ·rename_i h1
  split
  ·rename_i h3
   split
   ·exact Steps.refl
   ·rename_i h4
    split
    ·exact Steps.refl
    ·rename_i h5
     exact C1N (B5J h hb h1.1 h1.2 h3 h4 h5) _ (Nat.le_refl _)
  ·exact Steps.refl
 ·exact Steps.refl
theorem B8V{st:A7}(h:GoodS st):Rt st∧A7s st∧F4 st=some (true,())∧A1a st=some (true,()):=by
 have hU:=B43 h
 have hS:=A93 h.dk
 obtain ⟨b,h1,h2,h3⟩:=D27 st hS.1.1 (fun u hu=>(hU.2.2 u hu).2.2.2)
 rw [h3.2 h] at h1 h2
 exact ⟨C9v h hU,D4v hS.1 hU,h1,h2⟩
structure E3P (k:Nat) (st:A7):Prop where
 dur:∃ c,Dur st c
 ep:st.2.1≤(k:Int)
 ids:∀ s,s∈st.1.1∨s∈st.1.2→(D3 s).2.1=true→(D3 s).1.2.2.2.1∈ [(⟨#[97]⟩:ByteArray),(⟨#[98]⟩:ByteArray),(⟨#[99]⟩:ByteArray)]
theorem D8D{x:List ByteArray}{us:List TUp}(h:GoodS (Y3 x us)):O8 (x,x)=some (Y3 x us,true,()):=by
 obtain ⟨hS,_,h200,_⟩:=A93 h.dk
 have hdk:A6W (x,x)=true:=h.dk
 have hl:x.length≤200:=h200
 have hll:=A7F 0 0 x
 have hfs:=A9k (B7 x) (by simp only [maxLen,B7];omega) (B7I 0 0 x)
 have hf:A2b (B7 x)=(us,true,()):=by
  unfold A2b
  rw [show I1 [] (B7 x)=some us from h.up]
 have htop:=D6p x
 have hep:A5N x+1≤10000:=h.ep.2
 simp only [O8,A2J,B40,hdk,C8h (x,x) hS.1,hfs,hf,C79 (x,x) hS.1,A9l (x,x) hS,bO,Bool.not_true,cond_false]
 rw [w64 (n:=A5N x+1) (by omega) (by omega),A3 (show ¬ A5N x+1>10000 by omega)]
 rfl
theorem D50(last:Int)(i:Nat)(l:List ByteArray)(h:∀ s∈l,(D3 s).2.1=false):I6 last i l = []:=B7J _ _ _ fun s hs=>by
 simp only [A1n,h s (List.mem_of_mem_head? hs),Bool.false_and]
theorem B8W:(D3 ⟨#[]⟩).2.1=false:=by
 unfold D3 A8y
 have h0:(⟨#[]⟩:ByteArray).size=0:=rfl
 rw [h0,A3 (by omega)]
 rfl
theorem C7C(n:Int)(hn:n≤200):E3P 0 (E5 n,(0,(0,[]))):=by
 have hall:∀ s,s∈(E5 n).1∨s∈(E5 n).2→s=⟨#[]⟩:=by
  intro s hs
  unfold E5 at hs
  split at hs
  ·rcases hs with hs | hs<;>exact (List.mem_replicate.1 hs).2
  ·rcases hs with hs | hs<;>cases hs
 have hg:∀ s∈(E5 n).1,(D3 s).2.1=false:=fun s hs=>by rw [hall s (.inl hs)];exact B8W
 have hsc:B7 (E5 n).1 = []:=D50 _ _ _ hg
 have hsz:∀ s,s∈(E5 n).1∨s∈(E5 n).2→s.size≤64:=fun s hs=>by rw [hall s hs];show 0≤64;omega
 have hlen:(E5 n).1.length=(E5 n).2.length∧(E5 n).1.length≤200:=by
  unfold E5
  split<;>simp<;>omega
 have heq:(E5 n).2=(E5 n).1:=by
  unfold E5
  split<;>rfl
 have hG:GoodS (E5 n,(0,(0,[]))):=by
  refine ⟨C4k hlen.1 hlen.2 (fun s hs=>hsz s (.inl hs)) (fun s hs=>hsz s (.inr hs)),by simp,?_,?_,?_,?_⟩
  ·show I1 [] (B7 (E5 n).1)=_;rw [hsc];rfl
  ·show (0:Int)=((B7 (E5 n).1).length:Int);rw [hsc];rfl
  ·show A0n 0 (B7 (E5 n).1)≤0;rw [hsc];exact Int.le_refl _
  ·refine List.all_eq_true.2 fun s hs=>?_
   have:=hg s (List.mem_of_mem_drop hs)
   simp only [A2c,this,Bool.false_and,Bool.not_false]
 refine ⟨⟨0,hG,Nat.zero_le _,fun i _=>by rw [show ((E5 n,((0:Int),((0:Int),([]:List TUp)))):A7).1.2=(E5 n).1 from heq],fun i s _ h2 _=>?_,fun i h1 _=>?_,?_⟩,by simp,fun s hs hr=>?_⟩
 ·have h2':i<(B7 (E5 n).1).length:=h2
  rw [hsc] at h2';simp at h2'
 ·have h1':i<(B7 (E5 n).1).length:=h1
  rw [hsc] at h1';simp at h1'
 ·show B7 (E5 n).2=(B7 (E5 n).1).take 0
  rw [heq,hsc];rfl
 ·rw [hall s hs,B8W] at hr;cases hr
def lenOf(st:A7)(id:ByteArray):Int:=if G7 st.2.2.2 id=true then (List.length (rd kUp st.2.2.2 (B4 st.2.2.2 id:Int)).2.2.1:Int) else 0
def I2(st:A7)(code:Int)(id:ByteArray):Q8:=
 if code=2 then (404,-1) else if code=3∨code=4 then (409,lenOf st id) else if code=5 then (507,-1) else if code=6 then (422,-1) else (400,-1)
def D2F(st:A7)(r:A1w):Q8:=
 if G7 st.2.2.2 r.2.1=true then (if r.1=5∧(rd kUp st.2.2.2 (B4 st.2.2.2 r.2.1:Int)).2.2.2=false then (409,lenOf st r.2.1) else (200,lenOf st r.2.1)) else (404,-1)
def A9m(st:A7)(r:A1w)(dat:List Int):A7×Q8:=
 if r.1=1 then ((A2F st r.2.1 r.2.2).1,if (A2F st r.2.1 r.2.2).2=0 then (201,0) else I2 st (A2F st r.2.1 r.2.2).2 r.2.1)
 else if r.1=3 then ((A4S st r.2.1 r.2.2 dat).1,if (A4S st r.2.1 r.2.2 dat).2=0 then (204,r.2.2+(dat.length:Int)) else I2 st (A4S st r.2.1 r.2.2 dat).2 r.2.1)
 else if r.1=4 then ((A1m st r.2.1 r.2.2).1,if (A1m st r.2.1 r.2.2).2=0 then (200,-1) else I2 st (A1m st r.2.1 r.2.2).2 r.2.1)
 else if r.1=6 then ((A4q st r.2.1).1,if (A4q st r.2.1).2=0 then (204,-1) else I2 st (A4q st r.2.1).2 r.2.1)
 else (st,D2F st r)
theorem B7M{st:A7}{id:ByteArray}{n:Int}(h:¬ (A2F st id n).2=0):(A2F st id n).1=st:=by
 unfold A2F at h ⊢
 split
 ·rename_i h1
  rw [if_pos h1] at h
  split
  ·rfl
  ·rename_i h2
   rw [if_neg h2] at h
   split
   ·rfl
   ·rename_i h3
    rw [if_neg h3] at h
    exact absurd rfl h
 ·rfl
theorem C0C{st:A7}{id:ByteArray}{n:Int}{d:List Int}(h:¬ (A4S st id n d).2=0):(A4S st id n d).1=st:=by
 unfold A4S at h ⊢
 split
 ·rename_i h1
  rw [if_pos h1] at h
  split
  ·rename_i h2
   rw [if_pos h2] at h
   split
   ·rfl
   ·rename_i h3
    rw [if_neg h3] at h
    split
    ·rfl
    ·rename_i h4
     rw [if_neg h4] at h
     exact absurd rfl h
  ·rfl
 ·rfl
theorem B7N{st:A7}{id:ByteArray}{n:Int}(h:¬ (A1m st id n).2=0):(A1m st id n).1=st:=by
 unfold A1m at h ⊢
 split
 ·rename_i h1
  rw [if_pos h1] at h
  split
  ·rename_i h2
   rw [if_pos h2] at h
   split
   ·rfl
   ·rename_i h3
    rw [if_neg h3] at h
    split
    ·rfl
    ·rename_i h4
     rw [if_neg h4] at h
     split
     ·rfl
     ·rename_i h5
      rw [if_neg h5] at h
      split
      ·rfl
      ·rename_i h6
       rw [if_neg h6] at h
       exact absurd rfl h
  ·rfl
 ·rfl
theorem C4n{st:A7}{id:ByteArray}(h:¬ (A4q st id).2=0):(A4q st id).1=st:=by
 unfold A4q at h ⊢
 split
 ·rename_i h1
  rw [if_pos h1] at h
  split
  ·rename_i h2
   rw [if_pos h2] at h
   split
   ·rfl
   ·rename_i h4
    rw [if_neg h4] at h
    exact absurd rfl h
  ·rfl
 ·rfl
theorem B8X{st:A7}{id:ByteArray}{off:Int}{dat:List Int}(h:Rt st)(hb:Byt dat)(h0:(A4S st id off dat).2=0):lenOf (A4S st id off dat).1 id=off+(dat.length:Int)∧off=lenOf st id∧0≤off:=by
 unfold A4S at h0 ⊢
 split at h0
 ·rename_i h1
  rw [if_pos h1]
  split at h0
  ·rename_i h3
   rw [if_pos h3]
   split at h0
   ·simp at h0
   ·rename_i h4
    rw [if_neg h4]
    split at h0
    ·simp at h0
    ·rename_i h5
     rw [if_neg h5]
     have hc:=B5J h hb h1.1 h1.2 h3 h4 h5
     have hI:=B5I hc _ (Nat.le_refl _)
     have hn:dat.length≤nPc dat*24:=by
      have:¬ nPc dat<nPc dat:=Nat.lt_irrefl _
      rw [B41] at this
      omega
     have hat:=hc.at'
     refine ⟨?_,?_,by omega⟩
     ·unfold lenOf
      rw [if_pos hI.has,hI.val]
      simp only [List.length_append,List.take_of_length_le hn]
      omega
     ·unfold lenOf
      rw [if_pos h3]
      exact hat
  ·simp at h0
 ·simp at h0
theorem C0D(x:D5)(n:Int)(id:ByteArray)(hU:Ups x.1.2.2.2):M4 x n id=some ((n,lenOf x.1 id),x,()):=by
 have hul:=hU.2.1
 simp only [M4,A6J,lenOf]
 rw [A7D x.1.2.2.2 id (by simp only [maxLen];omega)]
 cases hh:G7 x.1.2.2.2 id with
 | false=>
  simp only [Bool.false_eq_true,if_false,bO]
  rw [A0 (show (-1:Int)<0 by omega)]
  rfl
 | true=>
  simp only [if_true,bO]
  rw [A3 (show ¬ (B4 x.1.2.2.2 id:Int)<0 by omega)]
  rfl
theorem A73(x:D5)(c:Int)(id:ByteArray)(hU:Ups x.1.2.2.2):I5 x c id=some (I2 x.1 c id,x,()):=by
 simp only [I5,A3N,C0D x 409 id hU,I2,bO]
 by_cases h2:c=2
 ·rw [A0 h2,if_pos h2];rfl
 rw [A3 h2,if_neg h2]
 by_cases h3:c=3
 ·rw [A0 h3,if_pos (.inl h3)];rfl
 rw [A3 h3]
 by_cases h4:c=4
 ·rw [A0 h4,if_pos (.inr h4)];rfl
 rw [A3 h4,if_neg (fun h=>h.elim h3 h4)]
 simp only [cond_false,bO]
 by_cases h5:c=5
 ·rw [A0 h5,if_pos h5];rfl
 rw [A3 h5,if_neg h5]
 by_cases h6:c=6
 ·rw [A0 h6,if_pos h6];rfl
 rw [A3 h6,if_neg h6]
 rfl
theorem D8E(x:D5)(r:A1w)(hU:Ups x.1.2.2.2):A0i x r=some (D2F x.1 r,x,()):=by
 have hul:=hU.2.1
 simp only [A0i,A6K,C0D x _ r.2.1 hU,D2F,bO]
 rw [A7D x.1.2.2.2 r.2.1 (by simp only [maxLen];omega)]
 cases hh:G7 x.1.2.2.2 r.2.1 with
 | false=>
  simp only [Bool.false_eq_true,if_false,bO]
  rw [A0 (show (-1:Int)<0 by omega)]
  rfl
 | true=>
  simp only [if_true,bO]
  rw [A3 (show ¬ (B4 x.1.2.2.2 r.2.1:Int)<0 by omega)]
  simp only [cond_false]
  by_cases h5:r.1=5
  ·rw [A0 h5]
   simp only [cond_true,bO]
   cases hd:(rd kUp x.1.2.2.2 (B4 x.1.2.2.2 r.2.1:Int)).2.2.2 with
   | true=>rw [if_neg (fun h=>by cases h.2)];rfl
   | false=>rw [if_pos ⟨h5,rfl⟩];rfl
  ·rw [A3 h5,if_neg (fun h=>h5 h.1)]
   rfl
theorem C8k(st:A7)(id:ByteArray)(hU:Ups st.2.2.2):A0e st id=some (if G7 st.2.2.2 id=true then rd kUp st.2.2.2 (B4 st.2.2.2 id:Int) else (⟨#[]⟩,(0,([],false))),G7 st.2.2.2 id,()):=by
 simp only [A0e,B86]
 rw [B8O st.2.2.2 id hU]
 cases hh:G7 st.2.2.2 id with
 | false=>
  simp only [Bool.false_eq_true,if_false,bO]
  rw [A0 (show (-1:Int)<0 by omega)]
  rfl
 | true=>
  obtain ⟨hlt,hid2⟩:=I4.1 hh
  have hdl:=A90 hU _ (List.getElem_mem hlt)
  rw [← C8 (k:=kUp) hlt] at hdl
  simp only [if_true,bO]
  rw [A3 (show ¬ (B4 st.2.2.2 id:Int)<0 by omega),A0 (show (0:Int)≤(B4 st.2.2.2 id:Int) by omega),A0 (show (B4 st.2.2.2 id:Int)<(st.2.2.2.length:Int) by omega),A0 (by simp;omega),A0 (by simp;omega)]
  simp only [cond_true,cond_false,List.nil_append]
theorem B8Y(st:A7)(id:ByteArray)(c:Int)(hU:Ups st.2.2.2):A7U st id c=some (I2 st c id,()):=by
 have hlo:(List.length (if G7 st.2.2.2 id=true then rd kUp st.2.2.2 (B4 st.2.2.2 id:Int) else ((⟨#[]⟩,(0,([],false))):TUp)).2.2.1:Int)=lenOf st id:=by
  unfold lenOf;split<;>rfl
 simp only [A7U,B70,C8k st id hU,I2,bO,hlo]
 by_cases h2:c=2
 ·rw [A0 h2,if_pos h2];rfl
 rw [A3 h2,if_neg h2]
 by_cases h3:c=3
 ·rw [A0 h3,if_pos (.inl h3)];rfl
 rw [A3 h3]
 by_cases h4:c=4
 ·rw [A0 h4,if_pos (.inr h4)];rfl
 rw [A3 h4,if_neg (fun h=>h.elim h3 h4)]
 simp only [cond_false,bO]
 by_cases h5:c=5
 ·rw [A0 h5,if_pos h5];rfl
 rw [A3 h5,if_neg h5]
 by_cases h6:c=6
 ·rw [A0 h6,if_pos h6];rfl
 rw [A3 h6,if_neg h6]
 rfl
theorem D51(st:A7)(r:A1w)(hU:Ups st.2.2.2):A3z st r=some (D2F st r,()):=by
 simp only [A3z,B1L,C8k st r.2.1 hU,D2F,lenOf,bO]
 cases hh:G7 st.2.2.2 r.2.1 with
 | false=>rfl
 | true=>
  simp only [if_true,Bool.not_true,cond_false]
  by_cases h5:r.1=5
  ·rw [A0 h5]
   cases hd:(rd kUp st.2.2.2 (B4 st.2.2.2 r.2.1:Int)).2.2.2 with
   | true=>rw [if_neg (fun h=>by cases h.2)];rfl
   | false=>rw [if_pos ⟨h5,rfl⟩];rfl
  ·rw [A3 h5,if_neg (fun h=>h5 h.1)]
   rfl
theorem D2G(x:D5)(r:A1w)(dat:List Int)(hid:r.2.1.size≤maxLen)(h:Rt x.1)(hb:Byt dat)(hd:dat.length≤1048576)(ho:-9223372036854775808≤r.2.2∧r.2.2≤9223372036854775807) :
  Y0 x r dat=some ((A9m x.1 r dat).2,((A9m x.1 r dat).1,x.2),()):=by
 have hU:=h.up
 simp only [Y0,A4K,A9m]
 by_cases h1:r.1=1
 ·rw [A0 h1,if_pos h1,D1y x.1 r.2.1 r.2.2 hid h]
  simp only [cond_true,bO,B6]
  by_cases hz:(A2F x.1 r.2.1 r.2.2).2=0
  ·rw [A0 hz,if_pos hz];rfl
  ·rw [A3 hz,if_neg hz,B7M hz]
   simp only [Bool.not_false,cond_true]
   have e:=A73 x (A2F x.1 r.2.1 r.2.2).2 r.2.1 hU
   have e':I5 (((x.1.1.1,x.1.1.2),(x.1.2.1,(x.1.2.2.1,x.1.2.2.2))),x.2) (A2F x.1 r.2.1 r.2.2).2 r.2.1=_:=e
   rw [e']
   rfl
 rw [A3 h1,if_neg h1]
 by_cases h3:r.1=3
 ·rw [A0 h3,if_pos h3,D4t x.1 r.2.1 r.2.2 dat hid h hb hd ho]
  simp only [cond_true,cond_false,bO]
  have hU2:=(D1x (id:=r.2.1) (off:=r.2.2) (dat:=dat) h hb).1
  rw [C0D ((A4S x.1 r.2.1 r.2.2 dat).1,x.2) 204 r.2.1 hU2]
  simp only [bO,B6]
  by_cases hz:(A4S x.1 r.2.1 r.2.2 dat).2=0
  ·rw [A0 hz,if_pos hz,(B8X h hb hz).1];rfl
  ·rw [A3 hz,if_neg hz,C0C hz]
   simp only [Bool.not_false,cond_true]
   have e:=A73 x (A4S x.1 r.2.1 r.2.2 dat).2 r.2.1 hU
   have e':I5 (((x.1.1.1,x.1.1.2),(x.1.2.1,(x.1.2.2.1,x.1.2.2.2))),x.2) (A4S x.1 r.2.1 r.2.2 dat).2 r.2.1=_:=e
   rw [e']
   rfl
 rw [A3 h3,if_neg h3]
 by_cases h4:r.1=4
 ·rw [A0 h4,if_pos h4,D20 x.1 r.2.1 r.2.2 hid h]
  simp only [cond_true,cond_false,bO,B6]
  by_cases hz:(A1m x.1 r.2.1 r.2.2).2=0
  ·rw [A0 hz,if_pos hz];rfl
  ·rw [A3 hz,if_neg hz,B7N hz]
   simp only [Bool.not_false,cond_true]
   have e:=A73 x (A1m x.1 r.2.1 r.2.2).2 r.2.1 hU
   have e':I5 (((x.1.1.1,x.1.1.2),(x.1.2.1,(x.1.2.2.1,x.1.2.2.2))),x.2) (A1m x.1 r.2.1 r.2.2).2 r.2.1=_:=e
   rw [e']
   rfl
 rw [A3 h4,if_neg h4]
 by_cases h6:r.1=6
 ·rw [A0 h6,if_pos h6,D22 x.1 r.2.1 hid h]
  simp only [cond_true,cond_false,bO,B6]
  by_cases hz:(A4q x.1 r.2.1).2=0
  ·rw [A0 hz,if_pos hz];rfl
  ·rw [A3 hz,if_neg hz,C4n hz]
   simp only [Bool.not_false,cond_true]
   have e:=A73 x (A4q x.1 r.2.1).2 r.2.1 hU
   have e':I5 (((x.1.1.1,x.1.1.2),(x.1.2.1,(x.1.2.2.1,x.1.2.2.2))),x.2) (A4q x.1 r.2.1).2 r.2.1=_:=e
   rw [e']
   rfl
 rw [A3 h6,if_neg h6,D8E x r hU]
 rfl
theorem C8l(st:A7)(r:A1w)(dat:List Int)(hid:r.2.1.size≤maxLen)(h:Rt st)(hS:A7s st)(hok:F4 st=some (true,()))(hb:Byt dat)(hd:dat.length≤1048576)(ho:-9223372036854775808≤r.2.2∧r.2.2≤9223372036854775807) :
  S4 st r dat=some ((A9m st r dat).1,(A9m st r dat).2,()):=by
 have hU:=h.up
 simp only [S4,A47,A9m]
 by_cases h1:r.1=1
 ·rw [A0 h1,if_pos h1,D1z st r.2.1 r.2.2 hid h hS hok]
  simp only [cond_true,bO,B6]
  by_cases hz:(A2F st r.2.1 r.2.2).2=0
  ·rw [A0 hz,if_pos hz];rfl
  ·rw [A3 hz,if_neg hz,B7M hz]
   simp only [Bool.not_false,cond_true,B8Y st r.2.1 _ hU,bO]
 rw [A3 h1,if_neg h1]
 by_cases h3:r.1=3
 ·rw [A0 h3,if_pos h3,D4u st r.2.1 r.2.2 dat hid h hS hok hb hd ho]
  simp only [cond_true,cond_false,bO,B6]
  by_cases hz:(A4S st r.2.1 r.2.2 dat).2=0
  ·rw [A0 hz,if_pos hz]
   have hl:=B8X h hb hz
   have hlo:lenOf st r.2.1≤2000000000:=by
    unfold lenOf
    split
    ·rename_i hh
     obtain ⟨hlt,_⟩:=I4.1 hh
     have hdl:=A90 hU _ (List.getElem_mem hlt)
     rw [← C8 (k:=kUp) hlt] at hdl
     omega
    ·omega
   rw [w64 (by omega) (by omega)]
   rfl
  ·rw [A3 hz,if_neg hz,C0C hz]
   simp only [Bool.not_false,cond_true,B8Y st r.2.1 _ hU,bO]
 rw [A3 h3,if_neg h3]
 by_cases h4:r.1=4
 ·rw [A0 h4,if_pos h4,D21 st r.2.1 r.2.2 hid h hS hok]
  simp only [cond_true,cond_false,bO,B6]
  by_cases hz:(A1m st r.2.1 r.2.2).2=0
  ·rw [A0 hz,if_pos hz];rfl
  ·rw [A3 hz,if_neg hz,B7N hz]
   simp only [Bool.not_false,cond_true,B8Y st r.2.1 _ hU,bO]
 rw [A3 h4,if_neg h4]
 by_cases h6:r.1=6
 ·rw [A0 h6,if_pos h6,D23 st r.2.1 hid h hS hok]
  simp only [cond_true,cond_false,bO,B6]
  by_cases hz:(A4q st r.2.1).2=0
  ·rw [A0 hz,if_pos hz];rfl
  ·rw [A3 hz,if_neg hz,C4n hz]
   simp only [Bool.not_false,cond_true,B8Y st r.2.1 _ hU,bO]
 rw [A3 h6,if_neg h6,D51 st r hU]
 rfl
def V7(c:P3):P3:=if G5 c&&!A3e c then (c.1,c.2.1,2,c.2.2.2) else c
theorem C1O(c:P3)(h:c.1.size≤maxLen)(h2:c.2.1.length≤140737488355328):A1P c=some (V7 c,()):=by
 simp only [A1P,B72,pe,C4L _ h2,A2Z _ h,B7F,A4,V7]
 cases G5 c<;>cases A3e c<;>simp
theorem E1v{us:List TUp}(ho:Ord us){i j:Nat}(hi:i<us.length)(hj:j<us.length)(h:us[i].1.toList=us[j].1.toList):i=j:=by
 rcases Nat.lt_trichotomy i j with h1 | h1 | h1
 ·have:=List.pairwise_iff_getElem.1 ho i j hi hj h1
  rw [h] at this
  simp [A3f] at this
 ·exact h1
 ·have:=List.pairwise_iff_getElem.1 ho j i hj hi h1
  rw [h] at this
  simp [A3f] at this
theorem C4o{st:A7}(ho:Ord st.2.2.2){u:TUp}(hu:u∈st.2.2.2):A7q st u.1=(u,true,()):=by
 obtain ⟨i,hi,rfl⟩:=List.getElem_of_mem hu
 have hle:B3s st.2.2.2 st.2.2.2[i].1≤i:=by
  refine Nat.le_of_not_lt fun hlt=>?_
  have:=A67 _ st.2.2.2.length 0 i (by omega) hlt
  rw [C8 (k:=kUp) (xs:=st.2.2.2) hi] at this
  simp at this
 have hlt:B3s st.2.2.2 st.2.2.2[i].1<st.2.2.2.length:=by omega
 have hf:=A4P (fun j=>!((rd kUp st.2.2.2 (j:Int)).1.toList == st.2.2.2[i].1.toList)) st.2.2.2.length 0 (by have:B3s st.2.2.2 st.2.2.2[i].1<st.2.2.2.length:=hlt;unfold B3s at this;omega)
 have hf2:(!((rd kUp st.2.2.2 (B3s st.2.2.2 st.2.2.2[i].1:Int)).1.toList == st.2.2.2[i].1.toList))=false:=hf
 rw [C8 (k:=kUp) (xs:=st.2.2.2) hlt] at hf2
 simp only [Bool.not_eq_false',beq_iff_eq] at hf2
 have:=E1v ho hlt hi hf2
 unfold A7q
 rw [if_pos hlt,C8 (k:=kUp) (xs:=st.2.2.2) hlt]
 simp only [this]
structure LeU (u v:TUp):Prop where
 id:u.1=v.1
 want:@Eq Int u.2.1 v.2.1
 len:List.length u.2.2.1≤List.length v.2.2.1
 dat:u.2.2.1=List.take (List.length u.2.2.1) v.2.2.1
 fin:u.2.2.2=true→v.2.2.2=true∧v.2.2.1=u.2.2.1
def B7O(us vs:List TUp):Prop:=∀ u∈us,∃ v∈vs,LeU u v
theorem C4p(u:TUp):LeU u u:=⟨rfl,rfl,Nat.le_refl _,(List.take_length).symm,fun h=>⟨h,rfl⟩⟩
theorem D8F{u v x:TUp}(h:LeU u v)(h':LeU v x):LeU u x:=
 ⟨h.id.trans h'.id,h.want.trans h'.want,Nat.le_trans h.len h'.len,by
  have h1:=h.dat
  rw [h'.dat,List.take_take,Nat.min_eq_left h.len] at h1
  exact h1,fun hd=>by
  obtain ⟨g1,g2⟩:=h.fin hd
  obtain ⟨g3,g4⟩:=h'.fin g1
  exact ⟨g3,g4.trans g2⟩⟩
theorem A2D(us:List TUp):B7O us us:=fun u hu=>⟨u,hu,C4p u⟩
theorem C4q{us vs xs:List TUp}(h:B7O us vs)(h':B7O vs xs):B7O us xs:=fun u hu=>by
 obtain ⟨v,hv,h1⟩:=h u hu
 obtain ⟨x,hx,h2⟩:=h' v hv
 exact ⟨x,hx,D8F h1 h2⟩
theorem D2H{us:List TUp}{p:Nat}{v:TUp}(h:∀ hp:p<us.length,LeU us[p] v):B7O us (us.set p v):=fun u hu=>by
 obtain ⟨j,hj,rfl⟩:=List.getElem_of_mem hu
 by_cases hjp:p=j
 ·subst hjp
  exact ⟨v,List.mem_iff_getElem.2 ⟨p,by rw [List.length_set];exact hj,List.getElem_set_self _⟩,h hj⟩
 ·exact ⟨us[j],List.mem_iff_getElem.2 ⟨j,by rw [List.length_set];exact hj,List.getElem_set_ne hjp _⟩,C4p _⟩
theorem B7P{us us':List TUp}{r:G8}(h:K1 us r=some us')(hk:r.2.2.1≠4):B7O us us':=by
 simp only [K1] at h
 split at h
 ·split at h
  ·cases h
  ·injection h with h;subst h
   intro u hu
   refine ⟨u,?_,C4p u⟩
   rw [← List.take_append_drop (B4 us r.2.2.2.1) us] at hu
   rcases List.mem_append.1 hu with hu | hu
   ·exact List.mem_append_left _ hu
   ·exact List.mem_append_right _ (List.mem_cons_of_mem _ hu)
 ·split at h
  ·cases h
  ·split at h
   ·split at h
    ·cases h
    ·rename_i hc
     injection h with h;subst h
     refine D2H fun hp=>?_
     rw [C8 (k:=kUp) (xs:=us) hp] at hc ⊢
     rw [not_or] at hc
     refine ⟨rfl,rfl,?_,?_,fun hd=>absurd hd hc.1⟩
     ·simp only [List.length_append];omega
     ·simp only [List.take_left]
   ·split at h
    ·split at h
     ·cases h
     ·injection h with h;subst h
      refine D2H fun hp=>?_
      rw [C8 (k:=kUp) (xs:=us) hp]
      refine ⟨rfl,rfl,Nat.le_refl _,(List.take_length).symm,fun _=>⟨rfl,rfl⟩⟩
    ·cases h
theorem C4r:∀ {l:List G8} {us us':List TUp},I1 us l=some us'→(∀ r∈l,r.2.2.1≠4)→B7O us us'
 | [],us,us',h,_=>by
  simp only [I1,Option.some.injEq] at h;subst h
  exact A2D _
 | r::l,us,us',h,hk=>by
  simp only [I1] at h
  split at h
  ·rename_i us1 e1
   exact C4q (B7P e1 (hk r List.mem_cons_self)) (C4r h fun x hx=>hk x (List.mem_cons_of_mem _ hx))
  ·cases h
theorem C0E{L:List G8}{a b:Nat}{ua ub:List TUp}(hab:a≤b)(ha:I1 [] (L.take a)=some ua)(hb:I1 [] (L.take b)=some ub)(hk:∀ r∈L,r.2.2.1≠4):B7O ua ub:=by
 have e:L.take b=L.take a++(L.take b).drop a:=by
  have:=List.take_append_drop a (L.take b)
  rw [List.take_take,Nat.min_eq_left hab] at this
  exact this.symm
 rw [e,B44,ha] at hb
 exact C4r hb fun r hr=>hk r (List.mem_of_mem_take (List.mem_of_mem_drop hr))
structure OkU (f:List Int) (u:TUp):Prop where
 want:@Eq Int u.2.1 (f.length:Int)
 len:List.length u.2.2.1≤f.length
 dat:u.2.2.1=f.take (List.length u.2.2.1)
 fin:u.2.2.2=true→List.length u.2.2.1=f.length
theorem E2z{f:List Int}{u v:TUp}(h:LeU u v)(hv:OkU f v):OkU f u:=by
 refine ⟨h.want.trans hv.want,Nat.le_trans h.len hv.len,?_,fun hd=>?_⟩
 ·have h1:=h.dat
  rw [hv.dat,List.take_take,Nat.min_eq_left h.len] at h1
  exact h1
 ·obtain ⟨g1,g2⟩:=h.fin hd
  rw [← g2]
  exact hv.fin g1
structure ClG (c:A8):Prop where
 ok:G5 c=true
 lo:c.2.2.1≠6
 byt:Byt c.2.1
 off:c.2.2.1=3→c.2.2.2<(c.2.1.length:Int)
def Fits(c:A8)(r:Q8):Prop:=
 (c.2.2.1=1∧(r=(201,0)∨(∃ o:Nat,o≤c.2.1.length∧r=(409,(o:Int)))∨r=(507,-1)))∨
 (c.2.2.1=2∧(r=(404,-1)∨∃ o:Nat,o≤c.2.1.length∧r=(200,(o:Int))))∨
 (c.2.2.1=3∧((∃ o:Nat,o≤c.2.1.length∧(r=(204,(o:Int))∨r=(409,(o:Int))))∨r=(404,-1)∨r=(507,-1)))∨
 (c.2.2.1=4∧(r=(200,-1)∨r=(404,-1)∨(∃ o:Nat,o≤c.2.1.length∧r=(409,(o:Int)))∨r=(507,-1)))
def Told(c:A8)(r:Q8)(us:List TUp):Prop:=
 (r.2=-1∨∃ u∈us,u.1=c.1∧r.2≤(List.length u.2.2.1:Int))∧(c.2.2.1=4→r.1=200→∃ u∈us,u.1=c.1∧u.2.2.2=true)
theorem C8m{c:A8}{r:Q8}{us vs:List TUp}(h:Told c r us)(hl:B7O us vs):Told c r vs:=by
 refine ⟨h.1.elim .inl fun ⟨u,hu,e,hle⟩=>?_,fun h4 h2=>?_⟩
 ·obtain ⟨v,hv,hlu⟩:=hl u hu
  have:=hlu.len
  exact .inr ⟨v,hv,hlu.id.symm.trans e,by omega⟩
 ·obtain ⟨u,hu,e,hd⟩:=h.2 h4 h2
  obtain ⟨v,hv,hlu⟩:=hl u hu
  exact ⟨v,hv,hlu.id.symm.trans e,(hlu.fin hd).1⟩
def E30(c:A8)(st st':A7):Prop:=st' = st∨∃ r us,B3x r∧r.1=st.2.1∧r.2.1=st.2.2.1∧st.2.2.1<(st.1.1.length:Int)∧K1 st.2.2.2 r=some us∧r.2.2.1≠4∧st' = wrote st r us∧∀ u∈us,u∈st.2.2.2∨(u.1=c.1∧OkU c.2.1 u)
theorem B5M{st:A7}{id:ByteArray}(h:G7 st.2.2.2 id=true):∃ u∈st.2.2.2,u.1=id∧lenOf st id=(List.length u.2.2.1:Int)∧rd kUp st.2.2.2 (B4 st.2.2.2 id:Int)=u:=by
 obtain ⟨hlt,e⟩:=I4.1 h
 refine ⟨_,List.getElem_mem hlt,B8N e,?_,C8 (k:=kUp) (xs:=st.2.2.2) hlt⟩
 unfold lenOf
 rw [if_pos h,C8 (k:=kUp) (xs:=st.2.2.2) hlt]
theorem Y4{c:A8}(h:ClG c):idB c.1=true∧c.2.1.length≤400∧1≤c.2.2.1∧c.2.2.1≤5∧0≤c.2.2.2∧c.2.2.2≤(c.2.1.length:Int):=by
 have h1:=h.ok
 simp only [G5,Bool.and_eq_true,decide_eq_true_eq] at h1
 have:=h.lo
 refine ⟨h1.1.1.1,?_⟩
 omega
theorem C8n{c:A8}(hc:ClG c){st:A7}(hR:Rt st)(hu:∀ u∈st.2.2.2,u.1=c.1→OkU c.2.1 u){r:A1w}{dat:List Int}(hq:H5 c=(r,dat,true,())) :
  E30 c st (A9m st r dat).1∧Fits c (A9m st r dat).2∧Told c (A9m st r dat).2 (A9m st r dat).1.2.2.2:=by
 obtain ⟨hid,hlen,h1,h5,o0,o1⟩:=Y4 hc
 obtain ⟨r5,r200⟩:=E2y hR
 have tell:G7 st.2.2.2 c.1=true→∃ o:Nat,o≤c.2.1.length∧lenOf st c.1=(o:Int)∧∃ u∈st.2.2.2,u.1=c.1∧(o:Int)≤(List.length u.2.2.1:Int):=fun hh=>by
  obtain ⟨u,hm,e,hl,_⟩:=B5M hh
  exact ⟨_,(hu u hm e).len,hl,u,hm,e,Int.le_refl _⟩
 unfold H5 at hq
 rw [hc.ok] at hq
 simp only [Bool.true_eq_false,if_false] at hq
 split at hq
 ·rename_i s1
  injection hq with q1 q2
  injection q2 with q2 _
  subst q1;subst q2
  simp only [A9m,if_true]
  have hcode:∀ k,(A2F st c.1 (c.2.1.length:Int)).2=k→k=0∨k=3∧G7 st.2.2.2 c.1=true∨k=5:=by
   intro k hk
   unfold A2F at hk
   rw [if_pos ⟨hid,by omega,by omega⟩] at hk
   split at hk
   ·rename_i hh;exact .inr (.inl ⟨hk.symm,hh⟩)
   ·split at hk
    ·exact .inr (.inr hk.symm)
    ·exact .inl hk.symm
  by_cases hz:(A2F st c.1 (c.2.1.length:Int)).2=0
  ·rw [if_pos hz]
   have hz':=hz
   unfold A2F at hz' ⊢
   rw [if_pos ⟨hid,by omega,by omega⟩] at hz' ⊢
   split at hz'
   ·simp at hz'
   ·rename_i hh
    rw [if_neg hh]
    split at hz'
    ·simp at hz'
    ·rename_i h10
     rw [if_neg h10]
     have hr:=A7t hR.g 1 (c.2.1.length:Int) c.1 hid (fun hx=>h10 (.inl hx)) (.inl ⟨rfl,by omega,by omega⟩)
     have hf:=B5K (st:=st) (id:=c.1) (want:=(c.2.1.length:Int)) hh (fun hx=>h10 (.inr hx))
     refine ⟨.inr ⟨_,_,⟨hr,A01⟩,rfl,rfl,by omega,hf,by simp,rfl,fun u hm=>?_⟩,.inl ⟨s1,.inl rfl⟩,.inr ⟨(c.1,(c.2.1.length:Int),[],false),?_,rfl,by simp⟩,fun h4=>by rw [s1] at h4;cases h4⟩
     ·rcases List.mem_append.1 hm with hm | hm
      ·exact .inl (List.mem_of_mem_take hm)
      ·rcases List.mem_cons.1 hm with rfl | hm
       ·exact .inr ⟨rfl,rfl,Nat.zero_le _,rfl,fun h=>by cases h⟩
       ·exact .inl (List.mem_of_mem_drop hm)
     ·show _∈_++_::_
      simp
  ·rw [if_neg hz,B7M hz]
   rcases hcode _ rfl with h | ⟨h,hh⟩ | h
   ·exact absurd h hz
   ·obtain ⟨o,g1,g2,g3⟩:=tell hh
    rw [h]
    have e:I2 st 3 c.1=(409,(o:Int)):=by unfold I2;rw [if_neg (by omega),if_pos (.inl rfl),g2]
    rw [e]
    exact ⟨.inl rfl,.inl ⟨s1,.inr (.inl ⟨o,g1,rfl⟩)⟩,.inr g3,fun h4=>by rw [s1] at h4;cases h4⟩
   ·rw [h]
    have e:I2 st 5 c.1=(507,-1):=by unfold I2;rw [if_neg (by omega),if_neg (by omega),if_pos rfl]
    rw [e]
    exact ⟨.inl rfl,.inl ⟨s1,.inr (.inr rfl)⟩,.inl rfl,fun h4=>by rw [s1] at h4;cases h4⟩
 ·split at hq
  ·rename_i s2
   injection hq with q1 q2
   injection q2 with q2 _
   subst q1;subst q2
   simp only [A9m]
   rw [if_neg (by omega),if_neg (by omega),if_neg (by omega),if_neg (by omega)]
   refine ⟨.inl rfl,?_⟩
   unfold D2F
   simp only
   split
   ·rename_i hh
    obtain ⟨o,g1,g2,g3⟩:=tell hh
    rw [if_neg (by simp),g2]
    exact ⟨.inr (.inl ⟨s2,.inr ⟨o,g1,rfl⟩⟩),.inr g3,fun h4=>by rw [s2] at h4;cases h4⟩
   ·exact ⟨.inr (.inl ⟨s2,.inl rfl⟩),.inl rfl,fun h4=>by rw [s2] at h4;cases h4⟩
  ·split at hq
   ·rename_i s3
    injection hq with q1 q2
    injection q2 with q2 _
    subst q1
    have hoff:=hc.off s3
    obtain ⟨ho,hoe⟩:∃ o:Nat,c.2.2.2=(o:Int):=⟨c.2.2.2.toNat,by omega⟩
    rw [hoe,Int.toNat_natCast] at q2
    have hdl:dat.length=min (ho+24) c.2.1.length-ho:=by rw [← q2];simp [List.length_drop,List.length_take]
    have hbd:Byt dat:=by rw [← q2];exact A65 (A2a hc.byt _) _
    have hpc:nPc dat=1:=by unfold nPc;omega
    simp only [A9m]
    rw [if_neg (by omega),if_pos trivial]
    have hcode:∀ k,(A4S st c.1 c.2.2.2 dat).2=k→k=0∨k=2∨k=4∧G7 st.2.2.2 c.1=true∨k=5:=by
     intro k hk
     unfold A4S at hk
     rw [if_pos ⟨hid,by omega,by omega⟩] at hk
     split at hk
     ·rename_i hh
      split at hk
      ·exact .inr (.inr (.inl ⟨hk.symm,hh⟩))
      ·split at hk
       ·exact .inr (.inr (.inr hk.symm))
       ·exact .inl hk.symm
     ·exact .inr (.inl hk.symm)
    by_cases hz:(A4S st c.1 c.2.2.2 dat).2=0
    ·rw [if_pos hz]
     obtain ⟨e1,e2,e3⟩:=B8X hR hbd hz
     have hz':=hz
     unfold A4S at hz' e1 ⊢
     rw [if_pos ⟨hid,by omega,by omega⟩] at hz' e1 ⊢
     split at hz'
     ·rename_i hh
      rw [if_pos hh] at e1 ⊢
      split at hz'
      ·simp at hz'
      ·rename_i h4
       rw [if_neg h4] at e1 ⊢
       split at hz'
       ·simp at hz'
       ·rename_i hl5
        rw [if_neg hl5] at e1 ⊢
        simp only [hpc] at e1 ⊢
        have hcc:=B5J hR hbd hid (by omega) hh h4 hl5
        obtain ⟨hr,hf,hI⟩:=B42 hcc (E0F hcc) (show 0<nPc dat by omega)
        have hpl:L1 24 dat 0=dat:=by unfold L1;rw [Nat.zero_mul,Nat.zero_add,List.drop_zero,List.take_of_length_le (by omega)]
        have hnx:=hcc.nx
        obtain ⟨u0,hm0,hid0,hl0,hrd0⟩:=B5M hh
        have hok0:=hu u0 hm0 hid0
        have hnd:u0.2.2.2=false:=by have:=hcc.nd;rw [hrd0] at this;exact this
        have hat:c.2.2.2=(List.length u0.2.2.1:Int):=by rw [e2,hl0]
        have hnew:OkU c.2.1 (u0.1,u0.2.1,u0.2.2.1++dat,u0.2.2.2):=by
         refine ⟨hok0.want,?_,?_,fun hd=>by rw [hnd] at hd;cases hd⟩
         ·simp only [List.length_append];omega
         ·simp only [List.length_append]
          have hou:List.length u0.2.2.1=ho:=by omega
          have hd0:=hok0.dat
          rw [hou] at hd0
          rw [hou,hdl]
          rw [hd0,← q2]
          have:=List.take_append_drop ho (c.2.1.take (min (ho+24) c.2.1.length))
          rw [List.take_take,Nat.min_eq_left (by omega)] at this
          rw [this]
          congr 1
          omega
        have hcat:B8P st.2.2.2 c.1 dat=st.2.2.2.set (B4 st.2.2.2 c.1) (u0.1,u0.2.1,u0.2.2.1++dat,u0.2.2.2):=by unfold B8P;rw [hrd0]
        rw [hpl] at hr hf
        have hmem:∀ u∈B8P st.2.2.2 c.1 dat,u∈st.2.2.2∨(u.1=c.1∧OkU c.2.1 u):=fun u hm=>by
         rw [hcat] at hm
         rcases List.mem_or_eq_of_mem_set hm with hm | rfl
         ·exact .inl hm
         ·exact .inr ⟨hid0,hnew⟩
        have hput1:putAt st c.1 c.2.2.2 dat 1=wrote st (st.2.1,st.2.2.1,2,c.1,c.2.2.2+((0*24:Nat):Int),dat) (B8P st.2.2.2 c.1 dat):=by
         show D4q (putAt st c.1 c.2.2.2 dat 0) c.1 _ (L1 24 dat 0)=_
         rw [hpl];rfl
        rw [hput1]
        refine ⟨.inr ⟨_,_,⟨hr,hbd⟩,rfl,rfl,by omega,hf,by simp,rfl,hmem⟩,.inr (.inr (.inl ⟨s3,.inl ⟨(c.2.2.2+(dat.length:Int)).toNat,by omega,.inl ?_⟩⟩)),.inr ?_,fun h4=>by rw [s3] at h4;cases h4⟩
        ·rw [Int.toNat_of_nonneg (by omega)]
        ·refine ⟨(u0.1,u0.2.1,u0.2.2.1++dat,u0.2.2.2),?_,hid0,by simp only [List.length_append];omega⟩
         show _∈B8P st.2.2.2 c.1 dat
         rw [hcat]
         obtain ⟨hlt,_⟩:=I4.1 hh
         exact List.mem_iff_getElem.2 ⟨_,by rw [List.length_set];exact hlt,List.getElem_set_self _⟩
     ·simp at hz'
    ·rw [if_neg hz,C0C hz]
     rcases hcode _ rfl with h | h | ⟨h,hh⟩ | h
     ·exact absurd h hz
     ·rw [h]
      have e:I2 st 2 c.1=(404,-1):=by unfold I2;rw [if_pos rfl]
      rw [e]
      exact ⟨.inl rfl,.inr (.inr (.inl ⟨s3,.inr (.inl rfl)⟩)),.inl rfl,fun h4=>by rw [s3] at h4;cases h4⟩
     ·obtain ⟨o,g1,g2,g3⟩:=tell hh
      rw [h]
      have e:I2 st 4 c.1=(409,(o:Int)):=by unfold I2;rw [if_neg (by omega),if_pos (.inr rfl),g2]
      rw [e]
      exact ⟨.inl rfl,.inr (.inr (.inl ⟨s3,.inl ⟨o,g1,.inr rfl⟩⟩)),.inr g3,fun h4=>by rw [s3] at h4;cases h4⟩
     ·rw [h]
      have e:I2 st 5 c.1=(507,-1):=by unfold I2;rw [if_neg (by omega),if_neg (by omega),if_pos rfl]
      rw [e]
      exact ⟨.inl rfl,.inr (.inr (.inl ⟨s3,.inr (.inr rfl)⟩)),.inl rfl,fun h4=>by rw [s3] at h4;cases h4⟩
   ·split at hq
    ·rename_i s4
     injection hq with q1 q2
     injection q2 with q2 _
     subst q1;subst q2
     simp only [A9m]
     rw [if_neg (by omega),if_neg (by omega),if_pos trivial]
     have hcrc:∀ u∈st.2.2.2,u.1=c.1→¬ (List.length u.2.2.1:Int)<u.2.1→u.2.2.1=c.2.1:=fun u hm e hl=>by
      have hk:=hu u hm e
      have h7:=hk.want
      have h8:=hk.len
      have h9:=hk.dat
      rw [List.take_of_length_le (by omega)] at h9
      exact h9
     have hcode:∀ k,(A1m st c.1 ((A63 c.2.1 ^^^ 4294967295:Nat):Int)).2=k→(k=0∧∃ u∈(A1m st c.1 ((A63 c.2.1 ^^^ 4294967295:Nat):Int)).1.2.2.2,u.1=c.1∧u.2.2.2=true)∨k=2∨k=4∧G7 st.2.2.2 c.1=true∨k=5:=by
      intro k hk
      unfold A1m at hk ⊢
      rw [if_pos hid] at hk ⊢
      split at hk
      ·rename_i hh
       obtain ⟨u0,hm0,hid0,hl0,hrd0⟩:=B5M hh
       rw [if_pos hh]
       rw [hrd0] at hk ⊢
       split at hk
       ·exact .inr (.inr (.inl ⟨hk.symm,hh⟩))
       ·rename_i hl
        rw [if_neg hl]
        have hfd:=hcrc u0 hm0 hid0 hl
        rw [hfd] at hk ⊢
        simp only [ne_eq,not_true_eq_false,if_false] at hk ⊢
        split at hk
        ·rename_i hd
         rw [if_pos hd]
         exact .inl ⟨hk.symm,u0,hm0,hid0,hd⟩
        ·rename_i hd
         rw [if_neg hd]
         split at hk
         ·exact .inr (.inr (.inr hk.symm))
         ·rename_i hle
          rw [if_neg hle]
          refine .inl ⟨hk.symm,(u0.1,u0.2.1,c.2.1,true),?_,hid0,rfl⟩
          obtain ⟨hlt,_⟩:=I4.1 hh
          show _∈List.set _ _ _
          exact List.mem_iff_getElem.2 ⟨_,by rw [List.length_set];exact hlt,List.getElem_set_self _⟩
      ·exact .inr (.inl hk.symm)
     by_cases hz:(A1m st c.1 ((A63 c.2.1 ^^^ 4294967295:Nat):Int)).2=0
     ·rw [if_pos hz]
      rcases hcode _ rfl with ⟨_,hd⟩ | h | ⟨h,_⟩ | h
      ·refine ⟨?_,.inr (.inr (.inr ⟨s4,.inl rfl⟩)),.inl rfl,fun _ _=>hd⟩
       have hz':=hz
       unfold A1m at hz' ⊢
       rw [if_pos hid] at hz' ⊢
       split at hz'
       ·rename_i hh
        rw [if_pos hh]
        split at hz'
        ·simp at hz'
        ·rename_i hl
         rw [if_neg hl]
         split at hz'
         ·simp at hz'
         ·rename_i hcr
          rw [if_neg hcr]
          split at hz'
          ·rename_i hd
           rw [if_pos hd]
           exact .inl rfl
          ·rename_i hd
           rw [if_neg hd]
           split at hz'
           ·simp at hz'
           ·rename_i hle
            rw [if_neg hle]
            have hr:=A7t hR.g 3 0 c.1 hid hle (.inr ⟨.inl rfl,rfl⟩)
            have hf:=B5L hR.up hh hl hd
            obtain ⟨u0,hm0,hid0,hl0,hrd0⟩:=B5M hh
            have hok0:=hu u0 hm0 hid0
            refine .inr ⟨_,_,⟨hr,A01⟩,rfl,rfl,by omega,hf,by simp,rfl,fun u hm=>?_⟩
            rw [hrd0] at hm hl
            rcases List.mem_or_eq_of_mem_set hm with hm | rfl
            ·exact .inl hm
            ·have h7:=hok0.want
             have h8:=hok0.len
             exact .inr ⟨hid0,hok0.want,hok0.len,hok0.dat,fun _=>by show List.length u0.2.2.1=_;omega⟩
       ·simp at hz'
      ·rw [h] at hz;cases hz
      ·rw [h] at hz;cases hz
      ·rw [h] at hz;cases hz
     ·rw [if_neg hz,B7N hz]
      rcases hcode _ rfl with ⟨h,_⟩ | h | ⟨h,hh⟩ | h
      ·exact absurd h hz
      ·rw [h]
       have e:I2 st 2 c.1=(404,-1):=by unfold I2;rw [if_pos rfl]
       rw [e]
       exact ⟨.inl rfl,.inr (.inr (.inr ⟨s4,.inr (.inl rfl)⟩)),.inl rfl,fun _ h2=>by cases h2⟩
      ·obtain ⟨o,g1,g2,g3⟩:=tell hh
       rw [h]
       have e:I2 st 4 c.1=(409,(o:Int)):=by unfold I2;rw [if_neg (by omega),if_pos (.inr rfl),g2]
       rw [e]
       exact ⟨.inl rfl,.inr (.inr (.inr ⟨s4,.inr (.inr (.inl ⟨o,g1,rfl⟩))⟩)),.inr g3,fun _ h2=>by cases h2⟩
      ·rw [h]
       have e:I2 st 5 c.1=(507,-1):=by unfold I2;rw [if_neg (by omega),if_neg (by omega),if_pos rfl]
       rw [e]
       exact ⟨.inl rfl,.inr (.inr (.inr ⟨s4,.inr (.inr (.inr rfl))⟩)),.inl rfl,fun _ h2=>by cases h2⟩
    ·unfold C1J at hq
     injection hq with _ hq
     injection hq with _ hq
     injection hq with hq _
     cases hq
theorem D8G{c:A8}(hc:ClG c){r:Q8}(hf:Fits c r):ClG (hear c r)∧(hear c r).1=c.1∧(hear c r).2.1=c.2.1∧((hear c r).2.2.1=5→c.2.2.1=4∧r.1=200)∧A3e c=false:=by
 obtain ⟨hid,hlen,h1,h5,o0,o1⟩:=Y4 hc
 have mk:∀ (s o:Int),1≤s→s≤5→0≤o→o≤(c.2.1.length:Int)→(s=3→o<(c.2.1.length:Int))→ClG (c.1,c.2.1,s,o):=fun s o g1 g2 g3 g4 g5=>by
  refine ⟨?_,by show s≠6;omega,hc.byt,g5⟩
  simp only [G5,Bool.and_eq_true,decide_eq_true_eq]
  refine ⟨⟨⟨hid,by omega⟩,by omega⟩,by omega⟩
 have far_ok:∀ o:Nat,o≤c.2.1.length→ClG (far c (o:Int))∧(far c (o:Int)).1=c.1∧(far c (o:Int)).2.1=c.2.1∧(far c (o:Int)).2.2.1≠5:=fun o ho=>by
  unfold far
  rw [if_pos ⟨by omega,by omega⟩]
  split
  ·exact ⟨mk 4 _ (by omega) (by omega) (by omega) (by omega) (fun h=>by cases h),rfl,rfl,by simp⟩
  ·exact ⟨mk 3 _ (by omega) (by omega) (by omega) (by omega) (fun _=>by omega),rfl,rfl,by simp⟩
 have ov:∀ s:Int,c.2.2.1=s→s≠5→s≠6→A3e c=false:=fun s e n5 n6=>by
  unfold A3e
  rw [e,A3 n5,A3 n6]
  rfl
 have stay:∀ (st o:Int) (s:Int),A1l c.2.2.1 st=s→s≠0→s≠5→1≤s→s≤4→(s=3→c.2.2.2<(c.2.1.length:Int))→ClG (hear c (st,o))∧(hear c (st,o)).1=c.1∧(hear c (st,o)).2.1=c.2.1∧(hear c (st,o)).2.2.1≠5:=fun st o s e n0 n5 g1 g2 g3=>by
  unfold hear
  simp only [e]
  rw [if_neg n0]
  exact ⟨mk s _ g1 (by omega) o0 o1 g3,rfl,rfl,n5⟩
 have goFar:∀ (st:Int) (o:Nat),A1l c.2.2.1 st=0→o≤c.2.1.length→ClG (hear c (st,(o:Int)))∧(hear c (st,(o:Int))).1=c.1∧(hear c (st,(o:Int))).2.1=c.2.1∧(hear c (st,(o:Int))).2.2.1≠5:=fun st o e ho=>by
  unfold hear
  simp only [e]
  exact far_ok o ho
 have fin:∀ {r:Q8},(ClG (hear c r)∧(hear c r).1=c.1∧(hear c r).2.1=c.2.1∧(hear c r).2.2.1≠5)→A3e c=false→ClG (hear c r)∧(hear c r).1=c.1∧(hear c r).2.1=c.2.1∧((hear c r).2.2.1=5→c.2.2.1=4∧r.1=200)∧A3e c=false:=fun h ho=>⟨h.1,h.2.1,h.2.2.1,fun e=>absurd e h.2.2.2,ho⟩
 rcases hf with ⟨s,h | ⟨o,ho,h⟩ | h⟩ | ⟨s,h | ⟨o,ho,h⟩⟩ | ⟨s,⟨o,ho,h | h⟩ | h | h⟩ | ⟨s,h | h | ⟨o,ho,h⟩ | h⟩<;>subst h
 ·exact fin (goFar 201 0 (by rw [s];rfl) (Nat.zero_le _)) (ov _ s (by omega) (by omega))
 ·exact fin (stay 409 _ 2 (by rw [s];rfl) (by omega) (by omega) (by omega) (by omega) (fun h=>by cases h)) (ov _ s (by omega) (by omega))
 ·exact fin (stay 507 _ 1 (by rw [s];rfl) (by omega) (by omega) (by omega) (by omega) (fun h=>by cases h)) (ov _ s (by omega) (by omega))
 ·exact fin (stay 404 _ 1 (by rw [s];rfl) (by omega) (by omega) (by omega) (by omega) (fun h=>by cases h)) (ov _ s (by omega) (by omega))
 ·exact fin (goFar 200 o (by rw [s];rfl) ho) (ov _ s (by omega) (by omega))
 ·exact fin (goFar 204 o (by rw [s];rfl) ho) (ov _ s (by omega) (by omega))
 ·exact fin (goFar 409 o (by rw [s];rfl) ho) (ov _ s (by omega) (by omega))
 ·exact fin (stay 404 _ 1 (by rw [s];rfl) (by omega) (by omega) (by omega) (by omega) (fun h=>by cases h)) (ov _ s (by omega) (by omega))
 ·exact fin (stay 507 _ 3 (by rw [s];rfl) (by omega) (by omega) (by omega) (by omega) (fun _=>hc.off s)) (ov _ s (by omega) (by omega))
 ·refine ⟨?_,?_,?_,fun _=>⟨s,rfl⟩,ov _ s (by omega) (by omega)⟩
  ·have e:hear c (200,-1)=(c.1,c.2.1,5,c.2.2.2):=by unfold hear;rw [s];rfl
   rw [e]
   exact mk 5 _ (by omega) (by omega) o0 o1 (fun h=>by cases h)
  ·unfold hear;rw [s];rfl
  ·unfold hear;rw [s];rfl
 ·exact fin (stay 404 _ 1 (by rw [s];rfl) (by omega) (by omega) (by omega) (by omega) (fun h=>by cases h)) (ov _ s (by omega) (by omega))
 ·exact fin (stay 409 _ 2 (by rw [s];rfl) (by omega) (by omega) (by omega) (by omega) (fun h=>by cases h)) (ov _ s (by omega) (by omega))
 ·exact fin (stay 507 _ 4 (by rw [s];rfl) (by omega) (by omega) (by omega) (by omega) (fun h=>by cases h)) (ov _ s (by omega) (by omega))
theorem A7u{c:A8}(hc:ClG c):ClG (V7 c)∧(V7 c).1=c.1∧(V7 c).2.1=c.2.1∧((V7 c).2.2.1=5→c.2.2.1=5):=by
 obtain ⟨hid,hlen,h1,h5,o0,o1⟩:=Y4 hc
 unfold V7
 split
 ·refine ⟨⟨?_,by show (2:Int)≠6;omega,hc.byt,fun h=>by cases h⟩,rfl,rfl,fun h=>by cases h⟩
  simp only [G5,Bool.and_eq_true,decide_eq_true_eq]
  refine ⟨⟨⟨hid,by omega⟩,by omega⟩,by omega⟩
 ·exact ⟨hc,rfl,rfl,fun h=>h⟩
abbrev C8o:K:=(.pair .str (.pair (.rs 5 (.int .u8)) F6))
abbrev C9w:K:=(.pair (.int .i64) (.pair W8 (.rs 5 (.int .u8))))
theorem A16(k:K){xs:List k.T}{i:Nat}{x:k.T}(h:xs[i]? = some x):rd k xs (i:Int)=x:=by
 obtain ⟨hi,e⟩:=List.getElem?_eq_some_iff.1 h
 rw [C8 (k:=k) hi,e]
def cW(i:Nat)(l:List L0):Nat:=l.countP fun a=>decide (a.1=(i:Int))
def cH(i:Nat)(l:List C7):Nat:=l.countP fun a=>decide (a.1=(i:Int))
structure WI (k c:Nat) (uc:List TUp) (st:A7) (held:List C7) (cls:List A8) (busy:List Bool) (asks:List L0) (tells:List C7) (best:List Int):Prop where
 dur:Dur st c
 ep:st.2.1≤(k:Int)
 nd:∀ r∈B7 st.1.1,r.2.2.1≠4
 fuc:I1 [] ((B7 st.1.1).take c)=some uc
 n6:cls.length≤6
 lb:busy.length=cls.length
 lt:best.length=cls.length
 dist:∀ (i j:Nat) (a b:A8),cls[i]? = some a→cls[j]? = some b→a.1=b.1→i=j
 cl:∀ (i:Nat) (a:A8),cls[i]? = some a→ClG a
 cnt:∀ (i:Nat) b,busy[i]? = some b→cW i asks+cH i held+cH i tells=if b=true then 1 else 0
 dn:∀ (i:Nat) (a:A8),cls[i]? = some a→a.2.2.1=5→busy[i]? = some false
 ask:∀ a∈asks,∃ (i:Nat) (cl:A8),cls[i]? = some cl∧a.1=(i:Int)∧H5 cl=(a.2.1,a.2.2,true,())
 hld:∀ h∈held,∃ (i:Nat) (cl:A8),cls[i]? = some cl∧h.1=(i:Int)∧Fits cl h.2∧Told cl h.2 st.2.2.2
 tell:∀ h∈tells,∃ (i:Nat) (cl:A8),cls[i]? = some cl∧h.1=(i:Int)∧Fits cl h.2∧Told cl h.2 uc
 bst:∀ (i:Nat) (a:A8) (b:Int),cls[i]? = some a→best[i]? = some b→b=-1∨∃ u∈uc,u.1=a.1∧b≤(List.length u.2.2.1:Int)
 ends:∀ (i:Nat) (a:A8),cls[i]? = some a→a.2.2.1=5→∃ u∈uc,u.1=a.1∧u.2.2.2=true
 oku:∀ u∈st.2.2.2,∃ (i:Nat) (a:A8),cls[i]? = some a∧u.1=a.1∧OkU a.2.1 u
 la:asks.length≤60
 l6:tells.length≤60
 lh:held.length≤200
def WIw(k:Nat)(w:A5):Prop:=∃ c uc,WI k c uc w.1.1 w.1.2 w.2.1 w.2.2.1 w.2.2.2.1 w.2.2.2.2.1 w.2.2.2.2.2
theorem wiw{k c:Nat}{uc:List TUp}{st:A7}{held cls busy asks tells best}(h:WI k c uc st held cls busy asks tells best):WIw k (((st,held),(cls,(busy,(asks,(tells,best))))):A5):=⟨c,uc,h⟩
theorem E0K{k c:Nat}{uc:List TUp}{st:A7}{held cls busy asks tells best}(h:WI k c uc st held cls busy asks tells best):B7O uc st.2.2.2:=by
 have h1:=h.dur.g.up
 rw [← List.take_length (l:=B7 st.1.1)] at h1
 exact C0E h.dur.le h.fuc h1 h.nd
def rm{α:Type}(l:List α)(j:Nat):List α:=l.take j++l.drop (j+1)
theorem E0L{α:Type}{l:List α}{j:Nat}{a:α}(h:l[j]? = some a):l=l.take j++a::l.drop (j+1):=by
 obtain ⟨hj,e⟩:=List.getElem?_eq_some_iff.1 h
 rw [← e,← List.drop_eq_getElem_cons hj,List.take_append_drop]
theorem D2I{α:Type}(p:α→Bool){l:List α}{j:Nat}{a:α}(h:l[j]? = some a):l.countP p=(rm l j).countP p+(if p a=true then 1 else 0):=by
 conv=>lhs;rw [E0L h]
 unfold rm
 rw [List.countP_append,List.countP_append,List.countP_cons]
 omega
theorem C4s{α:Type}{l:List α}{j:Nat}{x:α}(h:x∈rm l j):x∈l:=(List.mem_append.1 h).elim List.mem_of_mem_take List.mem_of_mem_drop
theorem B7Q{α:Type}{l:List α}{j:Nat}(h:j<l.length):(rm l j).length+1=l.length:=by
 simp only [rm,List.length_append,List.length_take,List.length_drop]
 omega
theorem B1z{α:Type}{l:List α}{i j:Nat}{v x:α}(h:(l.set i v)[j]? = some x):(j=i∧x=v)∨(j≠i∧l[j]? = some x):=by
 rw [List.getElem?_set] at h
 split at h
 ·rename_i e
  split at h
  ·injection h with h
   exact .inl ⟨e.symm,h.symm⟩
  ·cases h
 ·rename_i e
  exact .inr ⟨fun x=>e x.symm,h⟩
theorem B7R{α:Type}{p:α→Bool}{l:List α}(h:l.countP p=0){a:α}(ha:a∈l):¬ p a=true:=List.countP_eq_zero.1 h a ha
theorem B5N{k c:Nat}{uc:List TUp}{st:A7}{held cls busy asks tells best}(h:WI k c uc st held cls busy asks tells best):Rt st∧A7s st∧F4 st=some (true,()):=by
 obtain ⟨a,b,c,_⟩:=B8V h.dur.g
 exact ⟨a,b,c⟩
theorem A94{a:A8}(h:ClG a):a.1.size≤maxLen:=by
 obtain ⟨h1,_⟩:=Y4 h
 have:a.1.size≤8:=by simp only [idB,Bool.and_eq_true,decide_eq_true_eq] at h1;omega
 simp only [maxLen];omega
theorem D6u(k:Nat)(w:A5)(h:WIw k w)(i:Int)(hi:i<9223372036854775807):∃ b w',Y7 w i=some (b,w',())∧WIw k w':=by
 obtain ⟨⟨st,held⟩,cls,busy,asks,tells,best⟩:=w
 obtain ⟨c,uc,h⟩:=h
 simp only at h
 have hn:=h.n6
 have hlb:=h.lb
 have same:WIw k (((st,held),(cls,(busy,(asks,(tells,best))))):A5):=⟨c,uc,h⟩
 simp only [Y7,A5Y,N6,bO]
 rw [w64 (n:=(cls.length:Int)-1) (by omega) (by omega)]
 by_cases hr:0≤i∧i≤(cls.length:Int)-1
 ·obtain ⟨i,rfl⟩:∃ j:Nat,i=(j:Int):=⟨i.toNat,by omega⟩
  have hic:i<cls.length:=by omega
  obtain ⟨cl,hcl⟩:∃ x,cls[i]? = some x:=⟨_,List.getElem?_eq_getElem hic⟩
  obtain ⟨b,hb⟩:∃ x,busy[i]? = some x:=⟨_,List.getElem?_eq_getElem (by omega)⟩
  have hg:=h.cl i cl hcl
  rw [A0 hr,A0 (show (0:Int)≤(i:Int) by omega),A0 (show (i:Int)<(busy.length:Int) by omega),A0 (show (i:Int)<(cls.length:Int) by omega),A16 .bool hb,A16 C8o hcl,B8G cl (A94 hg) hg.byt]
  simp only [Bool.not_true,cond_false,cond_true]
  cases b with
  | true=>exact ⟨false,_,rfl,same⟩
  | false=>
   simp only [cond_false]
   by_cases h60:(asks.length:Int)=60
   ·rw [A0 h60];exact ⟨false,_,rfl,same⟩
   ·rw [A3 h60]
    have hla:=h.la
    simp only [cond_false,B6,bO]
    generalize hq:H5 cl=q
    obtain ⟨r,dat,ok,u⟩:=q
    cases ok with
    | false=>exact ⟨false,_,rfl,same⟩
    | true=>
     simp only [Bool.not_true,cond_false]
     rw [A0 (by simp;omega),A0 (by simp;omega)]
     refine ⟨true,_,rfl,wiw (c:=c) (uc:=uc) ?_⟩
     have hpend:=h.cnt i false hb
     simp only [Bool.false_eq_true,if_false] at hpend
     have hcount:∀ j:Nat,cW j (asks ++ [((i:Int),(r,dat))])=cW j asks+if j=i then 1 else 0:=fun j=>by
      unfold cW
      rw [List.countP_append,List.countP_singleton]
      by_cases hji:j=i
      ·subst hji;simp
      ·rw [if_neg hji];simp;omega
     have hs5:cl.2.2.1≠5:=fun e=>by
      unfold H5 at hq
      rw [hg.ok,e] at hq
      simp [C1J] at hq
     refine {h with lb:=?_,cnt:=?_,dn:=?_,ask:=?_,la:=?_}
     ·simp only [List.length_set];exact h.lb
     ·intro j b' hb'
      rw [hcount j]
      rw [Int.toNat_natCast] at hb'
      rcases B1z hb' with ⟨rfl,rfl⟩ | ⟨hne,hb'⟩
      ·rw [if_pos rfl,if_pos rfl];omega
      ·have:=h.cnt j b' hb'
       rw [if_neg hne];omega
     ·intro j a ha h5
      rw [Int.toNat_natCast,List.getElem?_set_ne (fun e=>?_)]
      ·exact h.dn j a ha h5
      ·subst e
       rw [hcl] at ha
       injection ha with ha
       rw [ha] at hs5
       exact hs5 h5
     ·intro a ha
      rcases List.mem_append.1 ha with ha | ha
      ·exact h.ask a ha
      ·rw [List.mem_singleton.1 ha]
       exact ⟨i,cl,hcl,rfl,hq⟩
     ·simp only [List.length_append,List.length_cons,List.length_nil];omega
 ·rw [A3 hr]
  exact ⟨false,_,rfl,same⟩
theorem D2J(k:Nat)(w:A5)(h:WIw k w)(j:Int)(hj:j<9223372036854775807):∃ b w',V3 w j=some (b,w',())∧WIw k w':=by
 obtain ⟨⟨st,held⟩,cls,busy,asks,tells,best⟩:=w
 obtain ⟨c,uc,h⟩:=h
 simp only at h
 have hn:=h.n6
 have hla:=h.la
 have hlh:=h.lh
 have same:WIw k (((st,held),(cls,(busy,(asks,(tells,best))))):A5):=⟨c,uc,h⟩
 simp only [V3,A49,N6,bO]
 rw [w64 (n:=(asks.length:Int)-1) (by omega) (by omega)]
 by_cases hr:0≤j∧j≤(asks.length:Int)-1
 ·obtain ⟨j,rfl⟩:∃ q:Nat,j=(q:Int):=⟨j.toNat,by omega⟩
  have hjl:j<asks.length:=by omega
  rw [A0 hr]
  simp only [Bool.not_true,cond_false]
  by_cases h200:(held.length:Int)=200
  ·rw [A0 h200];exact ⟨false,_,rfl,same⟩
  rw [A3 h200]
  obtain ⟨a,ha⟩:∃ x,asks[j]? = some x:=⟨_,List.getElem?_eq_getElem hjl⟩
  obtain ⟨i,cl,hcl,hai,hq⟩:=h.ask a (List.mem_of_getElem? ha)
  have hg:=h.cl i cl hcl
  obtain ⟨hR,hS,hok⟩:=B5N h
  have huc:=E0K h
  simp only [cond_false,B6]
  rw [A16 C9w ha,w64 (n:=(j:Int)+1) (by omega) (by omega),A0 (show (0:Int)≤(j:Int) by omega),A0 (show (j:Int)<(asks.length:Int) by omega),A0 (show (j:Int)≤(asks.length:Int) by omega),
   A0 (show (0:Int)≤(j:Int)+1 by omega),A0 (show (j:Int)+1≤(asks.length:Int) by omega),A0 (by simp;omega),A0 (by simp;omega),A0 (by simp;omega),A0 (by simp;omega)]
  simp only [cond_true]
  have hdat:Byt a.2.2∧List.length a.2.2≤1048576:=by
   obtain ⟨_,h400,_⟩:=Y4 hg
   have hl:=B3q cl
   rw [hq] at hl
   refine ⟨?_,by have:List.length a.2.2≤cl.2.1.length:=hl;omega⟩
   have hbb:Byt (H5 cl).2.1:=by
    unfold H5 C1J
    repeat' split
    all_goals first | exact A01 | exact A65 (A2a hg.byt _) _
   rw [hq] at hbb
   exact hbb
  have hreq:a.2.1.2.1.size≤maxLen∧(-9223372036854775808≤a.2.1.2.2∧a.2.1.2.2≤9223372036854775807):=by
   obtain ⟨_,h400,_,_,o0,o1⟩:=Y4 hg
   have hcs:=A94 hg
   have hcrc:=A8v hg.byt
   have hx:A63 cl.2.1 ^^^ 4294967295<2 ^ 32:=Nat.xor_lt_two_pow hcrc (by omega)
   have e:(H5 cl).1.2.1.size≤maxLen∧(-9223372036854775808≤(H5 cl).1.2.2∧(H5 cl).1.2.2≤9223372036854775807):=by
    unfold H5 C1J
    repeat' split
    all_goals first | exact ⟨hcs,by simp only;omega⟩ | exact ⟨Nat.zero_le _,by simp only;omega⟩
   rw [hq] at e
   exact e
  have hdo:=C8l st a.2.1 a.2.2 hreq.1 hR hS hok hdat.1 hdat.2 hreq.2
  have hdo':S4 ((st.1.1,st.1.2),(st.2.1,(st.2.2.1,st.2.2.2))) a.2.1 a.2.2=_:=hdo
  rw [hdo]
  simp only [bO]
  rw [A0 (by simp;omega),A0 (by simp;omega)]
  have hser:=C8n hg hR (fun u hu e=>by
   obtain ⟨i',a',h1,h2,h3⟩:=h.oku u hu
   have:=h.dist i' i a' cl h1 hcl (by rw [← h2,e])
   subst this
   rw [hcl] at h1;injection h1 with h1;rw [h1];exact h3) hq
  generalize A9m st a.2.1 a.2.2=ans at hser ⊢
  obtain ⟨st',resp⟩:=ans
  obtain ⟨hsv,hfit,htold⟩:=hser
  simp only at hsv hfit htold
  refine ⟨true,_,rfl,wiw (c:=c) (uc:=uc) ?_⟩
  have hst:Dur st' c∧st'.2.1=st.2.1∧(∀ r∈B7 st'.1.1,r.2.2.1≠4)∧(B7 st'.1.1).take c=(B7 st.1.1).take c∧B7O st.2.2.2 st'.2.2.2∧∀ u∈st'.2.2.2,u∈st.2.2.2∨(u.1=cl.1∧OkU cl.2.1 u):=by
   rcases hsv with rfl | ⟨r,us,g1,g2,g3,g4,g5,g6,rfl,g7⟩
   ·exact ⟨h.dur,rfl,h.nd,rfl,A2D _,fun u hu=>.inl hu⟩
   ·have hsc:=(B7K h.dur.g g1 g2 g3 g4 g5).2
    refine ⟨D8B h.dur g1 g2 g3 g4 g5,rfl,fun x hx=>?_,?_,B7P g5 g6,g7⟩
    ·rw [hsc] at hx
     rcases List.mem_append.1 hx with hx | hx
     ·exact h.nd x hx
     ·rw [List.mem_singleton.1 hx];exact g6
    ·rw [hsc,List.take_append_of_le_length h.dur.le]
  obtain ⟨k1,k2,k3,k4,k5,k6⟩:=hst
  have hrm:([]++(asks.take (j:Int).toNat).drop 0)++(asks.take asks.length).drop ((j:Int)+1).toNat=rm asks j:=by
   unfold rm
   rw [Int.toNat_natCast,show ((j:Int)+1).toNat=j+1 by omega,List.drop_zero,List.take_length]
   rfl
  simp only [hrm]
  have hcn:∀ i':Nat,cW i' asks=cW i' (rm asks j)+if (i':Int)=a.1 then 1 else 0:=fun i'=>by
   have:=D2I (fun x:L0=>decide (x.1=(i':Int))) ha
   unfold cW
   rw [this]
   by_cases e:(i':Int)=a.1
   ·rw [if_pos e,if_pos (by simp [e])]
   ·rw [if_neg e,if_neg (by simp;omega)]
  have hch:∀ i':Nat,cH i' (held ++ [(a.1,resp)])=cH i' held+if (i':Int)=a.1 then 1 else 0:=fun i'=>by
   unfold cH
   rw [List.countP_append,List.countP_singleton]
   by_cases e:(i':Int)=a.1
   ·rw [if_pos e,if_pos (by simp [e])]
   ·rw [if_neg e,if_neg (by simp;omega)]
  refine {h with dur:=k1,ep:=by rw [k2];exact h.ep,nd:=k3,fuc:=by rw [k4];exact h.fuc,cnt:=?_,ask:=?_,hld:=?_,oku:=?_,la:=?_,lh:=?_}
  ·intro i' b hb
   have:=h.cnt i' b hb
   have h1:=hcn i'
   have h2:=hch i'
   omega
  ·exact fun x hx=>h.ask x (C4s hx)
  ·intro x hx
   rcases List.mem_append.1 hx with hx | hx
   ·obtain ⟨i',a',h1,h2,h3,h4⟩:=h.hld x hx
    exact ⟨i',a',h1,h2,h3,C8m h4 k5⟩
   ·rw [List.mem_singleton.1 hx]
    exact ⟨i,cl,hcl,hai,hfit,htold⟩
  ·intro u hu
   rcases k6 u hu with hu | ⟨e,hu⟩
   ·exact h.oku u hu
   ·exact ⟨i,cl,hcl,e,hu⟩
  ·have:=B7Q hjl;omega
  ·simp only [List.length_append,List.length_cons,List.length_nil];omega
 ·rw [A3 hr]
  exact ⟨false,_,rfl,same⟩
theorem D6v(k:Nat)(w:A5)(h:WIw k w):∃ b w',A1M w=some (b,w',())∧WIw k w':=by
 obtain ⟨⟨st,held⟩,cls,busy,asks,tells,best⟩:=w
 obtain ⟨c,uc,h⟩:=h
 simp only at h
 have hl6:=h.l6
 have hlh:=h.lh
 have same:WIw k (((st,held),(cls,(busy,(asks,(tells,best))))):A5):=⟨c,uc,h⟩
 obtain ⟨hR,hS,hok⟩:=B5N h
 have huc:=E0K h
 simp only [A1M,A8c]
 rw [w64 (n:=(tells.length:Int)+(held.length:Int)) (by omega) (by omega)]
 by_cases h60:(tells.length:Int)+(held.length:Int)>60
 ·rw [A0 h60];exact ⟨false,_,rfl,same⟩
 ·rw [A3 h60,A0 (by omega),A0 (by omega),C4c st.1 hS.1]
  simp only [cond_false,cond_true,bO]
  refine ⟨true,_,rfl,wiw (c:=(B7 st.1.1).length) (uc:=st.2.2.2) ?_⟩
  have hup:=h.dur.g.up
  have hd:=B7L h.dur.g
  refine {h with dur:=hd,fuc:=by show I1 [] ((B7 st.1.1).take (B7 st.1.1).length)=_;rw [List.take_length];exact hup,cnt:=?_,hld:=fun x hx=>by (cases hx),tell:=?_,bst:=?_,ends:=?_,l6:=?_,lh:=by simp}
  ·intro i b hb
   have:=h.cnt i b hb
   have e:cH i (tells++held)=cH i tells+cH i held:=List.countP_append
   rw [e]
   have e0:cH i ([]:List C7)=0:=rfl
   rw [e0]
   omega
  ·intro x hx
   rcases List.mem_append.1 hx with hx | hx
   ·obtain ⟨i,a,h1,h2,h3,h4⟩:=h.tell x hx
    exact ⟨i,a,h1,h2,h3,C8m h4 huc⟩
   ·exact h.hld x hx
  ·intro i a b ha hb
   rcases h.bst i a b ha hb with h1 | ⟨u,hu,e,hle⟩
   ·exact .inl h1
   ·obtain ⟨v,hv,hlu⟩:=huc u hu
    have:=hlu.len
    exact .inr ⟨v,hv,hlu.id.symm.trans e,by omega⟩
  ·intro i a ha h5
   obtain ⟨u,hu,e,hd⟩:=h.ends i a ha h5
   obtain ⟨v,hv,hlu⟩:=huc u hu
   exact ⟨v,hv,hlu.id.symm.trans e,(hlu.fin hd).1⟩
  ·simp only [List.length_append];omega
theorem D6w(k:Nat)(w:A5)(h:WIw k w)(j:Int)(hj:j<9223372036854775807):∃ b w',Z0 w j=some (b,w',())∧WIw k w':=by
 obtain ⟨⟨st,held⟩,cls,busy,asks,tells,best⟩:=w
 obtain ⟨c,uc,h⟩:=h
 simp only at h
 have hn:=h.n6
 have hl6:=h.l6
 have hlb:=h.lb
 have hlt:=h.lt
 have same:WIw k (((st,held),(cls,(busy,(asks,(tells,best))))):A5):=⟨c,uc,h⟩
 simp only [Z0,A5b,N6,bO]
 rw [w64 (n:=(tells.length:Int)-1) (by omega) (by omega)]
 by_cases hr:0≤j∧j≤(tells.length:Int)-1
 ·obtain ⟨j,rfl⟩:∃ q:Nat,j=(q:Int):=⟨j.toNat,by omega⟩
  have hjl:j<tells.length:=by omega
  obtain ⟨a,ha⟩:∃ x,tells[j]? = some x:=⟨_,List.getElem?_eq_getElem hjl⟩
  obtain ⟨i,cl,hcl,hai,hfit,htold⟩:=h.tell a (List.mem_of_getElem? ha)
  have hg:=h.cl i cl hcl
  have hic:i<cls.length:=(List.getElem?_eq_some_iff.1 hcl).1
  obtain ⟨b,hb⟩:∃ x,busy[i]? = some x:=⟨_,List.getElem?_eq_getElem (show i<busy.length by omega)⟩
  obtain ⟨bt0,hbt⟩:∃ x,best[i]? = some x:=⟨_,List.getElem?_eq_getElem (show i<best.length by omega)⟩
  have hct:∀ i':Nat,cH i' tells=cH i' (rm tells j)+if (i':Int)=a.1 then 1 else 0:=fun i'=>by
   have:=D2I (fun x:C7=>decide (x.1=(i':Int))) ha
   unfold cH
   rw [this]
   by_cases e:(i':Int)=a.1
   ·rw [if_pos e,if_pos (by simp [e])]
   ·rw [if_neg e,if_neg (by simp;omega)]
  have hpend:=h.cnt i b hb
  have hcti:=hct i
  rw [if_pos hai.symm] at hcti
  have hbt':b=true:=by
   cases b with
   | true=>rfl
   | false=>simp only [Bool.false_eq_true,if_false] at hpend;omega
  subst hbt'
  simp only [if_true] at hpend
  have hz:cW i asks=0∧cH i held=0∧cH i (rm tells j)=0:=by omega
  obtain ⟨hearG,he1,he2,he5,hov⟩:=D8G hg hfit
  have hrm:([]++(tells.take j).drop 0)++(tells.take tells.length).drop ((j:Int)+1).toNat=rm tells j:=by
   unfold rm
   rw [show ((j:Int)+1).toNat=j+1 by omega,List.drop_zero,List.take_length]
   rfl
  obtain ⟨who,resp⟩:=a
  simp only at hai hfit htold hearG he1 he2 he5 hov ha hct
  subst hai
  rw [A0 hr,A16 B2 ha]
  simp only [Bool.not_true,cond_false]
  rw [w64 (n:=(j:Int)+1) (by omega) (by omega),A0 (show (0:Int)≤(j:Int) by omega),A0 (show (j:Int)<(tells.length:Int) by omega),A0 (show (j:Int)≤(tells.length:Int) by omega),
   A0 (show (0:Int)≤(j:Int)+1 by omega),A0 (show (j:Int)+1≤(tells.length:Int) by omega),A0 (by simp;omega),A0 (by simp;omega),A0 (by simp;omega),A0 (by simp;omega),
   A0 (show (0:Int)≤(i:Int) by omega),A0 (show (i:Int)<(busy.length:Int) by omega),A0 (show (i:Int)<(cls.length:Int) by omega),A16 .bool hb,A16 C8o hcl,B7F,C4R,hov]
  simp only [cond_true,Bool.not_false,bO,Int.toNat_natCast]
  rw [hrm]
  rw [A0 (show (i:Int)<(best.length:Int) by omega),A16 (.int .i64) hbt]
  have main:∀ best',best'.length=cls.length→(∀ (i':Nat) (b':Int),best'[i']? = some b'→(i'≠i∧best[i']? = some b')∨(i' = i∧(b' = bt0∨b' = resp.2)))→
    WIw k (((st,held),(cls.set i (hear cl resp),(busy.set i false,(asks,(rm tells j,best'))))):A5):=fun best' hbl hbb=>by
   refine wiw (c:=c) (uc:=uc) ?_
   have hsetn:∀ (i':Nat) (x:A8),(cls.set i (hear cl resp))[i']? = some x→(i' = i∧x=hear cl resp)∨(i'≠i∧cls[i']? = some x):=fun i' x hx=>B1z hx
   have hget:∀ (i':Nat) (x:A8),i'≠i→cls[i']? = some x→(cls.set i (hear cl resp))[i']? = some x:=fun i' x hne hx=>by rw [List.getElem?_set_ne (fun e=>hne e.symm)];exact hx
   have hgeti:(cls.set i (hear cl resp))[i]? = some (hear cl resp):=by rw [List.getElem?_set_self hic]
   refine {h with n6:=by simp only [List.length_set];exact h.n6,lb:=by simp only [List.length_set];exact h.lb,lt:=by simp only [List.length_set];exact hbl,dist:=?_,cl:=?_,cnt:=?_,dn:=?_,ask:=?_,hld:=?_,tell:=?_,bst:=?_,ends:=?_,oku:=?_,l6:=?_}
   ·intro p q x y hx hy e
    rcases hsetn p x hx with ⟨e1,rfl⟩ | ⟨n1,hx1⟩<;>rcases hsetn q y hy with ⟨e2,rfl⟩ | ⟨n2,hy1⟩
    ·exact e1.trans e2.symm
    ·exact e1.trans (h.dist _ _ cl y hcl hy1 (by rw [← he1];exact e))
    ·exact (h.dist _ _ x cl hx1 hcl (by rw [← he1];exact e)).trans e2.symm
    ·exact h.dist _ _ x y hx1 hy1 e
   ·intro p x hx
    rcases hsetn p x hx with ⟨_,rfl⟩ | ⟨_,hx⟩
    ·exact hearG
    ·exact h.cl p x hx
   ·intro p b' hb'
    rcases B1z hb' with ⟨rfl,rfl⟩ | ⟨hne,hb'⟩
    ·simp only [Bool.false_eq_true,if_false];omega
    ·have h1:=h.cnt p b' hb'
     have h2:=hct p
     rw [if_neg (by omega)] at h2
     omega
   ·intro p x hx h5
    rcases hsetn p x hx with ⟨rfl,rfl⟩ | ⟨hne,hx⟩
    ·rw [List.getElem?_set_self (show p<busy.length by omega)]
    ·rw [List.getElem?_set_ne (fun e=>hne e.symm)]
     exact h.dn p x hx h5
   ·intro x hx
    obtain ⟨i',a',h1,h2,h3⟩:=h.ask x hx
    have hne:i'≠i:=fun e=>by
     subst e
     exact B7R hz.1 hx (decide_eq_true h2)
    exact ⟨i',a',hget i' a' hne h1,h2,h3⟩
   ·intro x hx
    obtain ⟨i',a',h1,h2,h3⟩:=h.hld x hx
    have hne:i'≠i:=fun e=>by
     subst e
     exact B7R hz.2.1 hx (decide_eq_true h2)
    exact ⟨i',a',hget i' a' hne h1,h2,h3⟩
   ·intro x hx
    obtain ⟨i',a',h1,h2,h3⟩:=h.tell x (C4s hx)
    have hne:i'≠i:=fun e=>by
     subst e
     exact B7R hz.2.2 hx (decide_eq_true h2)
    exact ⟨i',a',hget i' a' hne h1,h2,h3⟩
   ·intro p x b' hx hb'
    rcases hsetn p x hx with ⟨rfl,rfl⟩ | ⟨hne,hx⟩
    ·rw [he1]
     rcases hbb p b' hb' with ⟨hne,_⟩ | ⟨_,rfl | rfl⟩
     ·exact absurd rfl hne
     ·exact h.bst p cl _ hcl hbt
     ·exact htold.1
    ·rcases hbb p b' hb' with ⟨_,hb'⟩ | ⟨e,_⟩
     ·exact h.bst p x b' hx hb'
     ·exact absurd e hne
   ·intro p x hx h5
    rcases hsetn p x hx with ⟨rfl,rfl⟩ | ⟨hne,hx⟩
    ·obtain ⟨g1,g2⟩:=he5 h5
     rw [he1]
     exact htold.2 g1 g2
    ·exact h.ends p x hx h5
   ·intro u hu
    obtain ⟨i',a',h1,h2,h3⟩:=h.oku u hu
    by_cases e:i' = i
    ·subst e
     rw [hcl] at h1;injection h1 with h1;subst h1
     exact ⟨i',_,hgeti,by rw [he1];exact h2,by rw [he2];exact h3⟩
    ·exact ⟨i',a',hget i' a' e h1,h2,h3⟩
   ·have:=B7Q hjl;omega
  by_cases hgt:resp.2>bt0
  ·rw [A0 hgt]
   simp only [cond_true]
   refine ⟨true,_,rfl,main (best.set i resp.2) (by rw [List.length_set];exact hlt) fun i' b' hb'=>?_⟩
   rcases B1z hb' with ⟨e,rfl⟩ | ⟨hne,hb'⟩
   ·exact .inr ⟨e,.inr rfl⟩
   ·exact .inl ⟨hne,hb'⟩
  ·rw [A3 hgt]
   simp only [cond_true,cond_false]
   refine ⟨true,_,rfl,main best hlt fun i' b' hb'=>?_⟩
   by_cases e:i' = i
   ·subst e
    rw [hbt] at hb';injection hb' with hb'
    exact .inr ⟨rfl,.inl hb'.symm⟩
   ·exact .inl ⟨e,hb'⟩
 ·rw [A3 hr]
  exact ⟨false,_,rfl,same⟩
theorem C8p(l:List C7)(i:Int)(hl:l.length≤1048576):A2O l i=some (l.filter (fun x=>!decide (x.1=i)),()):=by
 simp only [A2O,A9X]
 refine D7 (A2z l i) (fun j=>((j:Int),(l.take j).filter (fun x=>!decide (x.1=i)),())) l.length (l.filter (fun x=>!decide (x.1=i)),()) (fun j hj=>?_) ?_
 ·have h1:((j:Int)<(l.length:Int)):=by omega
  have h2:(0:Int)≤(j:Int):=by omega
  have hlen:=List.length_filter_le (fun x:C7=>!decide (x.1=i)) (l.take j)
  rw [List.length_take] at hlen
  simp only [A2z,A0 h1,A0 h2,cond_true]
  rw [A16 B2 (List.getElem?_eq_getElem hj),w64 (by omega) (by omega),List.take_succ_eq_append_getElem hj,List.filter_append]
  by_cases e:l[j].1=i
  ·rw [A0 e]
   simp only [Bool.not_true,cond_false]
   have:([l[j]].filter fun x=>!decide (x.1=i)) = []:=by simp [e]
   rw [this,List.append_nil]
   rfl
  ·rw [A3 e]
   simp only [Bool.not_false,cond_true]
   rw [A0 (by simp;omega),A0 (by simp;omega)]
   have:([l[j]].filter fun x=>!decide (x.1=i)) = [l[j]]:=by simp [e]
   rw [this]
   rfl
 ·simp only [A2z,List.take_length]
  rw [A3 (by omega)]
  rfl
theorem D52(w:A5)(i:Int)(hl:w.2.2.2.1.length≤1048576):B8 (A1R w i) (0,[],())=some (w.2.2.2.1.filter (fun x=>!decide (x.1=i)),()):=by
 refine D7 (A1R w i) (fun j=>((j:Int),(w.2.2.2.1.take j).filter (fun x=>!decide (x.1=i)),())) w.2.2.2.1.length (w.2.2.2.1.filter (fun x=>!decide (x.1=i)),()) (fun j hj=>?_) ?_
 ·have h1:((j:Int)<(w.2.2.2.1.length:Int)):=by omega
  have h2:(0:Int)≤(j:Int):=by omega
  have hlen:=List.length_filter_le (fun x:L0=>!decide (x.1=i)) (w.2.2.2.1.take j)
  rw [List.length_take] at hlen
  simp only [A1R,A0 h1,A0 h2,cond_true]
  rw [A16 C9w (List.getElem?_eq_getElem hj),w64 (by omega) (by omega),List.take_succ_eq_append_getElem hj,List.filter_append]
  by_cases e:w.2.2.2.1[j].1=i
  ·rw [A0 e]
   simp only [Bool.not_true,cond_false]
   have:([w.2.2.2.1[j]].filter fun x=>!decide (x.1=i)) = []:=by simp [e]
   rw [this,List.append_nil]
   rfl
  ·rw [A3 e]
   simp only [Bool.not_false,cond_true]
   rw [A0 (by simp;omega),A0 (by simp;omega)]
   have:([w.2.2.2.1[j]].filter fun x=>!decide (x.1=i)) = [w.2.2.2.1[j]]:=by simp [e]
   rw [this]
   rfl
 ·simp only [A1R,List.take_length]
  rw [A3 (by omega)]
  rfl
theorem A6P{α:Type}{f:α→Int}{i j:Int}(hne:j≠i)(l:List α):(l.filter fun x=>!decide (f x=i)).countP (fun x=>decide (f x=j))=l.countP (fun x=>decide (f x=j)):=by
 rw [List.countP_filter]
 refine List.countP_congr fun x _=>?_
 simp only [Bool.and_eq_true,decide_eq_true_eq,Bool.not_eq_true',decide_eq_false_iff_not]
 omega
theorem A6Q{α:Type}{f:α→Int}{i:Int}(l:List α):(l.filter fun x=>!decide (f x=i)).countP (fun x=>decide (f x=i))=0:=by
 rw [List.countP_eq_zero]
 intro x hx
 have:=(List.mem_filter.1 hx).2
 simpa using this
theorem E31(k:Nat)(w:A5)(h:WIw k w)(i:Int)(hi:i<9223372036854775807):∃ b w',A4A w i=some (b,w',())∧WIw k w':=by
 obtain ⟨⟨st,held⟩,cls,busy,asks,tells,best⟩:=w
 obtain ⟨c,uc,h⟩:=h
 simp only at h
 have hn:=h.n6
 have hl6:=h.l6
 have hla:=h.la
 have hlh:=h.lh
 have hlb:=h.lb
 have hlt:=h.lt
 have same:WIw k (((st,held),(cls,(busy,(asks,(tells,best))))):A5):=⟨c,uc,h⟩
 simp only [A4A,B1U,N6,bO]
 rw [w64 (n:=(cls.length:Int)-1) (by omega) (by omega)]
 by_cases hr:0≤i∧i≤(cls.length:Int)-1
 ·obtain ⟨i,rfl⟩:∃ q:Nat,i=(q:Int):=⟨i.toNat,by omega⟩
  have hic:i<cls.length:=by omega
  obtain ⟨cl,hcl⟩:∃ x,cls[i]? = some x:=⟨_,List.getElem?_eq_getElem hic⟩
  have hg:=h.cl i cl hcl
  obtain ⟨_,h400,_⟩:=Y4 hg
  obtain ⟨cutG,he1,he2,he5⟩:=A7u hg
  rw [A0 hr,D52 (((st,held),(cls,(busy,(asks,(tells,best))))):A5) (i:Int) (by show asks.length≤_;omega),C8p tells _ (by omega),C8p held _ (by omega),A0 (show (0:Int)≤(i:Int) by omega),A0 (show (i:Int)<(cls.length:Int) by omega),A0 (show (i:Int)<(busy.length:Int) by omega),A16 C8o hcl,C1O cl (A94 hg) (by omega)]
  simp only [Bool.not_true,cond_false,cond_true,bO,Int.toNat_natCast]
  refine ⟨true,_,rfl,wiw (c:=c) (uc:=uc) ?_⟩
  have hsetn:∀ (i':Nat) (x:A8),(cls.set i (V7 cl))[i']? = some x→(i' = i∧x=V7 cl)∨(i'≠i∧cls[i']? = some x):=fun i' x hx=>B1z hx
  have hget:∀ (i':Nat) (x:A8),i'≠i→cls[i']? = some x→(cls.set i (V7 cl))[i']? = some x:=fun i' x hne hx=>by rw [List.getElem?_set_ne (fun e=>hne e.symm)];exact hx
  have hgeti:(cls.set i (V7 cl))[i]? = some (V7 cl):=by rw [List.getElem?_set_self hic]
  have hni:∀ {x:Int} {i':Nat},(!decide (x=(i:Int)))=true→x=(i':Int)→i'≠i:=fun hx e hh=>by
   subst hh;rw [e] at hx;simp at hx
  refine {h with n6:=by simp only [List.length_set];exact h.n6,lb:=by simp only [List.length_set];exact h.lb,lt:=by simp only [List.length_set];exact h.lt,dist:=?_,cl:=?_,cnt:=?_,dn:=?_,ask:=?_,hld:=?_,tell:=?_,bst:=?_,ends:=?_,oku:=?_,la:=Nat.le_trans (List.length_filter_le _ _) hla,l6:=Nat.le_trans (List.length_filter_le _ _) hl6,lh:=Nat.le_trans (List.length_filter_le _ _) hlh}
  ·intro p q x y hx hy e
   rcases hsetn p x hx with ⟨e1,rfl⟩ | ⟨n1,hx1⟩<;>rcases hsetn q y hy with ⟨e2,rfl⟩ | ⟨n2,hy1⟩
   ·exact e1.trans e2.symm
   ·exact e1.trans (h.dist _ _ cl y hcl hy1 (by rw [← he1];exact e))
   ·exact (h.dist _ _ x cl hx1 hcl (by rw [← he1];exact e)).trans e2.symm
   ·exact h.dist _ _ x y hx1 hy1 e
  ·intro p x hx
   rcases hsetn p x hx with ⟨_,rfl⟩ | ⟨_,hx⟩
   ·exact cutG
   ·exact h.cl p x hx
  ·intro p b' hb'
   rcases B1z hb' with ⟨rfl,rfl⟩ | ⟨hne,hb'⟩
   ·simp only [Bool.false_eq_true,if_false]
    have e1:cW p (asks.filter fun x=>!decide (x.1=(p:Int)))=0:=A6Q (f:=fun x:L0=>x.1) asks
    have e2:cH p (held.filter fun x=>!decide (x.1=(p:Int)))=0:=A6Q (f:=fun x:C7=>x.1) held
    have e3:cH p (tells.filter fun x=>!decide (x.1=(p:Int)))=0:=A6Q (f:=fun x:C7=>x.1) tells
    rw [e1,e2,e3]
   ·have h1:=h.cnt p b' hb'
    have hne':(p:Int)≠(i:Int):=by omega
    have e1:cW p (asks.filter fun x=>!decide (x.1=(i:Int)))=cW p asks:=A6P (f:=fun x:L0=>x.1) hne' asks
    have e2:cH p (held.filter fun x=>!decide (x.1=(i:Int)))=cH p held:=A6P (f:=fun x:C7=>x.1) hne' held
    have e3:cH p (tells.filter fun x=>!decide (x.1=(i:Int)))=cH p tells:=A6P (f:=fun x:C7=>x.1) hne' tells
    rw [e1,e2,e3]
    exact h1
  ·intro p x hx h5
   rcases hsetn p x hx with ⟨rfl,rfl⟩ | ⟨hne,hx⟩
   ·rw [List.getElem?_set_self (show p<busy.length by omega)]
   ·rw [List.getElem?_set_ne (fun e=>hne e.symm)]
    exact h.dn p x hx h5
  ·intro x hx
   obtain ⟨hx,hxi⟩:=List.mem_filter.1 hx
   obtain ⟨i',a',h1,h2,h3⟩:=h.ask x hx
   exact ⟨i',a',hget i' a' (hni hxi h2) h1,h2,h3⟩
  ·intro x hx
   obtain ⟨hx,hxi⟩:=List.mem_filter.1 hx
   obtain ⟨i',a',h1,h2,h3⟩:=h.hld x hx
   exact ⟨i',a',hget i' a' (hni hxi h2) h1,h2,h3⟩
  ·intro x hx
   obtain ⟨hx,hxi⟩:=List.mem_filter.1 hx
   obtain ⟨i',a',h1,h2,h3⟩:=h.tell x hx
   exact ⟨i',a',hget i' a' (hni hxi h2) h1,h2,h3⟩
  ·intro p x b' hx hb'
   rcases hsetn p x hx with ⟨rfl,rfl⟩ | ⟨hne,hx⟩
   ·rw [he1];exact h.bst p cl b' hcl hb'
   ·exact h.bst p x b' hx hb'
  ·intro p x hx h5
   rcases hsetn p x hx with ⟨rfl,rfl⟩ | ⟨hne,hx⟩
   ·rw [he1];exact h.ends p cl hcl (he5 h5)
   ·exact h.ends p x hx h5
  ·intro u hu
   obtain ⟨i',a',h1,h2,h3⟩:=h.oku u hu
   by_cases e:i' = i
   ·subst e
    rw [hcl] at h1;injection h1 with h1;subst h1
    exact ⟨i',_,hgeti,by rw [he1];exact h2,by rw [he2];exact h3⟩
   ·exact ⟨i',a',hget i' a' e h1,h2,h3⟩
 ·rw [A3 hr]
  exact ⟨false,_,rfl,same⟩
theorem E0M(k:Nat)(hk:k≤9999)(w:A5)(h:WIw k w)(ke:List Bool):∃ b w',A1S w ke=some (b,w',())∧WIw (k+1) w':=by
 obtain ⟨⟨st,held⟩,cls,busy,asks,tells,best⟩:=w
 obtain ⟨c,uc,h⟩:=h
 simp only at h
 have hn:=h.n6
 have hlb:=h.lb
 have hlt:=h.lt
 have hep:=h.ep
 obtain ⟨m,us,g1,g2,g3,g4,g5,g6,g7⟩:=D8C h.dur ke (by omega)
 have hfl:=D89 st.1 ke h.dur.g.dk
 have hop:O8 (D6r st.1 ke)=_:=D8D g7
 simp only [A1S,A7X,hfl,hop,bO,Bool.not_true,cond_false]
 have key:=D7 (A22 A1P) (fun j=>((j:Int),(Y3 (U8 st.1.1 st.1.2 ke) us).2.1,(Y3 (U8 st.1.1 st.1.2 ke) us).2.2.1,(Y3 (U8 st.1.1 st.1.2 ke) us).2.2.2,([]:List L0),([]:List C7),A72 (cls.map V7) cls j,A72 (List.replicate cls.length false) busy j,best,(Y3 (U8 st.1.1 st.1.2 ke) us).1.1,(Y3 (U8 st.1.1 st.1.2 ke) us).1.2,())) cls.length
  (true,(((((Y3 (U8 st.1.1 st.1.2 ke) us).1.1,(Y3 (U8 st.1.1 st.1.2 ke) us).1.2),((Y3 (U8 st.1.1 st.1.2 ke) us).2.1,((Y3 (U8 st.1.1 st.1.2 ke) us).2.2.1,(Y3 (U8 st.1.1 st.1.2 ke) us).2.2.2))),[]),(cls.map V7,(List.replicate cls.length false,([],([],best))))),()) (fun j hj=>?_) ?_
 ·refine ⟨true,_,key,wiw (c:=m) (uc:=us) ?_⟩
  have hle:B7O us st.2.2.2:=by
   have h1:=h.dur.g.up
   rw [← List.take_length (l:=B7 st.1.1)] at h1
   exact C0E g2 g4 h1 h.nd
  have hle2:B7O uc us:=C0E g1 h.fuc g4 h.nd
  have hsc:B7 (Y3 (U8 st.1.1 st.1.2 ke) us).1.1=(B7 st.1.1).take m:=g3
  have hlen:((B7 st.1.1).take m).length=m:=by rw [List.length_take];omega
  have hdur:=D4y g7
  rw [g3,hlen] at hdur
  have hmap:∀ (i:Nat) (x:A8),(cls.map V7)[i]? = some x→∃ a,cls[i]? = some a∧x=V7 a:=fun i x hx=>by
   rw [List.getElem?_map] at hx
   cases ha:cls[i]? with
   | none=>rw [ha] at hx;cases hx
   | some a=>rw [ha] at hx;injection hx with hx;exact ⟨a,rfl,hx.symm⟩
  exact {
   dur:=hdur
   ep:=by show A5N (U8 st.1.1 st.1.2 ke)+1≤((k+1:Nat):Int);omega
   nd:=fun r hr=>by rw [hsc] at hr;exact h.nd r (List.mem_of_mem_take hr)
   fuc:=by rw [hsc,List.take_take,Nat.min_self];exact g4
   n6:=by rw [List.length_map];exact h.n6
   lb:=by rw [List.length_map,List.length_replicate]
   lt:=by rw [List.length_map];exact h.lt
   dist:=fun p q x y hx hy e=>by
    obtain ⟨a,ha,rfl⟩:=hmap p x hx
    obtain ⟨b,hb,rfl⟩:=hmap q y hy
    rw [(A7u (h.cl p a ha)).2.1,(A7u (h.cl q b hb)).2.1] at e
    exact h.dist p q a b ha hb e
   cl:=fun p x hx=>by
    obtain ⟨a,ha,rfl⟩:=hmap p x hx
    exact (A7u (h.cl p a ha)).1
   cnt:=fun p b hb=>by
    have:=(List.mem_replicate.1 (List.mem_of_getElem? hb)).2
    subst this
    rfl
   dn:=fun p x hx h5=>by
    obtain ⟨a,ha,rfl⟩:=hmap p x hx
    have hp:=(List.getElem?_eq_some_iff.1 ha).1
    rw [List.getElem?_replicate,if_pos hp]
   ask:=fun x hx=>by cases hx
   hld:=fun x hx=>by cases hx
   tell:=fun x hx=>by cases hx
   bst:=fun p x b hx hb=>by
    obtain ⟨a,ha,rfl⟩:=hmap p x hx
    rw [(A7u (h.cl p a ha)).2.1]
    rcases h.bst p a b ha hb with h1 | ⟨u,hu,e,hl⟩
    ·exact .inl h1
    ·obtain ⟨v,hv,hlu⟩:=hle2 u hu
     have:=hlu.len
     exact .inr ⟨v,hv,hlu.id.symm.trans e,by omega⟩
   ends:=fun p x hx h5=>by
    obtain ⟨a,ha,rfl⟩:=hmap p x hx
    obtain ⟨_,e1,_,e5⟩:=A7u (h.cl p a ha)
    rw [e1]
    obtain ⟨u,hu,e,hd⟩:=h.ends p a ha (e5 h5)
    obtain ⟨v,hv,hlu⟩:=hle2 u hu
    exact ⟨v,hv,hlu.id.symm.trans e,(hlu.fin hd).1⟩
   oku:=fun u hu=>by
    obtain ⟨v,hv,hlu⟩:=hle u hu
    obtain ⟨i,a,ha,e,hok⟩:=h.oku v hv
    obtain ⟨_,e1,e2,_⟩:=A7u (h.cl i a ha)
    exact ⟨i,V7 a,by rw [List.getElem?_map,ha];rfl,by rw [e1];exact hlu.id.trans e,by rw [e2];exact E2z hlu hok⟩
   la:=Nat.zero_le _
   l6:=Nat.zero_le _
   lh:=Nat.zero_le _}
 ·have hlm:(cls.map V7).length=cls.length:=List.length_map _
  have hlr:(List.replicate cls.length false).length=busy.length:=by rw [List.length_replicate];omega
  have l1:=B8S (l:=cls.map V7) (x:=cls) hlm j
  have l2:=B8S (l:=List.replicate cls.length false) (x:=busy) hlr j
  have gc:=C4l (l:=cls.map V7) (x:=cls) hlm hj
  rw [List.getElem?_eq_getElem hj] at gc
  have hg:=h.cl j _ (List.getElem?_eq_getElem hj)
  obtain ⟨_,h400,_⟩:=Y4 hg
  simp only [A22,l1,l2]
  rw [A0 (show (j:Int)<(cls.length:Int) by omega),A0 (show (0:Int)≤(j:Int) by omega),A16 C8o gc,C1O _ (A94 hg) (by omega),A0 (show (j:Int)<(busy.length:Int) by omega),w64 (by omega) (by omega)]
  simp only [cond_true,bO,Int.toNat_natCast]
  have e1:=B8T (l:=cls.map V7) (x:=cls) hlm (i:=j) (by omega)
  have e2:=B8T (l:=List.replicate cls.length false) (x:=busy) hlr (i:=j) (by rw [List.length_replicate];exact hj)
  rw [List.getElem_map] at e1
  rw [List.getElem_replicate] at e2
  rw [e1,e2]
  rfl
 ·have e1:A72 (cls.map V7) cls cls.length=cls.map V7:=by unfold A72;rw [List.drop_length,List.append_nil,List.take_of_length_le (by simp)]
  have e2:A72 (List.replicate cls.length false) busy cls.length=List.replicate cls.length false:=by unfold A72;rw [← hlb,List.drop_length,List.append_nil,List.take_of_length_le (by simp)]
  simp only [A22,e1,e2,List.length_map]
  rw [A3 (by omega)]
  rfl
theorem B5O{k:Nat}{w:A5}(h:WIw k w):WIw (k+1) w:=by
 obtain ⟨c,uc,h⟩:=h
 exact ⟨c,uc,{h with ep:=by have:=h.ep;omega}⟩
theorem E32(k:Nat)(hk:k≤9999)(w:A5)(h:WIw k w)(e:B3R)(he:e.2.1<9223372036854775807):∃ b w',A3Y w e=some (b,w',())∧WIw (k+1) w':=by
 simp only [A3Y,B3d]
 by_cases h1:e.1=1
 ·obtain ⟨b,w',q,hw⟩:=D6u k w h e.2.1 he
  rw [A0 h1,q]
  exact ⟨b,w',rfl,B5O hw⟩
 rw [A3 h1]
 by_cases h2:e.1=2
 ·obtain ⟨b,w',q,hw⟩:=D2J k w h e.2.1 he
  rw [A0 h2,q]
  exact ⟨b,w',rfl,B5O hw⟩
 rw [A3 h2]
 by_cases h3:e.1=3
 ·obtain ⟨b,w',q,hw⟩:=D6v k w h
  rw [A0 h3,q]
  exact ⟨b,w',rfl,B5O hw⟩
 rw [A3 h3]
 by_cases h4:e.1=4
 ·obtain ⟨b,w',q,hw⟩:=D6w k w h e.2.1 he
  rw [A0 h4,q]
  exact ⟨b,w',rfl,B5O hw⟩
 rw [A3 h4]
 by_cases h5:e.1=5
 ·obtain ⟨b,w',q,hw⟩:=E31 k w h e.2.1 he
  rw [A0 h5,q]
  exact ⟨b,w',rfl,B5O hw⟩
 rw [A3 h5]
 by_cases h6:e.1=6
 ·obtain ⟨b,w',q,hw⟩:=E0M k hk w h e.2.2
  rw [A0 h6,q]
  exact ⟨b,w',rfl,hw⟩
 rw [A3 h6]
 exact ⟨false,w,rfl,B5O h⟩
def C0F(id:ByteArray)(f:List Int):P3:=if G5 (id,f,1,0) then (id,f,1,0) else (⟨#[]⟩,[],0,0)
theorem C4t(id:ByteArray)(f:List Int)(h:id.size≤maxLen)(h2:f.length≤140737488355328):Y8 id f=some (C0F id f,()):=by
 simp only [Y8,A9Y]
 rw [A0 (by simp;omega),A0 (by simp;omega)]
 simp only [cond_true,List.nil_append]
 rw [A2Z _ h]
 simp only [A4,C0F]
 cases G5 (id,f,1,0)<;>simp
theorem C9x{c:A8}{r:Q8}(hc:ClG c)(h:Fits c r):S6 r=true:=by
 have hlen:c.2.1.length≤400:=(Y4 hc).2.1
 have key:∀ a b:Int,(100≤a∧a≤599)→(-1≤b∧b≤1000000000)→S6 (a,b)=true:=fun a b h1 h2=>by
  simp only [S6]
  rw [A0 h1,A0 h2]
  rfl
 rcases h with ⟨_,h⟩ | ⟨_,h⟩ | ⟨_,h⟩ | ⟨_,h⟩
 ·rcases h with rfl | ⟨o,ho,rfl⟩ | rfl<;>exact key _ _ (by omega) (by omega)
 ·rcases h with rfl | ⟨o,ho,rfl⟩<;>exact key _ _ (by omega) (by omega)
 ·rcases h with ⟨o,ho,rfl | rfl⟩ | rfl | rfl<;>exact key _ _ (by omega) (by omega)
 ·rcases h with rfl | rfl | ⟨o,ho,rfl⟩ | rfl<;>exact key _ _ (by omega) (by omega)
theorem D53{c:A8}{r:A1w}{d:List Int}(hc:ClG c)(hq:H5 c=(r,d,true,())):A0z r=true∧r.2.1.size≤1048576∧d.length≤400:=by
 obtain ⟨hid,h400,_,_,o0,o1⟩:=Y4 hc
 have hcs:=A94 hc
 have hx:A63 c.2.1 ^^^ 4294967295<2 ^ 32:=Nat.xor_lt_two_pow (A8v hc.byt) (by omega)
 have h8:c.1.size≤8:=by simp only [idB,Bool.and_eq_true,decide_eq_true_eq] at hid;omega
 have hl:=B3q c
 have key:∀ a b:Int,(1≤a∧a≤6)→(0≤b∧b≤B1u a)→A0z (a,(c.1,b))=true:=fun a b h1 h2=>by
  simp only [A0z]
  rw [A0 h1,A0 h2,hid]
  rfl
 have e:(H5 c).2.2.1=true→A0z (H5 c).1=true∧(H5 c).1.2.1.size≤1048576:=by
  unfold H5 C1J
  repeat' split
  all_goals first | exact fun h=>⟨key _ _ (by omega) (by simp [B1u]<;>omega),by show c.1.size≤_;omega⟩ | (intro h;cases h)
 rw [hq] at e hl
 obtain ⟨e1,e2⟩:=e rfl
 exact ⟨e1,e2,by have:d.length≤c.2.1.length:=hl;omega⟩
theorem C4u{α:Type}{l:List α}{i:Nat}{x:α}(h:l[i]? = some x):i<l.length:=(List.getElem?_eq_some_iff.1 h).1
theorem D2K{cls:List A8}(hc:∀ (i:Nat) (a:A8),cls[i]? = some a→ClG a){l:List C7}(h:∀ h∈l,∃ (i:Nat) (cl:A8),cls[i]? = some cl∧h.1=(i:Int)∧Fits cl h.2):A10 cls.length l=true:=by
 unfold A10
 refine List.all_eq_true.2 fun i hi=>?_
 have hi:=List.mem_range.1 hi
 rw [C8 (k:=B2) (xs:=l) hi]
 obtain ⟨j,cl,g1,g2,g3⟩:=h _ (List.getElem_mem hi)
 have:=C4u g1
 simp only [C8f]
 rw [C9x (hc j cl g1) g3,A0 (by omega)]
 rfl
theorem D54{k c:Nat}{uc:List TUp}{st:A7}{held cls busy asks tells best}(h:WI k c uc st held cls busy asks tells best):V2 (((st,held),(cls,(busy,(asks,(tells,best))))):A5)=some (true,()):=by
 have hn:=h.n6
 have hlb:=h.lb
 have hlt:=h.lt
 have inner:∀ i,i<cls.length→B8 (K8 ((i:Int),()) (((st,held),(cls,(busy,(asks,(tells,best))))):A5)) (0,())=some (.inl (((i+1:Nat):Int),())):=fun i hi=>by
  refine D7 _ (fun j=>((j:Int),())) i _ (fun j hj=>?_) ?_
  ·have hne:¬ ((rd A9 cls (j:Int)).1.toList == (rd A9 cls (i:Int)).1.toList)=true:=fun e=>by
    simp only [beq_iff_eq] at e
    have e2:=B8N e
    rw [C8 (k:=A9) (xs:=cls) hi,C8 (k:=A9) (xs:=cls) (show j<cls.length by omega)] at e2
    have:=h.dist j i _ _ (List.getElem?_eq_getElem (show j<cls.length by omega)) (List.getElem?_eq_getElem hi) e2
    omega
   simp only [K8]
   rw [A0 (show (j:Int)<(i:Int) by omega),A0 (show (0:Int)≤(j:Int) by omega),A0 (show (j:Int)<(cls.length:Int) by omega),A0 (show (0:Int)≤(i:Int) by omega),A0 (show (i:Int)<(cls.length:Int) by omega),Bool.eq_false_iff.2 hne,w64 (by omega) (by omega)]
   rfl
  ·simp only [K8]
   rw [A3 (by omega),w64 (by omega) (by omega)]
   rfl
 simp only [V2,A45]
 have key:=D7 (G3 F9 (((st,held),(cls,(busy,(asks,(tells,best))))):A5)) (fun j=>((j:Int),())) cls.length (.inl ()) (fun i hi=>?_) ?_
 ·have key':B8 (G3 F9 (((st,held),(cls,(busy,(asks,(tells,best))))):A5)) (0,())=_:=key
  rw [key']
  simp only [B6]
  rw [A0 (by omega),A0 (by omega),A0 (by omega)]
  rfl
 ·have hg:=h.cl i _ (List.getElem?_eq_getElem hi)
  have hr:=C8 (k:=A9) (xs:=cls) hi
  simp only [G3]
  rw [A0 (show (i:Int)<(cls.length:Int) by omega),A0 (show (0:Int)≤(i:Int) by omega),hr,A2Z _ (A94 hg),hg.ok,inner i hi]
  rfl
 ·simp only [G3]
  rw [A3 (by omega)]
  rfl
theorem D6x{k c:Nat}{uc:List TUp}{st:A7}{held cls busy asks tells best}(h:WI k c uc st held cls busy asks tells best):Sm 1048576 S9 (((st,held),(cls,(busy,(asks,(tells,best))))):A5)∧E1m (((st,held),(cls,(busy,(asks,(tells,best))))):A5):=by
 obtain ⟨hR,hS,hok⟩:=B5N h
 have hU:=hR.up
 have hn:=h.n6
 have hlb:=h.lb
 have hlt:=h.lt
 have h60:=h.la
 have h6:=h.l6
 have h200:=h.lh
 have hu:∀ u∈st.2.2.2,u.1.size≤8∧List.length u.2.2.1≤400∧Byt u.2.2.1:=fun u hu=>by
  obtain ⟨i,a,h1,_,h3⟩:=h.oku u hu
  have:=h3.len
  have:=(Y4 (h.cl i a h1)).2.1
  have hg:=hU.2.2 u hu
  exact ⟨hg.2.2.1,by omega,hg.2.2.2⟩
 have hc:∀ x∈cls,x.1.size≤8∧x.2.1.length≤400∧Byt x.2.1:=fun x hx=>by
  obtain ⟨i,hi,rfl⟩:=List.getElem_of_mem hx
  have hg:=h.cl i _ (List.getElem?_eq_getElem hi)
  obtain ⟨hid,h4,_⟩:=Y4 hg
  exact ⟨by simp only [idB,Bool.and_eq_true,decide_eq_true_eq] at hid;omega,h4,hg.byt⟩
 refine ⟨⟨⟨⟨⟨⟨hR.dk.1.1,fun x hx=>hR.dk.1.2 x hx⟩,⟨hR.dk.2.1,fun x hx=>hR.dk.2.2 x hx⟩⟩,trivial,trivial,⟨by have:=hU.2.1;show List.length st.2.2.2≤_;omega,fun u hm=>?_⟩⟩,⟨by show held.length≤_;omega,fun x _=>⟨trivial,trivial,trivial⟩⟩⟩,⟨by show cls.length≤_;omega,fun x hx=>?_⟩,⟨by show busy.length≤_;omega,fun _ _=>trivial⟩,⟨by show asks.length≤_;omega,fun x hx=>?_⟩,⟨by show tells.length≤_;omega,fun x _=>⟨trivial,trivial,trivial⟩⟩,⟨by show best.length≤_;omega,fun _ _=>trivial⟩⟩,fun u hm=>(hu u hm).2.2,fun x hx=>(hc x hx).2.2⟩
 ·obtain ⟨g1,g2,_⟩:=hu u hm
  exact ⟨by show u.1.size≤_;omega,trivial,⟨by show List.length u.2.2.1≤_;omega,fun _ _=>trivial⟩,trivial⟩
 ·obtain ⟨g1,g2,_⟩:=hc x hx
  exact ⟨by show x.1.size≤_;omega,⟨by show x.2.1.length≤_;omega,fun _ _=>trivial⟩,trivial,trivial⟩
 ·obtain ⟨i,cl,g1,_,g3⟩:=h.ask x hx
  obtain ⟨_,q2,q3⟩:=D53 (h.cl i cl g1) g3
  exact ⟨trivial,⟨trivial,q2,trivial⟩,⟨by show List.length x.2.2≤_;omega,fun _ _=>trivial⟩⟩
theorem C4v{k:Nat}{w:A5}(h:WIw k w):X6 w=some (true,())∧A0K w=some (true,()):=by
 obtain ⟨⟨st,held⟩,cls,busy,asks,tells,best⟩:=w
 obtain ⟨c,uc,h⟩:=h
 simp only at h
 obtain ⟨hR,hS,hok⟩:=B5N h
 have hn:=h.n6
 have h60:=h.la
 have h6:=h.l6
 have h200:=h.lh
 have hcls:D7z (((st,held),(cls,(busy,(asks,(tells,best))))):A5):=⟨by show cls.length≤_;omega,fun x hx=>by
  obtain ⟨i,hi,rfl⟩:=List.getElem_of_mem hx
  exact A94 (h.cl i _ (List.getElem?_eq_getElem hi))⟩
 have hask:∀ a∈asks,a.2.1.2.1.size≤1048576:=fun a ha=>by
  obtain ⟨i,cl,g1,_,g3⟩:=h.ask a ha
  exact (D53 (h.cl i cl g1) g3).2.1
 have hW:E2x (((st,held),(cls,(busy,(asks,(tells,best))))):A5):=⟨hR.dk.1,by show held.length≤_;omega,hcls,⟨by show asks.length≤_;omega,fun a ha=>by have:=hask a ha;simp only [maxLen];omega⟩,by show tells.length≤_;omega⟩
 obtain ⟨b,e1,e2⟩:=C4f _ hW
 have hsv:A0T (st,held)=some (true,()):=by
  simp only [A0T,A6r]
  have key:=D7 (L8 Q5 ((st,held):D5)) (fun j=>((j:Int),())) held.length (.inl ()) (fun i hi=>?_) ?_
  ·have key':B8 (L8 Q5 ((st,held):D5)) (0,())=_:=key
   rw [key']
   simp only [B6]
   rw [A0 (by omega),hok]
   rfl
  ·obtain ⟨j,cl,g1,_,g3,_⟩:=h.hld _ (List.getElem_mem hi)
   simp only [L8]
   rw [A0 (show (i:Int)<(held.length:Int) by omega),A0 (show (0:Int)≤(i:Int) by omega),C8 (k:=B2) (xs:=held) hi,A8w,C9x (h.cl j cl g1) g3,w64 (by omega) (by omega)]
   rfl
  ·simp only [L8]
   rw [A3 (by omega)]
   rfl
 have hwho:=B8L (((st,held),(cls,(busy,(asks,(tells,best))))):A5) tells (by simp only [maxLen];omega) hcls.1
 have hwho2:=B8L (((st,held),(cls,(busy,(asks,(tells,best))))):A5) held (by simp only [maxLen];omega) hcls.1
 rw [show A10 (List.length (((st,held),(cls,(busy,(asks,(tells,best))))):A5).2.1) tells=true from D2K h.cl fun x hx=>by obtain ⟨i,cl,g1,g2,g3,_⟩:=h.tell x hx;exact ⟨i,cl,g1,g2,g3⟩] at hwho
 rw [show A10 (List.length (((st,held),(cls,(busy,(asks,(tells,best))))):A5).2.1) held=true from D2K h.cl fun x hx=>by obtain ⟨i,cl,g1,g2,g3,_⟩:=h.hld x hx;exact ⟨i,cl,g1,g2,g3⟩] at hwho2
 have hs:X6 (((st,held),(cls,(busy,(asks,(tells,best))))):A5)=some (true,()):=by
  simp only [X6,A8i,hsv,D54 h,hwho,hwho2,bO]
  rw [A3 (show ¬ (asks.length:Int)>60 by omega),A3 (show ¬ (tells.length:Int)>60 by omega)]
  have key:=D7 (Y9 A59 E1 (((st,held),(cls,(busy,(asks,(tells,best))))):A5)) (fun j=>((j:Int),())) asks.length (true,()) (fun i hi=>?_) ?_
  ·exact key
  ·obtain ⟨j,cl,g1,g2,g3⟩:=h.ask _ (List.getElem_mem hi)
   obtain ⟨q1,q2,_⟩:=D53 (h.cl j cl g1) g3
   have:=C4u g1
   simp only [Y9]
   rw [A0 (show (i:Int)<(asks.length:Int) by omega),A0 (show (0:Int)≤(i:Int) by omega),C8 (k:=F8) (xs:=asks) hi,N6,w64 (n:=(cls.length:Int)-1) (by omega) (by omega),g2,A0 (show (0:Int)≤(j:Int)∧(j:Int)≤(cls.length:Int)-1 by omega),C4d _ (by simp only [maxLen];omega),q1,w64 (by omega) (by omega)]
   rfl
  ·simp only [Y9]
   rw [A3 (by omega)]
   rfl
 rw [hs] at e1
 injection e1 with e1;injection e1 with e1
 subst e1
 exact ⟨hs,e2⟩
theorem B7S(st:A7)(id:ByteArray):(∃ u∈st.2.2.2,u.1=id∧A7q st id=(u,true,()))∨A7q st id=E2u:=by
 unfold A7q
 split
 ·rename_i hlt
  have hf:=A4P (fun j=>!((rd kUp st.2.2.2 (j:Int)).1.toList == id.toList)) st.2.2.2.length 0 (by unfold B3s at hlt;omega)
  have hf2:(!((rd kUp st.2.2.2 (B3s st.2.2.2 id:Int)).1.toList == id.toList))=false:=hf
  rw [C8 (k:=kUp) (xs:=st.2.2.2) hlt] at hf2 ⊢
  simp only [Bool.not_eq_false',beq_iff_eq] at hf2
  exact .inl ⟨_,List.getElem_mem hlt,B8N hf2,rfl⟩
 ·exact .inr rfl
theorem E0N{a b:List Int}(hl:a.length≤b.length)(h:a=b.take a.length):beg a b=true:=by
 unfold beg
 rw [A0 hl,Bool.true_and]
 refine List.all_eq_true.2 fun i hi=>?_
 have hi:=List.mem_range.1 hi
 rw [C8 (k:=.int .u8) (xs:=a) hi,C8 (k:=.int .u8) (xs:=b) (by omega)]
 refine decide_eq_true ?_
 have:a[i]? = (b.take a.length)[i]?:=by rw [← h]
 rw [List.getElem?_take_of_lt hi,List.getElem?_eq_getElem hi,List.getElem?_eq_getElem (by omega)] at this
 injection this
theorem E1w{k:Nat}{w:A5}(h:WIw k w):(List.range w.2.1.length).all (be w)=true∧(List.range w.2.1.length).all (nl w)=true∧(List.range w.2.1.length).all (en w)=true:=by
 obtain ⟨⟨st,held⟩,cls,busy,asks,tells,best⟩:=w
 obtain ⟨c,uc,h⟩:=h
 simp only at h
 obtain ⟨hR,hS,hok⟩:=B5N h
 have hn:=h.n6
 have hlt:=h.lt
 obtain ⟨hsm,hby⟩:=D6x h
 have ho:Ord st.2.2.2:=hR.up.1
 have hle:=E0K h
 have fnd:∀ (i:Nat) (hi:i<cls.length),∀ u∈st.2.2.2,u.1=(cls[i]).1→OkU (cls[i]).2.1 u:=fun i hi u hu e=>by
  obtain ⟨j,a,g1,g2,g3⟩:=h.oku u hu
  have:=h.dist j i a _ g1 (List.getElem?_eq_getElem hi) (by rw [← g2,e])
  subst this
  rw [List.getElem?_eq_getElem hi] at g1
  injection g1 with g1
  rw [g1];exact g3
 have hrd:∀ (i:Nat) (hi:i<cls.length),rd A9 cls (i:Int)=cls[i]:=fun i hi=>C8 (k:=A9) (xs:=cls) hi
 have hbe:(List.range cls.length).all (be (((st,held),(cls,(busy,(asks,(tells,best))))):A5))=true:=List.all_eq_true.2 fun i hi=>by
  have hi:=List.mem_range.1 hi
  simp only [be,A64,hrd i hi]
  rcases B7S st (cls[i]).1 with ⟨u,hu,e,q⟩ | q
  ·have hk:=fnd i hi u hu e
   rw [q]
   simp only [Bool.not_true,Bool.false_or]
   rw [E0N hk.len hk.dat,Bool.true_and]
   exact decide_eq_true hk.want
  ·rw [q];rfl
 have hnl:(List.range cls.length).all (nl (((st,held),(cls,(busy,(asks,(tells,best))))):A5))=true:=List.all_eq_true.2 fun i hi=>by
  have hi:=List.mem_range.1 hi
  have hib:i<best.length:=by omega
  have hr:C06 (((st,held),(cls,(busy,(asks,(tells,best))))):A5) i=best[i]:=C8 (k:=.int .i64) (xs:=best) hib
  simp only [nl,hr,A64,hrd i hi]
  rcases h.bst i _ _ (List.getElem?_eq_getElem hi) (List.getElem?_eq_getElem hib) with e | ⟨u,hu,e,hl⟩
  ·rw [A0 e];rfl
  ·obtain ⟨v,hv,hlu⟩:=hle u hu
   have:=hlu.len
   have q:=C4o ho hv
   rw [← hlu.id,e] at q
   rw [q]
   simp only
   rw [A3 (show ¬ (List.length v.2.2.1:Int)<best[i] by omega)]
   simp
 have hen:(List.range cls.length).all (en (((st,held),(cls,(busy,(asks,(tells,best))))):A5))=true:=List.all_eq_true.2 fun i hi=>by
  have hi:=List.mem_range.1 hi
  simp only [en,A64,hrd i hi]
  by_cases h5:(cls[i]).2.2.1=5
  ·obtain ⟨u,hu,e,hd⟩:=h.ends i _ (List.getElem?_eq_getElem hi) h5
   obtain ⟨v,hv,hlu⟩:=hle u hu
   have q:=C4o ho hv
   rw [← hlu.id,e] at q
   have hdv:=(hlu.fin hd).1
   have hk:=fnd i hi v hv (hlu.id.symm.trans e)
   have h2:=hk.dat
   rw [hk.fin hdv,List.take_length] at h2
   rw [q]
   simp only [hdv,Bool.true_and,h2]
   simp
  ·rw [A3 h5];rfl
 exact ⟨hbe,hnl,hen⟩
theorem E0O{k:Nat}{w:A5}(h:WIw k w):A7a w=some (true,())∧A5z w=some (true,())∧B3e w=some (true,())∧A2T w=some (true,()):=by
 obtain ⟨hbe,hnl,hen⟩:=E1w h
 obtain ⟨⟨st,held⟩,cls,busy,asks,tells,best⟩:=w
 obtain ⟨c,uc,h⟩:=h
 simp only at h hbe hnl hen
 have hn:=h.n6
 have hlt:=h.lt
 obtain ⟨hsm,hby⟩:=D6x h
 have hrd:∀ (i:Nat) (hi:i<cls.length),rd A9 cls (i:Int)=cls[i]:=fun i hi=>C8 (k:=A9) (xs:=cls) hi
 have q2:=D1c _ hsm hby
 have q4:=C9k _ hsm
 have q6:=D7u _ hsm
 refine ⟨by rw [q2];exact congrArg (fun b=>some (b,())) hbe,?_,by rw [q6];exact congrArg (fun b=>some (b,())) hen,?_⟩
 ·rw [q4]
  refine congrArg (fun b=>some (b,())) (List.all_eq_true.2 fun i hi=>?_)
  have h1:=List.all_eq_true.1 hnl i hi
  simp only
  split
  ·rfl
  ·exact h1
 ·simp only [A2T,A9a]
  have key:=D7 (A30 (((st,held),(cls,(busy,(asks,(tells,best))))):A5)) (fun j=>((j:Int),())) cls.length (true,()) (fun i hi=>?_) ?_
  ·exact key
  ·have hg:=h.cl i _ (List.getElem?_eq_getElem hi)
   simp only [A30]
   rw [A0 (show (i:Int)<(cls.length:Int) by omega),A0 (show (0:Int)≤(i:Int) by omega),hrd i hi,A3 hg.lo,w64 (by omega) (by omega)]
   rfl
  ·simp only [A30]
   rw [A3 (by omega)]
   rfl
theorem B20(c:G9)(n:Int)(h:Cur c)(hn:n<9223372036854775808):∃ r c',L3 c n=some (r,c',())∧Cur c'∧0≤r∧(r<n∨r=0):=by
 by_cases h0:n≤0
 ·refine ⟨0,c,?_,h,Int.le_refl _,.inr rfl⟩
  simp only [L3,A8V]
  rw [A0 h0]
  rfl
 ·obtain ⟨r,c',e,h1,h2,h3⟩:=A7r c n h (by omega)
  exact ⟨r,c',e,h1,h2,.inl h3⟩
theorem D2L(c:G9)(w:A5)(h:Cur c)(h1:w.2.1.length≤1000)(h2:w.2.2.2.1.length≤1000)(h3:w.2.2.2.2.1.length≤1000) :
  ∃ e c',J6 c w=some (e,c',w,())∧Cur c'∧e.2.1<9223372036854775807:=by
 obtain ⟨k,c1,q1,hc1,k0,k1⟩:=A7r c 12 h (by omega)
 simp only [J6,A0B,q1,bO]
 obtain ⟨b0,m0⟩:∃ b,(bif decide (k=0) then (some (decide (k=0),()):Option (Bool×Unit)) else bif decide (k=1) then some (decide (k=1),()) else some (decide (k=2),()))=some (b,()):=by
  cases decide (k=0)<;>cases decide (k=1)<;>exact ⟨_,rfl⟩
 rw [m0]
 simp only [bO]
 cases b0 with
 | true=>
  obtain ⟨r,c2,q2,hc2,r0,r1⟩:=B20 c1 (w.2.1.length:Int) hc1 (by omega)
  simp only [cond_true,q2,bO,B6]
  exact ⟨_,_,rfl,hc2,by simp only;omega⟩
 | false=>
 simp only [cond_false]
 obtain ⟨b1,m1⟩:∃ b,(bif decide (k=3) then (some (decide (k=3),()):Option (Bool×Unit)) else bif decide (k=4) then some (decide (k=4),()) else some (decide (k=5),()))=some (b,()):=by
  cases decide (k=3)<;>cases decide (k=4)<;>exact ⟨_,rfl⟩
 rw [m1]
 simp only [bO]
 cases b1 with
 | true=>
  obtain ⟨r,c2,q2,hc2,r0,r1⟩:=B20 c1 (IntKind.i64.wrap ((w.2.2.2.1.length:Int)+1)) hc1 (by rw [w64 (by omega) (by omega)];omega)
  rw [w64 (by omega) (by omega)] at r1
  simp only [cond_true,q2,bO,B6]
  exact ⟨_,_,rfl,hc2,by simp only;omega⟩
 | false=>
 simp only [cond_false]
 obtain ⟨b2,m2⟩:∃ b,(bif decide (k=6) then (some (decide (k=6),()):Option (Bool×Unit)) else some (decide (k=7),()))=some (b,()):=by
  cases decide (k=6)<;>exact ⟨_,rfl⟩
 rw [m2]
 simp only [bO]
 cases b2 with
 | true=>
  simp only [cond_true,B6]
  exact ⟨_,_,rfl,hc1,by simp only;omega⟩
 | false=>
 simp only [cond_false]
 obtain ⟨b3,m3⟩:∃ b,(bif decide (k=8) then (some (decide (k=8),()):Option (Bool×Unit)) else some (decide (k=9),()))=some (b,()):=by
  cases decide (k=8)<;>exact ⟨_,rfl⟩
 rw [m3]
 simp only [bO]
 cases b3 with
 | true=>
  obtain ⟨r,c2,q2,hc2,r0,r1⟩:=B20 c1 (IntKind.i64.wrap ((w.2.2.2.2.1.length:Int)+1)) hc1 (by rw [w64 (by omega) (by omega)];omega)
  rw [w64 (by omega) (by omega)] at r1
  simp only [cond_true,q2,bO,B6]
  exact ⟨_,_,rfl,hc2,by simp only;omega⟩
 | false=>
 simp only [cond_false]
 cases decide (k=10) with
 | true=>
  obtain ⟨r,c2,q2,hc2,r0,r1⟩:=B20 c1 (w.2.1.length:Int) hc1 (by omega)
  simp only [cond_true,q2,bO,B6]
  exact ⟨_,_,rfl,hc2,by simp only;omega⟩
 | false=>
 simp only [cond_false,B6]
 obtain ⟨z,e,hz⟩:=A0C (X0 A50 w) (fun l=>(20-l.1).toNat)
  (fun l=>0≤l.1∧l.1≤20∧l.2.1=6∧l.2.2.1=0∧Cur (l.2.2.2.1,(l.2.2.2.2.1,l.2.2.2.2.2.1))∧(l.2.2.2.2.2.2.1.length:Int)=l.1) (fun z=>z.2.2.1=w∧Cur z.2.1∧z.1.2.1=0) (fun l hl=>by
   obtain ⟨g0,g1,g2,g3,g4,g5⟩:=hl
   simp only [X0]
   by_cases hi:l.1<20
   ·obtain ⟨b,c',q,hc'⟩:=D82 _ 2 g4 (by omega)
    rw [A0 hi,q]
    simp only [cond_true,bO]
    rw [A0 (by simp;omega),A0 (by simp;omega),w64 (by omega) (by omega)]
    exact .inl ⟨_,rfl,⟨by simp only;omega,by simp only;omega,g2,g3,hc',by simp;omega⟩,by simp only;omega⟩
   ·rw [A3 hi]
    exact .inr ⟨_,rfl,rfl,g4,g3⟩) (0,6,0,c1.1,c1.2.1,c1.2.2,[],()) ⟨by simp,by simp,rfl,rfl,hc1,rfl⟩
 obtain ⟨ev,c',w',u⟩:=z
 obtain ⟨z1,z2,z3⟩:=hz
 simp only at z1 z2 z3
 subst z1
 exact ⟨ev,c',e,z2,by omega⟩
def C0G(n:Int)(cls:List A8):A5:=(A0x n,cls,List.replicate cls.length false,[],[],List.replicate cls.length (-1))
def E33:A5:=((((([],[]),(0,(0,[]))),[]),([],([],([],([],[]))))):A5)
theorem C7D(n:Int)(cls:List A8)(hl:cls.length≤1000)(hc:∀ c∈cls,c.1.size≤maxLen∧c.2.1.length≤140737488355328):∃ w,A46 n cls=some (w,())∧(w=C0G n cls∨w=E33):=by
 have hd:=D1v n
 have ks:B8 (A06 U4 cls) (0,0,0,(E5 n).1,(E5 n).2,[],[],[],[],[],())=some (0,0,(E5 n).1,(E5 n).2,[],[],cls,List.replicate cls.length false,List.replicate cls.length (-1),()):=by
  have key:=D7 (A06 U4 cls) (fun i=>((i:Int),0,0,(E5 n).1,(E5 n).2,[],[],cls.take i,List.replicate i false,List.replicate i (-1),())) cls.length (0,0,(E5 n).1,(E5 n).2,[],[],cls,List.replicate cls.length false,List.replicate cls.length (-1),()) (fun i hi=>?_) ?_
  ·simpa using key
  ·have g1:(i:Int)<(cls.length:Int):=by omega
   have g2:(0:Int)≤(i:Int):=by omega
   simp only [A06,A0 g1,A0 g2,cond_true]
   rw [C8 (k:=A9) (xs:=cls) hi,C4L _ (hc _ (List.getElem_mem hi)).2]
   simp only [A4]
   rw [A0 (by simp;omega),A0 (by simp;omega),A0 (by simp;omega),A0 (by simp;omega),A0 (by simp;omega),A0 (by simp;omega),w64 (by omega) (by omega),List.take_succ_eq_append_getElem hi,List.replicate_succ',List.replicate_succ']
   rfl
  ·simp [A06]
 have hsec:B3z (E5 n).1:=by
  refine ⟨by omega,fun s hs=>?_⟩
  unfold E5 at hs
  split at hs
  ·rw [List.eq_of_mem_replicate hs];exact Nat.zero_le _
  ·cases hs
 have hw:E2x (C0G n cls):=⟨hsec,by simp [C0G,A0x],⟨by show cls.length≤_;omega,fun c h=>(hc c h).1⟩,⟨by simp [C0G],fun a ha=>by cases ha⟩,by simp [C0G]⟩
 obtain ⟨b,hb,hi⟩:=C4f (C0G n cls) hw
 simp only [A46,B1T,C4g,A4]
 have es:B8 (A06 U4 cls) (0,(A0x n).1.2.1,(A0x n).1.2.2.1,(A0x n).1.1.1,(A0x n).1.1.2,(A0x n).1.2.2.2,(A0x n).2,[],[],[],())=_:=ks
 rw [es]
 have hb':X6 (((((E5 n).1,(E5 n).2),((0:Int),((0:Int),[]))),[]),(cls,(List.replicate cls.length false,([],([],List.replicate cls.length (-1))))))=some (b,()):=hb
 simp only [hb']
 cases b with
 | false=>exact ⟨_,rfl,.inr rfl⟩
 | true=>exact ⟨_,rfl,.inl rfl⟩
def abc:List ByteArray:= [(⟨#[97]⟩:ByteArray),(⟨#[98]⟩:ByteArray),(⟨#[99]⟩:ByteArray)]
theorem E1x:∀ i j:Nat,i<3→j<3→abc[i]? = abc[j]?→i=j:=by
 have ne:∀ a b:UInt8,(⟨#[a]⟩:ByteArray)=⟨#[b]⟩→a=b:=fun a b e=>by
  injection e with e;injection e with e;injection e
 intro i j hi hj
 have h:∀ (a b:UInt8),a≠b→(some (⟨#[a]⟩:ByteArray)=some ⟨#[b]⟩→i=j):=fun a b hne e=>absurd (ne a b (Option.some.inj e)) hne
 match i,j,hi,hj with
 | 0,0,_,_=>exact fun _=>rfl
 | 1,1,_,_=>exact fun _=>rfl
 | 2,2,_,_=>exact fun _=>rfl
 | 0,1,_,_=>exact fun e=>absurd (ne 97 98 (Option.some.inj e)) (by decide)
 | 0,2,_,_=>exact fun e=>absurd (ne 97 99 (Option.some.inj e)) (by decide)
 | 1,0,_,_=>exact fun e=>absurd (ne 98 97 (Option.some.inj e)) (by decide)
 | 1,2,_,_=>exact fun e=>absurd (ne 98 99 (Option.some.inj e)) (by decide)
 | 2,0,_,_=>exact fun e=>absurd (ne 99 97 (Option.some.inj e)) (by decide)
 | 2,1,_,_=>exact fun e=>absurd (ne 99 98 (Option.some.inj e)) (by decide)
theorem E34:∀ s∈abc,idB s=true∧s.size=1:=by
 intro s hs
 simp only [abc,List.mem_cons,List.not_mem_nil,or_false] at hs
 rcases hs with rfl | rfl | rfl<;>exact ⟨by decide,rfl⟩
structure D8H (j:Int) (cls:List A8):Prop where
 n:(cls.length:Int)+j≤3
 ok:∀ a∈cls,ClG a∧a.2.2.1=1∧∃ i:Nat,i<3∧j≤(i:Int)∧abc[i]? = some a.1
 dist:∀ (p q:Nat) (a b:A8),cls[p]? = some a→cls[q]? = some b→a.1=b.1→p=q
theorem E0P{j:Nat}{cls:List A8}(h:D8H ((j:Int)+1) cls){a:A8}(ha:ClG a)(h1:a.2.2.1=1)(hid:abc[j]? = some a.1):D8H (j:Int) (cls ++ [a]):=by
 have hn:=h.n
 have get:∀ (p:Nat) (x:A8),(cls ++ [a])[p]? = some x→(p<cls.length∧cls[p]? = some x)∨(p=cls.length∧x=a):=fun p x hx=>by
  rcases Nat.lt_or_ge p cls.length with hp | hp
  ·rw [List.getElem?_append_left hp] at hx;exact .inl ⟨hp,hx⟩
  ·rw [List.getElem?_append_right hp] at hx
   have:=(List.getElem?_eq_some_iff.1 hx).1
   simp at this
   obtain rfl:p=cls.length:=by omega
   rw [Nat.sub_self] at hx
   injection hx with hx
   exact .inr ⟨rfl,hx.symm⟩
 have diff:∀ x∈cls,x.1≠a.1:=fun x hx e=>by
  obtain ⟨_,_,i,hi3,hi,g⟩:=h.ok x hx
  rw [e,← hid] at g
  have:=E1x i j hi3 (by have:=(List.getElem?_eq_some_iff.1 hid).1;simpa [abc] using this) g
  omega
 refine ⟨by simp;omega,fun x hx=>?_,fun p q x y hx hy e=>?_⟩
 ·rcases List.mem_append.1 hx with hx | hx
  ·obtain ⟨g1,g2,i,g3,g4,g5⟩:=h.ok x hx
   exact ⟨g1,g2,i,g3,by omega,g5⟩
  ·rw [List.mem_singleton] at hx;subst hx
   have:=(List.getElem?_eq_some_iff.1 hid).1
   exact ⟨ha,h1,j,by simpa [abc] using this,Int.le_refl _,hid⟩
 ·rcases get p x hx with ⟨hp,gx⟩ | ⟨hp,rfl⟩<;>rcases get q y hy with ⟨hq,gy⟩ | ⟨hq,rfl⟩
  ·exact h.dist p q x y gx gy e
  ·exact absurd e (diff x (List.mem_of_getElem? gx))
  ·exact absurd e.symm (diff y (List.mem_of_getElem? gy))
  ·omega
theorem E0Q{n:Int}(hn:n≤200){cls:List A8}(h:D8H 0 cls):WIw 0 (((E5 n,(0,(0,[]))),[]),(cls,(List.replicate cls.length false,([],([],List.replicate cls.length (-1)))))):=by
 obtain ⟨⟨c,hd⟩,hep,_⟩:=C7C n hn
 have hsc:B7 (E5 n).1 = []:=by
  have h1:(0:Int)=((B7 (E5 n).1).length:Int):=by
   rcases hd.g with ⟨_,_,_,h4,_⟩
   exact h4
  exact List.eq_nil_of_length_eq_zero (by omega)
 have hl:=h.n
 have hrep:∀ {α:Type} (v:α) (i:Nat) (x:α),(List.replicate cls.length v)[i]? = some x→x=v:=fun v i x hx=>(List.mem_replicate.1 (List.mem_of_getElem? hx)).2
 refine wiw (c:=c) (uc:= []) {
  dur:=hd
  ep:=hep
  nd:=fun r hr=>by rw [hsc] at hr;cases hr
  fuc:=by rw [hsc,List.take_nil];rfl
  n6:=by omega
  lb:=List.length_replicate
  lt:=List.length_replicate
  dist:=h.dist
  cl:=fun i a ha=>(h.ok a (List.mem_of_getElem? ha)).1
  cnt:=fun i b hb=>by rw [hrep _ _ _ hb];rfl
  dn:=fun i a ha h5=>by have:=(h.ok a (List.mem_of_getElem? ha)).2.1;omega
  ask:=fun a ha=>by cases ha
  hld:=fun a ha=>by cases ha
  tell:=fun a ha=>by cases ha
  bst:=fun i a b ha hb=>.inl (hrep _ _ _ hb)
  ends:=fun i a ha h5=>by have:=(h.ok a (List.mem_of_getElem? ha)).2.1;omega
  oku:=fun u hu=>by cases hu
  la:=Nat.zero_le _
  l6:=Nat.zero_le _
  lh:=Nat.zero_le _}
theorem D55(c:G9)(h:Cur c)(j:Int)(hj:0≤j∧j≤3):∃ y c',B8 (R4 Y8 Q6 A58) (j,c.1,c.2.1,c.2.2,[],())=some (c'.1,c'.2.1,c'.2.2,y,())∧Cur c'∧D8H 0 y:=by
 obtain ⟨z,e,hz⟩:=A0C (R4 Y8 Q6 A58) (fun l=>l.1.toNat)
  (fun l=>0≤l.1∧l.1≤3∧Cur (l.2.1,(l.2.2.1,l.2.2.2.1))∧D8H l.1 l.2.2.2.2.1) (fun z=>Cur (z.1,(z.2.1,z.2.2.1))∧D8H 0 z.2.2.2.1) (fun l hl=>by
   obtain ⟨g0,g1,g2,g3⟩:=hl
   simp only [R4]
   by_cases hi:l.1>0
   ·obtain ⟨m,hm⟩:∃ m:Nat,l.1=(m:Int)+1:=⟨(l.1-1).toNat,by omega⟩
    have w1:IntKind.i64.wrap (l.1-1)=(m:Int):=by rw [w64 (by omega) (by omega)];omega
    obtain ⟨n,c1,q1,h1,hn⟩:=D1h _ [0,5,24,60,50] g2 (by simp)
    have hn2:0≤n∧n≤60:=by
     simp only [List.mem_cons,List.not_mem_nil,or_false] at hn
     omega
    obtain ⟨dat,c2,q2,h2,hl2,hb2⟩:=D4j c1 n h1 (by omega)
    have hm3:m<3:=by omega
    have hmabc:m<abc.length:=hm3
    have hrd:rd .str [(⟨#[97]⟩:ByteArray),(⟨#[98]⟩:ByteArray),(⟨#[99]⟩:ByteArray)] (m:Int)=abc[m]:=A5K (xs:=abc) hmabc
    obtain ⟨hid,hsz⟩:=E34 _ (List.getElem_mem hmabc)
    have hok:G5 (abc[m],dat,1,0)=true:=by
     simp only [G5,Bool.and_eq_true,decide_eq_true_eq]
     refine ⟨⟨⟨hid,by omega⟩,by omega⟩,by omega⟩
    have hlen:=g3.n
    have q3:=C4t abc[m] dat (by simp only [maxLen];omega) (by omega)
    simp only [C0F,hok,if_true] at q3
    rw [A0 hi,w1,A0 (show (0:Int)≤(m:Int) by omega),A0 (by simp;omega),q1]
    simp only [cond_true,bO,q2,hrd,q3]
    rw [A0 (by simp;omega),A0 (by simp;omega)]
    refine .inl ⟨_,rfl,⟨by simp only;omega,by simp only;omega,h2,?_⟩,by simp only;omega⟩
    refine E0P (by rw [← hm];exact g3) ⟨hok,by show (1:Int)≠6;omega,hb2,fun h=>by cases h⟩ rfl (List.getElem?_eq_getElem hmabc)
   ·rw [A3 hi]
    have e0:l.1=0:=by omega
    rw [e0] at g3
    exact .inr ⟨_,rfl,g2,g3⟩) (j,c.1,c.2.1,c.2.2,[],()) ⟨hj.1,hj.2,h,⟨by simp;omega,fun a ha=>by (cases ha),fun p q a b ha=>by (simp at ha)⟩⟩
 exact ⟨z.2.2.2.1,(z.1,(z.2.1,z.2.2.1)),e,hz.1,hz.2⟩
theorem C9y{k:Nat}{w:A5}(h:WIw k w):w.2.1.length≤6∧w.2.2.2.1.length≤60∧w.2.2.2.2.1.length≤60:=by
 obtain ⟨c,uc,h⟩:=h
 exact ⟨h.n6,h.la,h.l6⟩
theorem E3Q{k k':Nat}{w:A5}(h:WIw k w)(hk:k≤k'):WIw k' w:=by
 obtain ⟨c,uc,h⟩:=h
 exact ⟨c,uc,{h with ep:=by have:=h.ep;omega}⟩
theorem D56(c:G9)(n:Int)(hc:Cur c)(hn:0<n∧n≤1000):∃ w c',O4 c n=some (w,c',())∧WIw 1000 w∧Cur c':=by
 obtain ⟨m,c1,q1,h1,hm⟩:=D1h c [1,2,3] hc (by simp)
 have hm2:0≤m∧m≤3:=by
  simp only [List.mem_cons,List.not_mem_nil,or_false] at hm
  omega
 obtain ⟨cls,c2,q2,h2,hcls⟩:=D55 c1 h1 m hm2
 have hcn:=hcls.n
 obtain ⟨w,q3,hw⟩:=C7D 40 cls (by omega) (fun x hx=>by
  obtain ⟨g,_⟩:=hcls.ok x hx
  have:=(Y4 g).2.1
  exact ⟨A94 g,by omega⟩)
 have hw0:WIw 0 w:=by
  rcases hw with rfl | rfl
  ·exact E0Q (n:=40) (by omega) hcls
  ·exact E0Q (n:=-1) (by omega) (cls:= []) ⟨by simp,fun a ha=>by (cases ha),fun p q a b ha=>by (simp at ha)⟩
 obtain ⟨k,c3,q4,h3,k0,k1⟩:=A7r c2 n h2 (by omega)
 have q4':L3 (c2.1,(c2.2.1,c2.2.2)) n=_:=q4
 simp only [O4,A0c,q1,q2,q3,q4',bO]
 obtain ⟨z,e,hz⟩:=A0C (Z4 A3Y J6) (fun l=>l.1.toNat)
  (fun l=>∃ j:Nat,l.1≤1000-(j:Int)∧j≤1000∧WIw j ((((l.2.1,l.2.2.1),(l.2.2.2.1,(l.2.2.2.2.1,l.2.2.2.2.2.1))),l.2.2.2.2.2.2.2.2.2.1),(l.2.2.2.2.2.2.2.2.2.2.1,(l.2.2.2.2.2.2.2.2.2.2.2.1,(l.2.2.2.2.2.2.2.2.2.2.2.2.1,(l.2.2.2.2.2.2.2.2.2.2.2.2.2.1,l.2.2.2.2.2.2.2.2.2.2.2.2.2.2.1)))))∧Cur (l.2.2.2.2.2.2.1,(l.2.2.2.2.2.2.2.1,l.2.2.2.2.2.2.2.2.1))) (fun z=>WIw 1000 z.1∧Cur z.2.1) (fun l hl=>by
   obtain ⟨j,g0,gj,g1,g2⟩:=hl
   obtain ⟨w1,w2,w3⟩:=C9y g1
   simp only [Z4]
   by_cases hi:l.1>0
   ·obtain ⟨ev,c',e,hc',hev⟩:=D2L _ _ g2 (Nat.le_trans w1 (by omega)) (Nat.le_trans w2 (by omega)) (Nat.le_trans w3 (by omega))
    obtain ⟨b,w',q,hw'⟩:=E32 j (by omega) _ g1 ev hev
    rw [A0 hi,e]
    simp only [cond_true,bO]
    rw [q]
    simp only [bO]
    rw [w64 (by omega) (by omega)]
    exact .inl ⟨_,rfl,⟨j+1,by simp only;omega,by omega,hw',hc'⟩,by simp only;omega⟩
   ·rw [A3 hi]
    exact .inr ⟨_,rfl,E3Q g1 gj,g2⟩) (k,w.1.1.1.1,w.1.1.1.2,w.1.1.2.1,w.1.1.2.2.1,w.1.1.2.2.2,c3.1,c3.2.1,c3.2.2,w.1.2,w.2.1,w.2.2.1,w.2.2.2.1,w.2.2.2.2.1,w.2.2.2.2.2,()) ⟨0,by simp only;omega,by omega,hw0,h3⟩
 exact ⟨z.1,z.2.1,e,hz⟩
theorem C9z(a:List Int)(h:a.length≤1048576):∃ w,T6 a=some (w,())∧WIw 1000 w:=by
 obtain ⟨c,q,hc⟩:=E0A a h
 obtain ⟨s,qs,hs⟩:∃ s,A7Y a 100=some (s,())∧0≤s∧s≤100:=by
  have ht:(a.length:Int).tdiv 12=(a.length:Int) / 12:=Int.tdiv_eq_ediv_of_nonneg (by omega)
  simp only [A7Y,B75,ht]
  rw [w64 (n:=(a.length:Int) / 12) (by omega) (by omega),w64 (by omega) (by omega)]
  by_cases h1:3+(a.length:Int) / 12>100
  ·rw [A0 h1];exact ⟨_,rfl,by omega⟩
  ·rw [A3 h1];exact ⟨_,rfl,by omega⟩
 obtain ⟨w,c',e,hw,_⟩:=D56 c (IntKind.i64.wrap (20+s)) hc (by rw [w64 (by omega) (by omega)];omega)
 simp only [T6,A2K,q,qs,e,bO]
 exact ⟨w,rfl,hw⟩
def hOk(n:Nat)(h:C7):Prop:=S6 h.2=true∧0≤h.1∧h.1<(n:Int)
def wOk(n:Nat)(a:L0):Prop:=A0z a.2.1=true∧0≤a.1∧a.1<(n:Int)∧Byt a.2.2∧a.2.2.length≤1048576
def cOk(c:A8):Prop:=G5 c=true∧Byt c.2.1
structure RW (st:A7) (held:List C7) (cls:List A8) (busy:List Bool) (asks:List L0) (tells:List C7) (best:List Int):Prop where
 g:GoodS st
 lh:held.length≤200
 hd:∀ h∈held,hOk cls.length h
 n6:cls.length≤6
 lb:busy.length=cls.length
 lt:best.length=cls.length
 cl:∀ c∈cls,cOk c
 la:asks.length≤60
 ask:∀ a∈asks,wOk cls.length a
 l6:tells.length≤60
 tl:∀ h∈tells,hOk cls.length h
def RWw(w:A5):Prop:=RW w.1.1 w.1.2 w.2.1 w.2.2.1 w.2.2.2.1 w.2.2.2.2.1 w.2.2.2.2.2
theorem B21{id:ByteArray}{st st':A7}(hs:Steps id st st')(h:GoodS st):GoodS st':=by
 induction hs with
 | refl=>exact h
 | step h1 hr e1 e2 hlt hid _ hf ih=>exact (B7K ih hr e1 e2 hlt hf).1
theorem D8I{st:A7}{r:A1w}{dat:List Int}(h:GoodS st)(hb:Byt dat):GoodS (A9m st r dat).1:=by
 have hR:=C9v h (B43 h)
 unfold A9m
 split
 ·exact B21 (D2C hR) h
 ·split
  ·exact B21 (D4z hR hb) h
  ·split
   ·exact B21 (D2D hR) h
   ·split
    ·exact B21 (D2E hR) h
    ·exact h
theorem C0H{st:A7}(h:Ups st.2.2.2)(id:ByteArray):0≤lenOf st id∧lenOf st id≤1000000000:=by
 unfold lenOf
 split
 ·rename_i hh
  obtain ⟨hlt,_⟩:=I4.1 hh
  have hg:=h.2.2 _ (List.getElem_mem hlt)
  rw [C8 (k:=kUp) hlt]
  have h1:=hg.1
  have h2:=hg.2.1
  omega
 ·omega
theorem B5P{s o:Int}(h1:100≤s)(h2:s≤599)(h3:-1≤o)(h4:o≤1000000000):S6 (s,o)=true:=by
 simp only [S6,Bool.and_eq_true,decide_eq_true_eq]
 omega
theorem A95{st:A7}(h:Ups st.2.2.2)(c:Int)(id:ByteArray):S6 (I2 st c id)=true:=by
 have hl:=C0H h id
 unfold I2
 repeat' split
 all_goals exact B5P (by omega) (by omega) (by omega) (by omega)
theorem E1y{st:A7}(h:Ups st.2.2.2)(r:A1w):S6 (D2F st r)=true:=by
 have hl:=C0H h r.2.1
 unfold D2F
 repeat' split
 all_goals exact B5P (by omega) (by omega) (by omega) (by omega)
theorem D8J{st:A7}{r:A1w}{dat:List Int}(h:GoodS st)(hb:Byt dat):S6 (A9m st r dat).2=true:=by
 have hU:=B43 h
 have hR:=C9v h hU
 unfold A9m
 split
 ·simp only
  split
  ·exact B5P (by omega) (by omega) (by omega) (by omega)
  ·exact A95 hU _ _
 ·split
  ·simp only
   split
   ·rename_i hz
    obtain ⟨q1,q2,q3⟩:=B8X hR hb hz
    have hl:=C0H (D1x (id:=r.2.1) (off:=r.2.2) (dat:=dat) hR hb).1 r.2.1
    exact B5P (by omega) (by omega) (by omega) (by omega)
   ·exact A95 hU _ _
  ·split
   ·simp only
    split
    ·exact B5P (by omega) (by omega) (by omega) (by omega)
    ·exact A95 hU _ _
   ·split
    ·simp only
     split
     ·exact B5P (by omega) (by omega) (by omega) (by omega)
     ·exact A95 hU _ _
    ·exact E1y hU r
theorem D57{st:A7}(h:GoodS st):GoodS ((st.1.1,st.1.1),st.2):=(B7L h).g
theorem A5O{c:A8}(h:cOk c):c.1.size≤8∧c.2.1.length≤400∧idB c.1=true∧1≤c.2.2.1∧c.2.2.1≤6∧0≤c.2.2.2∧c.2.2.2≤(c.2.1.length:Int):=by
 have h1:=h.1
 simp only [G5,Bool.and_eq_true,decide_eq_true_eq] at h1
 have:=D1u h1.1.1.1
 refine ⟨this,by omega,h1.1.1.1,?_⟩
 omega
theorem C4w{c:A8}(h:cOk c):c.1.size≤maxLen:=by
 have:=(A5O h).1
 simp only [maxLen];omega
theorem D00{c:A8}(h:cOk c){s o:Int}(h1:1≤s)(h2:s≤6)(h3:0≤o)(h4:o≤(c.2.1.length:Int)):cOk (c.1,c.2.1,s,o):=by
 obtain ⟨_,g2,g3,_⟩:=A5O h
 refine ⟨?_,h.2⟩
 simp only [G5,Bool.and_eq_true,decide_eq_true_eq]
 exact ⟨⟨⟨g3,by omega⟩,by omega⟩,by omega⟩
theorem E1z{c:A8}(h:cOk c)(o:Int):cOk (far c o):=by
 obtain ⟨_,_,_,_,_,h3,h4⟩:=A5O h
 unfold far
 split
 ·rename_i hr
  split
  ·exact D00 h (by omega) (by omega) hr.1 hr.2
  ·exact D00 h (by omega) (by omega) hr.1 hr.2
 ·exact D00 h (by omega) (by omega) h3 h4
theorem D01(s t:Int)(h1:1≤s)(h2:s≤6):0≤A1l s t∧A1l s t≤6:=by
 unfold A1l
 repeat' split
 all_goals omega
theorem E0R{c:A8}(h:cOk c)(r:Q8):cOk (hear c r):=by
 obtain ⟨_,_,_,h1,h2,h3,h4⟩:=A5O h
 unfold hear
 split
 ·exact E1z h _
 ·rename_i hne
  have:=D01 c.2.2.1 r.1 h1 h2
  exact D00 h (by omega) (by omega) h3 h4
theorem E35{r:A1w}(h:A0z r=true):r.2.1.size≤8∧(0≤r.2.2∧r.2.2≤4294967295):=by
 simp only [A0z,Bool.and_eq_true,decide_eq_true_eq] at h
 refine ⟨D1u h.1.2,h.2.1,?_⟩
 have:=h.2.2
 unfold B1u at this
 split at this
 ·omega
 ·split at this
  ·omega
  ·split at this
   ·omega
   ·omega
theorem C4x{c:A8}(h:cOk c){r:A1w}{d:List Int}(hq:H5 c=(r,d,true,())):A0z r=true∧Byt d∧d.length≤1048576:=by
 obtain ⟨_,h400,hid,h1,h2,h3,h4⟩:=A5O h
 have hl:=B3q c
 rw [hq] at hl
 have hl':d.length≤c.2.1.length:=hl
 have hcrc:=A8v h.2
 have hx:A63 c.2.1 ^^^ 4294967295<2 ^ 32:=Nat.xor_lt_two_pow hcrc (by omega)
 have mk:∀ (op n:Int),1≤op→op≤6→0≤n→n≤B1u op→A0z (op,c.1,n)=true:=fun op n g1 g2 g3 g4=>by
  simp only [A0z,Bool.and_eq_true,decide_eq_true_eq]
  exact ⟨⟨by omega,hid⟩,by omega⟩
 have key:(H5 c).2.2.1=true→A0z (H5 c).1=true∧Byt (H5 c).2.1:=by
  unfold H5
  rw [h.1]
  simp only [Bool.true_eq_false,if_false]
  split
  ·exact fun _=>⟨mk 1 _ (by omega) (by omega) (by omega) (by show _≤(1000000000:Int);omega),A01⟩
  ·split
   ·exact fun _=>⟨mk 2 _ (by omega) (by omega) (by omega) (by show _≤(0:Int);omega),A01⟩
   ·split
    ·exact fun _=>⟨mk 3 _ (by omega) (by omega) (by omega) (by show _≤(1000000000:Int);omega),A65 (A2a h.2 _) _⟩
    ·split
     ·exact fun _=>⟨mk 4 _ (by omega) (by omega) (by omega) (by show _≤(4294967295:Int);omega),A01⟩
     ·exact fun e=>by cases e
 rw [hq] at key
 obtain ⟨k1,k2⟩:=key rfl
 exact ⟨k1,k2,by omega⟩
def A6X(w:A5)(i:Int):Bool×A5:=
 if 0≤i∧i<(w.2.1.length:Int)∧rd .bool w.2.2.1 i=false∧¬ (w.2.2.2.1.length:Int)=60∧(H5 (rd A9 w.2.1 i)).2.2.1=true then
  (true,(w.1,(w.2.1,(w.2.2.1.set i.toNat true,(w.2.2.2.1 ++ [(i,((H5 (rd A9 w.2.1 i)).1,(H5 (rd A9 w.2.1 i)).2.1))],w.2.2.2.2)))))
 else (false,w)
def Q7(w:A5)(j:Int):Bool×A5:=
 if 0≤j∧j<(w.2.2.2.1.length:Int)∧¬ (w.1.2.length:Int)=200 then
  (true,(((A9m w.1.1 (rd F8 w.2.2.2.1 j).2.1 (rd F8 w.2.2.2.1 j).2.2).1,w.1.2 ++ [((rd F8 w.2.2.2.1 j).1,(A9m w.1.1 (rd F8 w.2.2.2.1 j).2.1 (rd F8 w.2.2.2.1 j).2.2).2)]),(w.2.1,(w.2.2.1,(rm w.2.2.2.1 j.toNat,w.2.2.2.2)))))
 else (false,w)
def A7v(w:A5):Bool×A5:=
 if (w.2.2.2.2.1.length:Int)+(w.1.2.length:Int)>60 then (false,w)
 else (true,((((w.1.1.1.1,w.1.1.1.1),w.1.1.2),[]),(w.2.1,(w.2.2.1,(w.2.2.2.1,(w.2.2.2.2.1++w.1.2,w.2.2.2.2.2))))))
def E0S(a b:Int):Int:=bif decide (b>a) then b else a
def A0L(w:A5)(j:Int):Bool×A5:=
 if 0≤j∧j<(w.2.2.2.2.1.length:Int) then
  if rd .bool w.2.2.1 (rd B2 w.2.2.2.2.1 j).1=true then
   (true,(w.1,(w.2.1.set (rd B2 w.2.2.2.2.1 j).1.toNat (A0E (rd A9 w.2.1 (rd B2 w.2.2.2.2.1 j).1) (rd B2 w.2.2.2.2.1 j).2),(w.2.2.1.set (rd B2 w.2.2.2.2.1 j).1.toNat false,(w.2.2.2.1,(rm w.2.2.2.2.1 j.toNat,w.2.2.2.2.2.set (rd B2 w.2.2.2.2.1 j).1.toNat (E0S (rd (.int .i64) w.2.2.2.2.2 (rd B2 w.2.2.2.2.1 j).1) (rd B2 w.2.2.2.2.1 j).2.2)))))))
  else (true,(w.1,(w.2.1,(w.2.2.1,(w.2.2.2.1,(rm w.2.2.2.2.1 j.toNat,w.2.2.2.2.2))))))
 else (false,w)
theorem E20{w:A5}(h:RWw w)(i:Int):RWw (A6X w i).2:=by
 unfold A6X
 split
 ·rename_i hc
  obtain ⟨h0,h1,h2,h3,h4⟩:=hc
  obtain ⟨⟨st,held⟩,cls,busy,asks,tells,best⟩:=w
  simp only at h0 h1 h2 h3 h4 ⊢
  unfold RWw at h ⊢
  simp only at h ⊢
  obtain ⟨i,rfl⟩:∃ j:Nat,i=(j:Int):=⟨i.toNat,by omega⟩
  have hi:i<cls.length:=by omega
  rw [C8 (k:=A9) (xs:=cls) hi] at h4 ⊢
  have hla:=h.la
  obtain ⟨k1,k2,k3⟩:=C4x (h.cl _ (List.getElem_mem hi)) (r:=(H5 cls[i]).1) (d:=(H5 cls[i]).2.1) (by rw [← h4])
  refine {h with lb:=by rw [List.length_set];exact h.lb,la:=by simp only [List.length_append,List.length_cons,List.length_nil];omega,ask:=fun a ha=>?_}
  rcases List.mem_append.1 ha with ha | ha
  ·exact h.ask a ha
  ·rw [List.mem_singleton.1 ha]
   exact ⟨k1,by show (0:Int)≤(i:Int);omega,by show (i:Int)<_;omega,k2,k3⟩
 ·exact h
theorem D2M{w:A5}(h:RWw w)(j:Int):RWw (Q7 w j).2:=by
 unfold Q7
 split
 ·rename_i hc
  obtain ⟨h0,h1,h2⟩:=hc
  obtain ⟨⟨st,held⟩,cls,busy,asks,tells,best⟩:=w
  simp only at h0 h1 h2 ⊢
  unfold RWw at h ⊢
  simp only at h ⊢
  obtain ⟨j,rfl⟩:∃ q:Nat,j=(q:Int):=⟨j.toNat,by omega⟩
  have hj:j<asks.length:=by omega
  rw [C8 (k:=F8) (xs:=asks) hj]
  obtain ⟨g1,g2,g3,g4,g5⟩:=h.ask _ (List.getElem_mem hj)
  have hlh:=h.lh
  have hla:=h.la
  rw [Int.toNat_natCast]
  have hrl:=B7Q hj
  refine {h with g:=D8I h.g g4,lh:=by simp only [List.length_append,List.length_cons,List.length_nil];omega,hd:=fun x hx=>?_,la:=by omega,ask:=fun x hx=>h.ask x (C4s hx)}
  rcases List.mem_append.1 hx with hx | hx
  ·exact h.hd x hx
  ·rw [List.mem_singleton.1 hx]
   exact ⟨D8J h.g g4,g2,g3⟩
 ·exact h
theorem E21{w:A5}(h:RWw w):RWw (A7v w).2:=by
 unfold A7v
 split
 ·exact h
 ·rename_i hc
  obtain ⟨⟨st,held⟩,cls,busy,asks,tells,best⟩:=w
  simp only at hc ⊢
  unfold RWw at h ⊢
  simp only at h ⊢
  exact {h with g:=D57 h.g,lh:=by simp,hd:=fun x hx=>(by cases hx),l6:=by simp only [List.length_append];omega,tl:=fun x hx=>(List.mem_append.1 hx).elim (h.tl x) (h.hd x)}
theorem D02{c:A8}(h:cOk c)(r:Q8):cOk (A0E c r):=by
 unfold A0E
 split
 ·exact E0R h r
 ·exact h
theorem E22{α:Type}{l:List α}{i:Nat}{v x:α}(h:x∈l.set i v):x∈l∨x=v:=List.mem_or_eq_of_mem_set h
theorem D6y{w:A5}(h:RWw w)(j:Int):RWw (A0L w j).2:=by
 unfold A0L
 split
 ·rename_i hc
  obtain ⟨h0,h1⟩:=hc
  obtain ⟨⟨st,held⟩,cls,busy,asks,tells,best⟩:=w
  simp only at h0 h1 ⊢
  obtain ⟨j,rfl⟩:∃ q:Nat,j=(q:Int):=⟨j.toNat,by omega⟩
  have hj:j<tells.length:=by omega
  have hrl:=B7Q hj
  have hl6:=h.l6
  simp only at hl6
  rw [C8 (k:=B2) (xs:=tells) hj,Int.toNat_natCast]
  have hh:=h.tl _ (List.getElem_mem hj)
  simp only at hh
  obtain ⟨g1,g2,g3⟩:=hh
  split
  ·unfold RWw at h ⊢
   simp only at h ⊢
   have hlen:(cls.set tells[j].1.toNat (A0E (rd A9 cls tells[j].1) tells[j].2)).length=cls.length:=List.length_set
   refine {h with n6:=by rw [hlen];exact h.n6,lb:=by rw [hlen,List.length_set];exact h.lb,lt:=by rw [hlen,List.length_set];exact h.lt,cl:=fun c hc=>?_,ask:=fun a ha=>by rw [hlen];exact h.ask a ha,hd:=fun a ha=>by rw [hlen];exact h.hd a ha,tl:=fun a ha=>by rw [hlen];exact h.tl a (C4s ha),l6:=by omega}
   rcases E22 hc with hc | hc
   ·exact h.cl c hc
   ·rw [hc]
    refine D02 ?_ _
    obtain ⟨i,hi⟩:∃ i:Nat,tells[j].1=(i:Int):=⟨tells[j].1.toNat,by omega⟩
    rw [hi,C8 (k:=A9) (xs:=cls) (by omega)]
    exact h.cl _ (List.getElem_mem _)
  ·unfold RWw at h ⊢
   simp only at h ⊢
   exact {h with l6:=by omega,tl:=fun a ha=>h.tl a (C4s ha)}
 ·exact h
theorem E0T{α:Type}{l:List α}{j:Nat}(h:j<l.length):B2L l (j:Int) ((j:Int)+1)=some (rm l j,()):=by
 unfold B2L
 rw [A0 (show (0:Int)≤(j:Int) by omega),A0 (show (j:Int)<(j:Int)+1 by omega),A0 (show (j:Int)+1≤(l.length:Int) by omega)]
 simp only [cond_true]
 rw [Int.toNat_natCast,show ((j:Int)+1).toNat=j+1 by omega]
 rfl
theorem E0U{α:Type}{l:List α}{j:Nat}:([]++(l.take j).drop 0)++(l.take l.length).drop ((j:Int)+1).toNat=rm l j:=by
 unfold rm
 rw [show ((j:Int)+1).toNat=j+1 by omega,List.drop_zero,List.take_length]
 rfl
theorem D6z{w:A5}(h:RWw w)(i:Int):A1c w i=some ((A6X w i).1,(A6X w i).2,())∧Y7 w i=some ((A6X w i).1,(A6X w i).2,()):=by
 obtain ⟨⟨st,held⟩,cls,busy,asks,tells,best⟩:=w
 unfold RWw at h
 simp only at h
 have hn:=h.n6
 have hlb:=h.lb
 have hla:=h.la
 simp only [A1c,A7k,Y7,A5Y,L2,N6,bO,A6X]
 rw [w64 (n:=(cls.length:Int)-1) (by omega) (by omega)]
 by_cases hr:0≤i∧i≤(cls.length:Int)-1
 ·obtain ⟨i,rfl⟩:∃ j:Nat,i=(j:Int):=⟨i.toNat,by omega⟩
  have hic:i<cls.length:=by omega
  obtain ⟨cl,hcl⟩:∃ x,cls[i]? = some x:=⟨_,List.getElem?_eq_getElem hic⟩
  obtain ⟨b,hb⟩:∃ x,busy[i]? = some x:=⟨_,List.getElem?_eq_getElem (by omega)⟩
  have hg:=h.cl cl (List.mem_of_getElem? hcl)
  rw [A0 hr,A0 (show (0:Int)≤(i:Int) by omega),A0 (show (i:Int)<(busy.length:Int) by omega),A0 (show (i:Int)<(cls.length:Int) by omega),A16 .bool hb,A16 C8o hcl,A16 A9 hcl,B8G cl (C4w hg) hg.2,C9f cl (C4w hg) hg.2]
  simp only [Bool.not_true,cond_false,cond_true]
  cases b with
  | true=>
   rw [if_neg (fun hx=>by have:=hx.2.2.1;cases this)]
   exact ⟨rfl,rfl⟩
  | false=>
   simp only [cond_false]
   by_cases h60:(asks.length:Int)=60
   ·rw [A0 h60,A0 (show (asks.length:Int)≥60 by omega),if_neg (fun hx=>hx.2.2.2.1 h60)]
    exact ⟨rfl,rfl⟩
   ·rw [A3 h60,A3 (show ¬ (asks.length:Int)≥60 by omega)]
    simp only [cond_false,B6,bO]
    generalize H5 cl=q
    obtain ⟨r,dat,ok,u⟩:=q
    cases ok with
    | false=>
     rw [if_neg (fun hx=>by have:=hx.2.2.2.2;cases this)]
     exact ⟨rfl,rfl⟩
    | true=>
     rw [if_pos ⟨by omega,by omega,trivial,h60,rfl⟩]
     simp only [Bool.not_true,cond_false,cond_true]
     rw [A0 (by simp;omega),A0 (by simp;omega)]
     exact ⟨rfl,rfl⟩
 ·rw [A3 hr,if_neg (fun hx=>hr ⟨hx.1,by omega⟩)]
  exact ⟨rfl,rfl⟩
theorem C8q{w:A5}(h:RWw w)(j:Int):A0j w j=some ((Q7 w j).1,(Q7 w j).2,())∧V3 w j=some ((Q7 w j).1,(Q7 w j).2,()):=by
 obtain ⟨⟨st,held⟩,cls,busy,asks,tells,best⟩:=w
 unfold RWw at h
 simp only at h
 have hla:=h.la
 have hlh:=h.lh
 obtain ⟨hR,hS,hok,_⟩:=B8V h.g
 simp only [A0j,A6L,V3,A49,L2,N6,bO,Q7]
 rw [w64 (n:=(asks.length:Int)-1) (by omega) (by omega)]
 by_cases hr:0≤j∧j≤(asks.length:Int)-1
 ·obtain ⟨j,rfl⟩:∃ q:Nat,j=(q:Int):=⟨j.toNat,by omega⟩
  have hjl:j<asks.length:=by omega
  obtain ⟨a,ha⟩:∃ x,asks[j]? = some x:=⟨_,List.getElem?_eq_getElem hjl⟩
  obtain ⟨g1,g2,g3,g4,g5⟩:=h.ask a (List.mem_of_getElem? ha)
  obtain ⟨q1,q2,q3⟩:=E35 g1
  have hid:a.2.1.2.1.size≤maxLen:=by simp only [maxLen];omega
  have ho:-9223372036854775808≤a.2.1.2.2∧a.2.1.2.2≤9223372036854775807:=by omega
  rw [A0 hr,A0 (show (0:Int)≤(j:Int) by omega),A0 (show (j:Int)<(asks.length:Int) by omega),A0 (show (j:Int)≤(asks.length:Int) by omega),A16 C9w ha,A16 F8 ha,w64 (n:=(j:Int)+1) (by omega) (by omega)]
  simp only [Bool.not_true,cond_false,cond_true,A29,A5G,C4e a.2.1 hid,g1,bO]
  by_cases h200:(held.length:Int)=200
  ·rw [A0 h200,A0 (show (held.length:Int)≥200 by omega),if_neg (fun hx=>hx.2.2 h200)]
   exact ⟨rfl,rfl⟩
  ·rw [A3 h200,A3 (show ¬ (held.length:Int)≥200 by omega),if_pos ⟨by omega,by omega,h200⟩]
   have e1:=C8l st a.2.1 a.2.2 hid hR hS hok g4 g5 ho
   have e2:=D2G (st,held) a.2.1 a.2.2 hid hR g4 g5 ho
   simp only [cond_false,B6,e1,e2,bO,H8,E0T hjl,E0U,Int.toNat_natCast]
   rw [A0 (by simp;omega),A0 (by simp;omega),A0 (show (0:Int)≤(j:Int)+1 by omega),A0 (show (j:Int)+1≤(asks.length:Int) by omega),A0 (by simp;omega),A0 (by simp;omega),A0 (by simp;omega),A0 (by simp;omega)]
   exact ⟨rfl,rfl⟩
 ·rw [A3 hr,if_neg (fun hx=>hr ⟨hx.1,by omega⟩)]
  exact ⟨rfl,rfl⟩
theorem D2N{w:A5}(h:RWw w):A1d w=some ((A7v w).1,(A7v w).2,())∧A1M w=some ((A7v w).1,(A7v w).2,()):=by
 obtain ⟨⟨st,held⟩,cls,busy,asks,tells,best⟩:=w
 unfold RWw at h
 simp only at h
 have hl6:=h.l6
 have hlh:=h.lh
 obtain ⟨hR,hS,_⟩:=B8V h.g
 simp only [A1d,A7m,A1M,A8c,A0a,A3O,A7v,D4m st.1 hS.1,C4c st.1 hS.1,bO]
 rw [w64 (n:=(tells.length:Int)+(held.length:Int)) (by omega) (by omega)]
 by_cases h60:(tells.length:Int)+(held.length:Int)>60
 ·rw [A0 h60,if_pos h60];exact ⟨rfl,rfl⟩
 ·rw [A3 h60,if_neg h60,A0 (by omega),A0 (by omega)]
  exact ⟨rfl,rfl⟩
theorem D70{a b:Int}(h:b>a):E0S a b=b:=by unfold E0S;rw [A0 h];rfl
theorem D71{a b:Int}(h:¬ b>a):E0S a b=a:=by unfold E0S;rw [A3 h];rfl
theorem D2O{w:A5}(h:RWw w)(j:Int):A1e w j=some ((A0L w j).1,(A0L w j).2,())∧Z0 w j=some ((A0L w j).1,(A0L w j).2,()):=by
 obtain ⟨⟨st,held⟩,cls,busy,asks,tells,best⟩:=w
 unfold RWw at h
 simp only at h
 have hn:=h.n6
 have hl6:=h.l6
 have hlb:=h.lb
 have hlt:=h.lt
 simp only [A1e,A7n,Z0,A5b,L2,N6,bO,A0L]
 rw [w64 (n:=(tells.length:Int)-1) (by omega) (by omega)]
 by_cases hr:0≤j∧j≤(tells.length:Int)-1
 ·obtain ⟨j,rfl⟩:∃ q:Nat,j=(q:Int):=⟨j.toNat,by omega⟩
  have hjl:j<tells.length:=by omega
  obtain ⟨a,ha⟩:∃ x,tells[j]? = some x:=⟨_,List.getElem?_eq_getElem hjl⟩
  obtain ⟨g1,g2,g3⟩:=h.tl a (List.mem_of_getElem? ha)
  obtain ⟨who,resp⟩:=a
  simp only at g1 g2 g3
  obtain ⟨i,rfl⟩:∃ q:Nat,who=(q:Int):=⟨who.toNat,by omega⟩
  have hic:i<cls.length:=by omega
  obtain ⟨cl,hcl⟩:∃ x,cls[i]? = some x:=⟨_,List.getElem?_eq_getElem hic⟩
  obtain ⟨b,hb⟩:∃ x,busy[i]? = some x:=⟨_,List.getElem?_eq_getElem (show i<busy.length by omega)⟩
  obtain ⟨bt0,hbt⟩:∃ x,best[i]? = some x:=⟨_,List.getElem?_eq_getElem (show i<best.length by omega)⟩
  have hg:=h.cl cl (List.mem_of_getElem? hcl)
  have hsz:=A5O hg
  rw [A0 hr,A16 B2 ha]
  have hhr:A0E cl resp=if A3e cl=true then cl else hear cl resp:=by
   unfold A0E
   rw [hg.1,g1]
   cases A3e cl<;>rfl
  have hset:∀ {α:Type} {l:List α} {n:Nat} {v:α},l[n]? = some v→l.set n v=l:=fun {α l n v} hv=>by
   obtain ⟨hn,e⟩:=List.getElem?_eq_some_iff.1 hv
   rw [← e];exact List.set_getElem_self hn
  simp only [Bool.not_true,cond_false]
  rw [if_pos (show (0:Int)≤(j:Int)∧(j:Int)<(tells.length:Int) by omega),A16 .bool hb,A16 A9 hcl,A16 (.int .i64) hbt,w64 (n:=(j:Int)+1) (by omega) (by omega),Int.toNat_natCast,Int.toNat_natCast]
  constructor
  ·rw [A0 (show (0:Int)≤(j:Int) by omega),A0 (show (j:Int)<(tells.length:Int) by omega),A0 (show (0:Int)≤(i:Int) by omega),A0 (show (i:Int)<(busy.length:Int) by omega),A0 (show (i:Int)<(cls.length:Int) by omega),A0 (show (i:Int)<(best.length:Int) by omega),C76 cl resp (C4w hg) (by omega)]
   simp only [cond_true,bO,I0,E0T hjl]
   cases b<;>rfl
  ·rw [A0 (show (0:Int)≤(j:Int) by omega),A0 (show (j:Int)<(tells.length:Int) by omega),A0 (show (j:Int)≤(tells.length:Int) by omega),
    A0 (show (0:Int)≤(j:Int)+1 by omega),A0 (show (j:Int)+1≤(tells.length:Int) by omega),A0 (by simp;omega),A0 (by simp;omega),A0 (by simp;omega),A0 (by simp;omega),
    A0 (show (0:Int)≤(i:Int) by omega),A0 (show (i:Int)<(busy.length:Int) by omega),A0 (show (i:Int)<(cls.length:Int) by omega),A16 C8o hcl,B7F,C4R]
   simp only [cond_true,bO,E0U]
   cases b with
   | false=>rfl
   | true=>
    simp only [cond_true,if_true]
    cases hov:A3e cl with
    | true=>
     have e1:A0E cl resp=cl:=by rw [hhr,hov];rfl
     rw [e1,hset hcl]
     simp only [Bool.not_true,cond_false,cond_true,bO]
     rw [A0 (show (i:Int)<(best.length:Int) by omega),A16 (.int .i64) hbt]
     by_cases hgt:resp.2>bt0
     ·rw [A0 hgt,D70 hgt];rfl
     ·rw [A3 hgt,D71 hgt,hset hbt];rfl
    | false=>
     have e1:A0E cl resp=hear cl resp:=by rw [hhr,hov];rfl
     rw [e1]
     simp only [Bool.not_false,cond_false,cond_true,bO]
     rw [A0 (show (i:Int)<(best.length:Int) by omega),A16 (.int .i64) hbt]
     by_cases hgt:resp.2>bt0
     ·rw [A0 hgt,D70 hgt];rfl
     ·rw [A3 hgt,D71 hgt,hset hbt];rfl
 ·rw [A3 hr,if_neg (fun hx=>hr ⟨hx.1,by omega⟩)]
  exact ⟨rfl,rfl⟩
theorem D8K(a:List Bool)(h:a.length≤1048576):M0 a=some (a,()):=by
 simp only [M0,Z3]
 have e:(bif decide (([]:List Bool).length+a.length≤9223372036854775807) then bif decide ((([]:List Bool).length+a.length)*1≤140737488355328) then some (([]++a),()) else none else none)=some (a,()):=by
  rw [A0 (by simp;omega),A0 (by simp;omega)]
  simp
 rw [e]
 cases a with
 | nil=>simp [B3p]
 | cons x xs=>simp
theorem D8L(a:List Int)(h:a.length≤1048576):O1 a=some (a,()):=by
 simp only [O1,A0X]
 have e:(bif decide (([]:List Int).length+a.length≤9223372036854775807) then bif decide ((([]:List Int).length+a.length)*8≤140737488355328) then some (([]++a),()) else none else none)=some (a,()):=by
  rw [A0 (by simp;omega),A0 (by simp;omega)]
  simp
 rw [e]
 cases a with
 | nil=>simp [B3p]
 | cons x xs=>simp
structure CpS (w:A5):Prop where
 sv:E2P w.1
 cl:w.2.1.length≤1048576
 fi:∀ c∈w.2.1,c.2.1.length≤1048576
 bu:w.2.2.1.length≤1048576
 as_:w.2.2.2.1.length≤1048576
 da:∀ a∈w.2.2.2.1,a.2.2.length≤1048576
 te:w.2.2.2.2.1.length≤1048576
 be_:w.2.2.2.2.2.length≤1048576
theorem E3R{w:A5}(h:RWw w):CpS w:=by
 obtain ⟨⟨st,held⟩,cls,busy,asks,tells,best⟩:=w
 unfold RWw at h
 simp only at h
 obtain ⟨hR,hS,_⟩:=B8V h.g
 have hn:=h.n6
 have hlb:=h.lb
 have hlt:=h.lt
 have h60:=h.la
 have h6:=h.l6
 have h200:=h.lh
 exact ⟨⟨hS,by show held.length≤_;omega⟩,by show cls.length≤_;omega,fun c hc=>by have:=A5O (h.cl c hc);omega,by show busy.length≤_;omega,by show asks.length≤_;omega,fun a ha=>(h.ask a ha).2.2.2.2,by show tells.length≤_;omega,by show best.length≤_;omega⟩
theorem C4y{w:A5}(h:CpS w):A2X w=some (w,()):=by
 obtain ⟨⟨⟨⟨now,sure⟩,ep,nx,ups⟩,held⟩,cls,busy,asks,tells,best⟩:=w
 obtain ⟨h1,h2,h3,h4,h5,h6,h7,h8⟩:=h
 simp only at h1 h2 h3 h4 h5 h6 h7 h8
 simp only [A2X,A9e,C2V _ h1,D8K _ h4,C8e _ h7,D8L _ h8,bO]
 have k1:B8 (A0g K5 (((((now,sure),(ep,(nx,ups))),held),(cls,(busy,(asks,(tells,best))))):A5)) (0,ep,nx,now,sure,ups,held,busy,tells,best,[],())=some (ep,nx,now,sure,ups,held,busy,tells,best,cls,()):=by
  have key:=D7 (A0g K5 (((((now,sure),(ep,(nx,ups))),held),(cls,(busy,(asks,(tells,best))))):A5)) (fun i=>((i:Int),ep,nx,now,sure,ups,held,busy,tells,best,cls.take i,())) cls.length (ep,nx,now,sure,ups,held,busy,tells,best,cls,()) (fun i hi=>?_) ?_
  ·simpa using key
  ·have g1:(i:Int)<(cls.length:Int):=by omega
   have g2:(0:Int)≤(i:Int):=by omega
   have hf:=h3 _ (List.getElem_mem hi)
   simp only [A0g,A0 g1,A0 g2,cond_true]
   rw [C8 (k:=A9) (xs:=cls) hi,B5s _ (by omega)]
   simp only [bO]
   rw [A0 (by simp;omega),A0 (by simp;omega),w64 (by omega) (by omega),List.take_succ_eq_append_getElem hi]
   rfl
  ·simp [A0g]
 rw [k1]
 simp only [bO]
 have key:=D7 (A37 C5 (((((now,sure),(ep,(nx,ups))),held),(cls,(busy,(asks,(tells,best))))):A5)) (fun i=>((i:Int),ep,nx,now,sure,ups,held,busy,tells,best,cls,asks.take i,())) asks.length ((((((now,sure),(ep,(nx,ups))),held),(cls,(busy,(asks,(tells,best))))):A5),()) (fun i hi=>?_) ?_
 ·simpa using key
 ·have g1:(i:Int)<(asks.length:Int):=by omega
  have g2:(0:Int)≤(i:Int):=by omega
  have hf:=h6 _ (List.getElem_mem hi)
  simp only [A37,A0 g1,A0 g2,cond_true]
  rw [C8 (k:=F8) (xs:=asks) hi,A0w _ (by omega)]
  simp only [bO]
  rw [A0 (by simp;omega),A0 (by simp;omega),w64 (by omega) (by omega),List.take_succ_eq_append_getElem hi]
  rfl
 ·simp [A37]
@[reducible] def tI(w:A5):Int×Int×List ByteArray×List ByteArray×List TUp×List C7×List A8×List Bool×List L0×List C7×List Int×Unit:=
 (w.1.1.2.1,w.1.1.2.2.1,w.1.1.1.1,w.1.1.1.2,w.1.1.2.2.2,w.1.2,w.2.1,w.2.2.1,w.2.2.2.1,w.2.2.2.2.1,w.2.2.2.2.2,())
@[reducible] def tS(w:A5):List ByteArray×List ByteArray×Int×Int×List TUp×List C7×List A8×List Bool×List L0×List C7×List Int×Unit:=
 (w.1.1.1.1,w.1.1.1.2,w.1.1.2.1,w.1.1.2.2.1,w.1.1.2.2.2,w.1.2,w.2.1,w.2.2.1,w.2.2.2.1,w.2.2.2.2.1,w.2.2.2.2.2,())
noncomputable def A7w:Nat→A5→A5
 | 0,w=>w
 | n+1,w=>bif (Q7 w 0).1 then A7w n (Q7 w 0).2 else w
noncomputable def B5u:Nat→A5→A5
 | 0,w=>w
 | n+1,w=>bif (A0L w 0).1 then B5u n (A0L w 0).2 else w
noncomputable def B46:Nat→A5→A5
 | 0,w=>w
 | n+1,w=>(A6X (B46 n w) (n:Int)).2
noncomputable def B8Z(w:A5):A5:=(A7v (A7w w.2.2.2.1.length w)).2
noncomputable def D2P(w:A5):A5:=B5u (B8Z w).2.2.2.2.1.length (B8Z w)
noncomputable def B5v(w:A5):A5:=B46 (D2P w).2.1.length (D2P w)
theorem B8a{w:A5}{j:Int}(h:(Q7 w j).1=false):(Q7 w j).2=w:=by
 revert h
 unfold Q7
 split
 ·exact fun h=>absurd h (by simp)
 ·exact fun _=>rfl
theorem C1P{w:A5}{j:Int}(h:(A0L w j).1=false):(A0L w j).2=w:=by
 revert h
 unfold A0L
 repeat' split
 all_goals first | exact fun _=>rfl | exact fun h=>absurd h (by simp)
theorem C4z{w:A5}(h:(Q7 w 0).1=true):(Q7 w 0).2.2.2.2.1.length+1=w.2.2.2.1.length:=by
 revert h
 unfold Q7
 split
 ·rename_i hc
  exact fun _=>B7Q (j:=0) (by omega)
 ·exact fun h=>absurd h (by simp)
theorem C8r{w:A5}(h:(A0L w 0).1=true):(A0L w 0).2.2.2.2.2.1.length+1=w.2.2.2.2.1.length:=by
 revert h
 unfold A0L
 split
 ·rename_i hc
  split
  ·exact fun _=>B7Q (j:=0) (by omega)
  ·exact fun _=>B7Q (j:=0) (by omega)
 ·exact fun h=>absurd h (by simp)
theorem E0V(w:A5)(i:Int):(A6X w i).2.2.1=w.2.1:=by
 unfold A6X
 split<;>rfl
theorem C0I:∀ n {w:A5},RWw w→RWw (A7w n w)
 | 0,w,h=>h
 | n+1,w,h=>by
  unfold A7w
  cases (Q7 w 0).1
  ·exact h
  ·exact C0I n (D2M h 0)
theorem D2Q:∀ n {w:A5},RWw w→RWw (B5u n w)
 | 0,w,h=>h
 | n+1,w,h=>by
  unfold B5u
  cases (A0L w 0).1
  ·exact h
  ·exact D2Q n (D6y h 0)
theorem C50{w:A5}(h:RWw w):∀ n,RWw (B46 n w)
 | 0=>h
 | n+1=>E20 (C50 h n) _
theorem C51{w:A5}(h:RWw w):RWw (B8Z w):=E21 (C0I _ h)
theorem D2R{w:A5}(h:RWw w):RWw (D2P w):=D2Q _ (C51 h)
theorem D03{w:A5}(h:RWw w):RWw (B5v w):=C50 (D2R h) _
theorem C52{w:A5}(h:RWw w):D9 w (2,(0,[]))=some ((Q7 w 0).1,(Q7 w 0).2,()):=by
 simp only [D9,A2B,(C8q h 0).1]
 rfl
theorem D8M{w:A5}(h:RWw w):D9 w (3,(0,[]))=some ((A7v w).1,(A7v w).2,()):=by
 simp only [D9,A2B,(D2N h).1]
 rfl
theorem C8s{w:A5}(h:RWw w):D9 w (4,(0,[]))=some ((A0L w 0).1,(A0L w 0).2,()):=by
 simp only [D9,A2B,(D2O h 0).1]
 rfl
theorem D8N{w:A5}(h:RWw w)(i:Int):D9 w (1,(i,[]))=some ((A6X w i).1,(A6X w i).2,()):=by
 simp only [D9,A2B,(D6z h i).1]
 rfl
theorem C7E:∀ n {w:A5},RWw w→w.2.2.2.1.length≤n→B8 (L5 D9 2) (tI w)=some (A7w n w,()):=by
 intro n
 induction n with
 | zero=>
  intro w hr hn
  have e:=C52 hr
  have e':D9 ((((w.1.1.1.1,w.1.1.1.2),(w.1.1.2.1,(w.1.1.2.2.1,w.1.1.2.2.2))),w.1.2),(w.2.1,(w.2.2.1,(w.2.2.2.1,(w.2.2.2.2.1,w.2.2.2.2.2))))) (2,(0,[]))=_:=e
  rw [V0]
  simp only [L5]
  rw [e']
  cases hb:(Q7 w 0).1 with
  | true=>have:=C4z hb;omega
  | false=>rw [B8a hb];rfl
 | succ n ih=>
  intro w hr hn
  have e:=C52 hr
  have e':D9 ((((w.1.1.1.1,w.1.1.1.2),(w.1.1.2.1,(w.1.1.2.2.1,w.1.1.2.2.2))),w.1.2),(w.2.1,(w.2.2.1,(w.2.2.2.1,(w.2.2.2.2.1,w.2.2.2.2.2))))) (2,(0,[]))=_:=e
  rw [V0]
  simp only [L5]
  rw [e']
  unfold A7w
  cases hb:(Q7 w 0).1 with
  | true=>
   have:=C4z hb
   exact ih (D2M hr 0) (show (Q7 w 0).2.2.2.2.1.length≤n by omega)
  | false=>rw [B8a hb];rfl
theorem D04:∀ n {w:A5},RWw w→w.2.2.2.2.1.length≤n→B8 (L5 D9 4) (tI w)=some (B5u n w,()):=by
 intro n
 induction n with
 | zero=>
  intro w hr hn
  have e:=C8s hr
  have e':D9 ((((w.1.1.1.1,w.1.1.1.2),(w.1.1.2.1,(w.1.1.2.2.1,w.1.1.2.2.2))),w.1.2),(w.2.1,(w.2.2.1,(w.2.2.2.1,(w.2.2.2.2.1,w.2.2.2.2.2))))) (4,(0,[]))=_:=e
  rw [V0]
  simp only [L5]
  rw [e']
  cases hb:(A0L w 0).1 with
  | true=>have:=C8r hb;omega
  | false=>rw [C1P hb];rfl
 | succ n ih=>
  intro w hr hn
  have e:=C8s hr
  have e':D9 ((((w.1.1.1.1,w.1.1.1.2),(w.1.1.2.1,(w.1.1.2.2.1,w.1.1.2.2.2))),w.1.2),(w.2.1,(w.2.2.1,(w.2.2.2.1,(w.2.2.2.2.1,w.2.2.2.2.2))))) (4,(0,[]))=_:=e
  rw [V0]
  simp only [L5]
  rw [e']
  unfold B5u
  cases hb:(A0L w 0).1 with
  | true=>
   have:=C8r hb
   exact ih (D6y hr 0) (show (A0L w 0).2.2.2.2.2.1.length≤n by omega)
  | false=>rw [C1P hb];rfl
theorem D2S{w:A5}(h:RWw w):B8 (U7 D9 (w,())) (0,tI w)=some (B46 w.2.1.length w,()):=by
 have hn:=h.n6
 have key:=D7 (U7 D9 (w,())) (fun j=>((j:Int),tI (B46 j w))) w.2.1.length (B46 w.2.1.length w,()) (fun j hj=>?_) ?_
 ·exact key
 ·have hw:=C50 h j
  show U7 D9 (w,()) ((j:Int),tI (B46 j w))=some (.inl (((j+1:Nat):Int),tI (A6X (B46 j w) (j:Int)).2))
  generalize B46 j w=v at hw ⊢
  have e:=D8N hw (j:Int)
  have e':D9 ((((v.1.1.1.1,v.1.1.1.2),(v.1.1.2.1,(v.1.1.2.2.1,v.1.1.2.2.2))),v.1.2),(v.2.1,(v.2.2.1,(v.2.2.2.1,(v.2.2.2.2.1,v.2.2.2.2.2))))) (1,((j:Int),[]))=_:=e
  simp only [U7]
  rw [A0 (show (j:Int)<(w.2.1.length:Int) by omega),e',w64 (n:=(j:Int)+1) (by omega) (by omega)]
  rfl
 ·simp only [U7]
  rw [A3 (by omega)]
  rfl
theorem C8t{w:A5}(h:RWw w):O3 w=some (B5v w,()):=by
 have h1:=C0I w.2.2.2.1.length h
 have h2:=C51 h
 have h3:=D2R h
 simp only [O3,A7o,A3E,A6O]
 have a1:=C7E w.2.2.2.1.length h (Nat.le_refl _)
 have a2:=D8M h1
 have a3:=D04 (B8Z w).2.2.2.2.1.length h2 (Nat.le_refl _)
 have a3':B8 (L5 D9 4) (tI (A7v (A7w w.2.2.2.1.length w)).2)=some (D2P w,()):=a3
 rw [a1]
 simp only [bO]
 rw [a2]
 simp only [bO]
 rw [a3']
 exact D2S h3
noncomputable def W5:Nat→A5→A5
 | 0,w=>w
 | n+1,w=>B5v (B5v (W5 n w))
theorem C53{w:A5}(h:RWw w):∀ n,RWw (W5 n w)
 | 0=>h
 | n+1=>D03 (D03 (C53 h n))
theorem C7F{w:A5}(h:RWw w)(n:Nat)(hn:n≤100):B8 (A2C O3 (n:Int)) (0,tI w)=some (W5 n w,()):=by
 have key:=D7 (A2C O3 (n:Int)) (fun j=>((j:Int),tI (W5 j w))) n (W5 n w,()) (fun j hj=>?_) ?_
 ·exact key
 ·have hw:=C53 h j
  show A2C O3 (n:Int) ((j:Int),tI (W5 j w))=some (.inl (((j+1:Nat):Int),tI (B5v (B5v (W5 j w)))))
  generalize W5 j w=v at hw ⊢
  have e':O3 ((((v.1.1.1.1,v.1.1.1.2),(v.1.1.2.1,(v.1.1.2.2.1,v.1.1.2.2.2))),v.1.2),(v.2.1,(v.2.2.1,(v.2.2.2.1,(v.2.2.2.2.1,v.2.2.2.2.2)))))=_:=C8t hw
  simp only [A2C]
  rw [A0 (show (j:Int)<(n:Int) by omega),e',w64 (n:=(j:Int)+1) (by omega) (by omega)]
  simp only [bO,cond_true]
  rw [C8t (D03 hw)]
  simp only [bO]
  generalize B5v (B5v v)=u
  rfl
 ·simp only [A2C]
  rw [A3 (by omega)]
  rfl
theorem C1Q{k:Nat}{w:A5}(h:WIw k w):RWw w:=by
 obtain ⟨c,uc,h⟩:=h
 have hold:∀ {l:List C7} {us:List TUp},(∀ h'∈l,∃ (i:Nat) (cl:A8),w.2.1[i]? = some cl∧h'.1=(i:Int)∧Fits cl h'.2∧Told cl h'.2 us)→∀ h'∈l,hOk w.2.1.length h':=fun hh h' hm=>by
  obtain ⟨i,cl,g1,g2,g3,_⟩:=hh h' hm
  have:=C4u g1
  exact ⟨C9x (h.cl i cl g1) g3,by omega,by omega⟩
 have hcl:∀ (i:Nat) (cl:A8),w.2.1[i]? = some cl→cOk cl:=fun i cl g=>⟨(h.cl i cl g).ok,(h.cl i cl g).byt⟩
 exact {
  g:=h.dur.g
  lh:=h.lh
  hd:=hold h.hld
  n6:=h.n6
  lb:=h.lb
  lt:=h.lt
  cl:=fun cl hm=>by
   obtain ⟨i,hi,rfl⟩:=List.getElem_of_mem hm
   exact hcl i _ (List.getElem?_eq_getElem hi)
  la:=h.la
  ask:=fun a ha=>by
   obtain ⟨i,cl,g1,g2,g3⟩:=h.ask a ha
   have:=C4u g1
   obtain ⟨k1,k2,k3⟩:=C4x (hcl i cl g1) g3
   exact ⟨k1,by omega,by omega,k2,k3⟩
  l6:=h.l6
  tl:=hold h.tell}
theorem C3W{w:A5}{P:Option (Bool×A5×Unit)}{b:Bool}{v u:A5}{c:Bool}(h1:P=some (b,v,()))(h2:P=some (c,u,())):u=v:=by
 rw [h1] at h2
 injection h2 with h2;injection h2 with _ h2;injection h2 with h2
 exact h2.symm
theorem E23{k:Nat}{w:A5}(h:WIw k w)(i:Int)(hi:i<9223372036854775807):WIw k (A6X w i).2:=by
 obtain ⟨b,w',q,hw⟩:=D6u k w h i hi
 rw [C3W (w:=w) q (D6z (C1Q h) i).2]
 exact hw
theorem D2T{k:Nat}{w:A5}(h:WIw k w)(i:Int)(hi:i<9223372036854775807):WIw k (Q7 w i).2:=by
 obtain ⟨b,w',q,hw⟩:=D2J k w h i hi
 rw [C3W (w:=w) q (C8q (C1Q h) i).2]
 exact hw
theorem E24{k:Nat}{w:A5}(h:WIw k w):WIw k (A7v w).2:=by
 obtain ⟨b,w',q,hw⟩:=D6v k w h
 rw [C3W (w:=w) q (D2N (C1Q h)).2]
 exact hw
theorem D72{k:Nat}{w:A5}(h:WIw k w)(i:Int)(hi:i<9223372036854775807):WIw k (A0L w i).2:=by
 obtain ⟨b,w',q,hw⟩:=D6w k w h i hi
 rw [C3W (w:=w) q (D2O (C1Q h) i).2]
 exact hw
theorem C8u{k:Nat}:∀ n {w:A5},WIw k w→WIw k (A7w n w)
 | 0,w,h=>h
 | n+1,w,h=>by
  unfold A7w
  cases (Q7 w 0).1
  ·exact h
  ·exact C8u n (D2T h 0 (by omega))
theorem D2U{k:Nat}:∀ n {w:A5},WIw k w→WIw k (B5u n w)
 | 0,w,h=>h
 | n+1,w,h=>by
  unfold B5u
  cases (A0L w 0).1
  ·exact h
  ·exact D2U n (D72 h 0 (by omega))
theorem D2V{k:Nat}{w:A5}(h:WIw k w):∀ n,n≤1000→WIw k (B46 n w)
 | 0,_=>h
 | n+1,hn=>E23 (D2V h n (by omega)) _ (by omega)
theorem C54{k:Nat}{w:A5}(h:WIw k w):WIw k (B8Z w):=E24 (C8u _ h)
theorem D2W{k:Nat}{w:A5}(h:WIw k w):WIw k (D2P w):=D2U _ (C54 h)
theorem D05{k:Nat}{w:A5}(h:WIw k w):WIw k (B5v w):=D2V (D2W h) _ (by have:=(C9y (D2W h)).1;omega)
theorem A7x{k:Nat}{w:A5}(h:WIw k w):∀ n,WIw k (W5 n w)
 | 0=>h
 | n+1=>D05 (D05 (A7x h n))
structure Fwd (w v:A5):Prop where
 le:B7O w.1.1.2.2.2 v.1.1.2.2.2
 len:v.2.1.length=w.2.1.length
 same:∀ (i:Nat) (c c':A8),w.2.1[i]? = some c→v.2.1[i]? = some c'→c'.1=c.1∧c'.2.1=c.2.1
theorem A7y(w:A5):Fwd w w:=⟨A2D _,rfl,fun i c c' h h'=>by rw [h] at h';injection h' with h';rw [h'];exact ⟨rfl,rfl⟩⟩
theorem A3h{w v u:A5}(h:Fwd w v)(h':Fwd v u):Fwd w u:=
 ⟨C4q h.le h'.le,h'.len.trans h.len,fun i c c' g g'=>by
  have hi:=C4u g
  have hv:v.2.1[i]? = some (v.2.1[i]'(by rw [h.len];exact hi)):=List.getElem?_eq_getElem _
  obtain ⟨a1,a2⟩:=h.same i _ _ g hv
  obtain ⟨b1,b2⟩:=h'.same i _ _ hv g'
  exact ⟨b1.trans a1,b2.trans a2⟩⟩
theorem D06{w v:A5}(h1:B7O w.1.1.2.2.2 v.1.1.2.2.2)(h2:v.2.1=w.2.1):Fwd w v:=
 ⟨h1,by rw [h2],fun i c c' g g'=>by rw [h2,g] at g';injection g' with g';rw [g'];exact ⟨rfl,rfl⟩⟩
theorem D2X(w:A5){v:A5}(h1:v.1.1=w.1.1)(h2:v.2.1=w.2.1):Fwd w v:=D06 (by rw [h1];exact A2D _) h2
theorem E0W(w:A5)(i:Int):Fwd w (A6X w i).2:=D06 (by unfold A6X;split<;>exact A2D _) (E0V w i)
theorem E0X(w:A5):Fwd w (A7v w).2:=D06 (by unfold A7v;split<;>exact A2D _) (by unfold A7v;split<;>rfl)
theorem C7G(c:A8)(r:Q8):(A0E c r).1=c.1∧(A0E c r).2.1=c.2.1:=by
 unfold A0E hear far
 repeat' split
 all_goals exact ⟨rfl,rfl⟩
theorem E0Y{w:A5}(h:RWw w)(j:Int):Fwd w (A0L w j).2:=by
 unfold A0L
 split
 ·rename_i hc
  split
  ·refine ⟨A2D _,List.length_set,fun i c c' g g'=>?_⟩
   rcases B1z g' with ⟨e,rfl⟩ | ⟨_,g'⟩
   ·obtain ⟨q,hq⟩:∃ q:Nat,j=(q:Int):=⟨j.toNat,by omega⟩
    subst hq
    have hql:q<w.2.2.2.2.1.length:=by omega
    have hh:=h.tl _ (List.getElem_mem hql)
    rw [C8 (k:=B2) (xs:=w.2.2.2.2.1) hql] at e ⊢
    obtain ⟨_,g2,g3⟩:=hh
    have hi:(w.2.2.2.2.1[q]).1=(i:Int):=by omega
    rw [hi,A16 A9 g]
    exact C7G c _
   ·rw [g] at g';injection g' with g';rw [g'];exact ⟨rfl,rfl⟩
  ·exact D2X w rfl rfl
 ·exact A7y w
theorem D8O{k:Nat}{w:A5}(h:WIw k w)(j:Int):Fwd w (Q7 w j).2:=by
 refine D06 ?_ (by unfold Q7;split<;>rfl)
 unfold Q7
 split
 ·rename_i hc
  obtain ⟨c,uc,h⟩:=h
  obtain ⟨q,rfl⟩:∃ q:Nat,j=(q:Int):=⟨j.toNat,by omega⟩
  have hql:q<w.2.2.2.1.length:=by omega
  obtain ⟨i,cl,hcl,hai,hq⟩:=h.ask _ (List.getElem_mem hql)
  have hg:=h.cl i cl hcl
  obtain ⟨hR,hS,hok⟩:=B5N h
  have hser:=C8n hg hR (fun u hu e=>by
   obtain ⟨i',a',h1,h2,h3⟩:=h.oku u hu
   have:=h.dist i' i a' cl h1 hcl (by rw [← h2,e])
   subst this
   rw [hcl] at h1;injection h1 with h1;rw [h1];exact h3) hq
  simp only
  rw [C8 (k:=F8) (xs:=w.2.2.2.1) hql]
  rcases hser.1 with e | ⟨r,us,g1,g2,g3,g4,g5,g6,e,g7⟩
  ·rw [e];exact A2D _
  ·rw [e];exact B7P g5 g6
 ·exact A2D _
theorem C55{k:Nat}:∀ n {w:A5},WIw k w→Fwd w (A7w n w)
 | 0,w,h=>A7y w
 | n+1,w,h=>by
  unfold A7w
  cases (Q7 w 0).1
  ·exact A7y w
  ·exact A3h (D8O h 0) (C55 n (D2T h 0 (by omega)))
theorem C8v{k:Nat}:∀ n {w:A5},WIw k w→Fwd w (B5u n w)
 | 0,w,h=>A7y w
 | n+1,w,h=>by
  unfold B5u
  cases (A0L w 0).1
  ·exact A7y w
  ·exact A3h (E0Y (C1Q h) 0) (C8v n (D72 h 0 (by omega)))
theorem C8w(w:A5):∀ n,Fwd w (B46 n w)
 | 0=>A7y w
 | n+1=>A3h (C8w w n) (E0W _ _)
theorem D2Y{k:Nat}{w:A5}(h:WIw k w):Fwd w (B5v w):=
 A3h (A3h (A3h (C55 _ h) (E0X _)) (C8v _ (C54 h))) (C8w _ _)
theorem C1R{k:Nat}{w:A5}(h:WIw k w):∀ n,Fwd w (W5 n w)
 | 0=>A7y w
 | n+1=>A3h (C1R h n) (A3h (D2Y (A7x h n)) (D2Y (D05 (A7x h n))))
def lk(st:A7)(c:A8):Nat:=c.2.1.length-List.length (A7q st c.1).1.2.2.1
def A96(st:A7)(cls:List A8):Nat:=(cls.map (lk st)).sum
theorem D2Z(st:A7):∀ (cls:List A8),(∀ c∈cls,c.2.1.length≤400)→A96 st cls≤400*cls.length
 | [],_=>Nat.le_refl _
 | c::cls,h=>by
  have h1:=D2Z st cls fun x hx=>h x (List.mem_cons_of_mem _ hx)
  have h2:=h c List.mem_cons_self
  unfold A96 at h1 ⊢
  simp only [List.map_cons,List.sum_cons,List.length_cons]
  unfold lk at h1 ⊢
  omega
theorem E0Z{α:Type}(f g:α→Nat):∀ (l l':List α),l'.length=l.length→(∀ (i:Nat) (x y:α),l[i]? = some x→l'[i]? = some y→g y≤f x)→(l'.map g).sum≤(l.map f).sum
 | [],[],_,_=>Nat.le_refl _
 | x::l,y::l',h,hh=>by
  have h1:=E0Z f g l l' (by simpa using h) fun i a b ha hb=>hh (i+1) a b (by simpa using ha) (by simpa using hb)
  have h2:=hh 0 x y rfl rfl
  simp only [List.map_cons,List.sum_cons]
  omega
 | [],_::_,h,_=>by simp at h
 | _::_,[],h,_=>by simp at h
theorem C0J{k:Nat}{w:A5}(h:WIw k w):A1h w=some ((A96 w.1.1 w.2.1:Int),()):=by
 obtain ⟨c,uc,h⟩:=h
 have hs:=(D6x h).1
 have hup:Sm 1048576 (.sl 0 kUp) w.1.1.2.2.2:=Sm.r (Sm.r (Sm.r (Sm.l (Sm.l hs))))
 have hn:=h.n6
 have h400:∀ x∈w.2.1,x.2.1.length≤400:=fun x hx=>by
  obtain ⟨i,hi,rfl⟩:=List.getElem_of_mem hx
  exact (Y4 (h.cl i _ (List.getElem?_eq_getElem hi))).2.1
 simp only [A1h,A8r]
 have key:=D7 (R3 P9 w) (fun j=>((A96 w.1.1 (w.2.1.take j):Int),(j:Int),())) w.2.1.length ((A96 w.1.1 w.2.1:Int),()) (fun j hj=>?_) ?_
 ·exact key
 ·have h4:=h400 _ (List.getElem_mem hj)
  have hle:=D2Z w.1.1 (w.2.1.take j) fun x hx=>h400 x (List.mem_of_mem_take hx)
  have hjl:(w.2.1.take j).length≤6:=by rw [List.length_take];omega
  simp only [R3]
  rw [A0 (show (j:Int)<(w.2.1.length:Int) by omega),A0 (show (0:Int)≤(j:Int) by omega),C8 (k:=A9) (xs:=w.2.1) hj,A7B w.1.1 _ hup]
  simp only [cond_true,A4]
  have hd:List.length (A7q w.1.1 (w.2.1[j]).1).1.2.2.1≤1048576:=by
   rcases B7S w.1.1 (w.2.1[j]).1 with ⟨u,hu,_,e⟩ | e
   ·rw [e]
    have h1:Sm 1048576 kUp u:=hup.2 u hu
    exact (Sm.l (Sm.r (Sm.r h1))).1
   ·rw [e];exact Nat.zero_le _
  have hlk:A96 w.1.1 (w.2.1.take (j+1))=A96 w.1.1 (w.2.1.take j)+lk w.1.1 w.2.1[j]:=by
   unfold A96
   rw [List.take_succ_eq_append_getElem hj,List.map_append,List.sum_append]
   simp
  have e:(bif decide ((0:Int)>IntKind.i64.wrap (((w.2.1[j]).2.1.length:Int)-(List.length (A7q w.1.1 (w.2.1[j]).1).1.2.2.1:Int))) then (0:Int) else IntKind.i64.wrap (((w.2.1[j]).2.1.length:Int)-(List.length (A7q w.1.1 (w.2.1[j]).1).1.2.2.1:Int)))=(lk w.1.1 w.2.1[j]:Int):=by
   rw [w64 (by omega) (by omega)]
   unfold lk
   by_cases hc:(0:Int)>((w.2.1[j]).2.1.length:Int)-(List.length (A7q w.1.1 (w.2.1[j]).1).1.2.2.1:Int)
   ·rw [A0 hc];simp only [cond_true];omega
   ·rw [A3 hc];simp only [cond_false];omega
  have hlk2:lk w.1.1 w.2.1[j]≤400:=by unfold lk;omega
  rw [e,hlk,w64 (n:=(j:Int)+1) (by omega) (by omega),w64 (n:=(A96 w.1.1 (w.2.1.take j):Int)+(lk w.1.1 w.2.1[j]:Int)) (by omega) (by omega)]
  rfl
 ·simp only [R3,List.take_length]
  rw [A3 (by omega)]
  rfl
theorem D8P{k:Nat}{w:A5}(h:WIw k w):A3d w=some ((A96 w.1.1 w.2.1:Int),()):=by
 obtain ⟨c,uc,h'⟩:=h
 exact (C9j w (D6x h').1).symm.trans (C0J ⟨c,uc,h'⟩)
theorem E0a{k:Nat}{w v:A5}(hv:WIw k v)(h:Fwd w v):A96 v.1.1 v.2.1≤A96 w.1.1 w.2.1:=by
 have hU:=B43 (C1Q hv).g
 refine E0Z (lk w.1.1) (lk v.1.1) w.2.1 v.2.1 h.len fun i x y hx hy=>?_
 obtain ⟨e1,e2⟩:=h.same i x y hx hy
 unfold lk
 rw [e1,e2]
 rcases B7S w.1.1 x.1 with ⟨u,hu,hid,e⟩ | e
 ·obtain ⟨z,hz,hle⟩:=h.le u hu
  have:=hle.len
  rw [e,← hid,hle.id,C4o hU.1 hz]
  show _-List.length z.2.2.1≤_-List.length u.2.2.1
  omega
 ·rw [e]
  show _-_≤_-0
  omega
theorem D8Q{k:Nat}{w:A5}(h:WIw k w):B3j w=some (0,()):=by
 obtain ⟨o1,o2⟩:=C4v h
 obtain ⟨i1,i2,i3,i4⟩:=E0O h
 simp only [B3j,C4I,o2,i1,i2,i3,i4,bO,Bool.not_true]
 rfl
theorem C1S{k:Nat}{w:A5}(h:WIw k w)(n:Nat)(hn:n≤100):A0b w (n:Int)=some (W5 n w,()):=by
 have hr:=C1Q h
 simp only [A0b,B7E,C4y (E3R hr),(C4v h).2,L2,bO]
 rw [A0 (show (0:Int)≤(n:Int)∧(n:Int)≤100 by omega)]
 exact C7F hr n hn
theorem C56{k:Nat}{w:A5}(h:WIw k w):B0J w=some (W5 1 w,()):=by
 have e:=C1S h 1 (by omega)
 have e':A0b w 1=_:=e
 simp only [B0J,C02,e',bO]
theorem D2a(v:A5)(hn:v.2.1.length≤6):B8 (A1i (v,()) (v,())) (0,())=some (.inl ()):=by
 have key:=D7 (A1i (v,()) (v,())) (fun j=>((j:Int),())) v.2.1.length (.inl ()) (fun j hj=>?_) ?_
 ·exact key
 ·simp only [A1i]
  rw [A0 (show (j:Int)<(v.2.1.length:Int) by omega),A0 (show (0:Int)≤(j:Int) by omega),A0 trivial,w64 (n:=(j:Int)+1) (by omega) (by omega)]
  rfl
 ·simp only [A1i]
  rw [A3 (by omega)]
  rfl
theorem exactRounds(a:List Int):B1p a=some (true,()):=by
 simp only [B1p,B1o,C3S,C9a,bO]
 by_cases ha:(a.length:Int)>1048576
 ·rw [A0 ha];rfl
 rw [A3 ha]
 obtain ⟨w,q,hw⟩:=C9z a (by omega)
 have h1:=A7x hw 1
 have h2:=A7x h1 1
 have e2:W5 1 (W5 1 w)=W5 2 w:=by simp only [W5]
 have r1:=C56 hw
 have r2:=C56 h1
 have r3:=C1S hw 2 (by omega)
 have r3':A0b w 2=some (W5 2 w,()):=r3
 rw [e2] at r2 h2
 have hf:=C1R hw 2
 have hl:=E0a h2 hf
 have hlen:=hf.len
 have hU:=B43 (C1Q h2).g
 have hn:=(C9y h2).1
 have k1:=C0J h2
 have k2:=C0J hw
 have k3:=D8P hw
 have k4:=D8Q h2
 simp only [cond_false,q,r1,r2,r3',bO]
 generalize W5 2 w=v at hl hlen hU hn k1 k4 ⊢
 simp only [C9t v.1.1.2.2.2 hU,k1,k2,k3,k4,D2a v hn,bO]
 rw [A0 (show (v.2.1.length:Int)=(w.2.1.length:Int) by omega),A0 (show (A96 v.1.1 v.2.1:Int)≤(A96 w.1.1 w.2.1:Int) by omega)]
 simp [B6]
end Go.Proofs.YtpdcljonclhhpaaGreat.Ev
