/- What the plain functions of the program and of the reference answer: laws of plain data. -/
import Derived.Test.YthnfghmjipikhaaGreatDoorXSpokena
set_option linter.unusedVariables false
set_option linter.unusedSimpArgs false
set_option linter.unusedSectionVars false
namespace Go.Proofs.YthnfghmjipikhaaGreatDoor.Ev
open IntKind (i64 u8 u64 u32)
set_option maxRecDepth 100000
set_option maxRecDepth 100000
set_option maxRecDepth 100000
set_option maxRecDepth 100000
set_option maxRecDepth 100000
set_option maxRecDepth 100000
set_option maxRecDepth 100000
set_option maxRecDepth 100000
set_option maxRecDepth 100000
set_option maxRecDepth 100000
set_option maxRecDepth 100000
set_option maxRecDepth 100000
set_option maxRecDepth 100000
set_option maxRecDepth 100000
set_option maxRecDepth 100000
set_option maxRecDepth 100000
set_option maxRecDepth 100000
set_option maxRecDepth 100000
section
variable {b:List Int} (hb:Byt b) (hl:b.length<=500000000)
include hb hl
theorem B8Q(p m:Nat)(hp:p<=1000000000)(hm:1<=m/\m<=8)(t:E3)(l:List C2) :
    U1 (b,(p:Int),0,t,l) (m:Int)=some (if (E4 b p m).2.2.1=false then (0,(b,(p:Int),1,t,l),()) else ((E4 b p m).1,(b,(E4 b p m).2.1,0,t,l),())):=by
  simp only [U1,A3c,B8O hb hl p m hp hm,bO];by_cases h1:(E4 b p m).2.2.1=false
  · rw [A6 h1,h1];rfl
  · rw [A5 h1,show (E4 b p m).2.2.1=true by simpa using h1];rfl
theorem B8R(p:Nat)(hp:p<=1000000000)(t:E3)(l:List C2) :
    A06 (b,(p:Int),0,t,l)=some (if (T4 b p).2.2.1=false then (⟨#[]⟩,(b,(p:Int),1,t,l),()) else ((T4 b p).1,(b,(T4 b p).2.1,0,t,l),())):=by
  simp only [A06,A2V,B8P hb hl p hp,bO];by_cases h1:(T4 b p).2.2.1=false
  · rw [A6 h1,h1];rfl
  · rw [A5 h1,show (T4 b p).2.2.1=true by simpa using h1];rfl
theorem C6m(p:Nat)(hp:p<=1000000000)(c:Int)(hc:c≠0)(t:E3)(l:List C2) :
    A06 (b,(p:Int),c,t,l)=some (⟨#[]⟩,(b,(p:Int),c,t,l),()):=by
  simp only [A06,A2V,B8P hb hl p hp,bO,J6,T1,A8 hc,M1,B2,A7]
theorem C0g(p:Nat)(c:Int)(t:E3)(ht:A1V t)(l:List C2)(i:Int)(hi:0<=i/\i<=100000000) :
    R7 (b,(p:Int),c,t,l) i=some ((A2f t i).1,(if (A2f t i).2.1=false then (b,(p:Int),if c=0 then 2 else c,t,l) else (b,(p:Int),c,t,l)),()):=by
  have h:=B6b ht;simp only [R7,A4L,D0M t i hi (by omega),bO,J6,T1];by_cases h1:(A2f t i).2.1=false
  · rw [A6 h1,h1]
    by_cases hc:c=0
    · rw [A0 hc,A6 hc];rfl
    · rw [A8 hc,A5 hc];rfl
  · rw [A5 h1,show (A2f t i).2.1=true by simpa using h1];rfl
theorem D2F(p:Nat)(c:Int)(hc:c≠0)(t:E3)(ht:A1V t)(l:List C2)(i:Int)(hi:0<=i/\i<=100000000) :
    R7 (b,(p:Int),c,t,l) i=some ((A2f t i).1,(b,(p:Int),c,t,l),()):=by
  rw [C0g hb hl p c t ht l i hi,A5 hc];split<;>rfl
theorem D0O(p:Nat)(t:E3)(ht:A1V t)(l:List C2)(i:Int)(hi:0<=i/\i<=100000000) :
    R7 (b,(p:Int),0,t,l) i=some ((A2f t i).1,(b,(p:Int),(if (A2f t i).2.1=false then 2 else 0),t,l),()):=by
  rw [C0g hb hl p 0 t ht l i hi,A6 rfl];split<;>rfl
theorem C21(p m:Nat)(hp:p<=1000000000)(hm:1<=m/\m<=8)(t:E3)(ht:A1V t)(l:List C2) :
    ∃ f q,W4 (b,(p:Int),0,t,l) (m:Int)=some (f,(b,q,(A79 t b p m).1,t,l),())/\((A79 t b p m).1=0->f=(A79 t b p m).2.1/\q=((A79 t b p m).2.2:Int)):=by
  simp only [W4,A1M,B8Q hb hl p m hp hm t l,bO];unfold A79;by_cases h1:(E4 b p m).2.2.1=false
  · rw [A6 h1,A6 h1]
    exact ⟨_,_,rfl,fun h=>by cases h⟩
  have r1:=A4m b p m hm.2 (by simpa using h1);have e1:(E4 b p m).2.1=(((E4 b p m).2.1.toNat:Nat):Int):=by omega
  rw [A5 h1,A5 h1];simp only [A0B,E0,A7];by_cases h2:(E4 b p m).1=0
  · rw [A6 h2,A0 h2]
    simp only [B2];rw [e1,B8R hb hl _ (by omega) t l,E6];simp only [bO];by_cases h3:(T4 b (E4 b p m).2.1.toNat).2.2.1=false
    · rw [A6 h3,A6 h3]
      simp only [bSl];rw [C6m hb hl _ (by omega) 1 (by decide) t l];exact ⟨_,_,rfl,fun h=>by cases h⟩
    have r2:=B2A (E4 b p m).2.1.toNat (by simpa using h3);have e2:(T4 b (E4 b p m).2.1.toNat).2.1=(((T4 b (E4 b p m).2.1.toNat).2.1.toNat:Nat):Int):=by omega
    rw [A5 h3,A5 h3];simp only [bSl];rw [e2,B8R hb hl _ (by omega) t l,E6];simp only [bO];by_cases h4:(T4 b (T4 b (E4 b p m).2.1.toNat).2.1.toNat).2.2.1=false
    · rw [A6 h4,A6 h4]
      exact ⟨_,_,rfl,fun h=>by cases h⟩
    · have r3:=B2A (T4 b (E4 b p m).2.1.toNat).2.1.toNat (by simpa using h4)
      rw [A5 h4,A5 h4];exact ⟨_,_,rfl,fun _=>⟨rfl,by simp only;omega⟩⟩
  · rw [A5 h2,A8 h2]
    simp only [A7];rw [e1,C0g hb hl _ 0 t ht l _ (by omega),E6];simp only [bO];by_cases h5:(A2f t (E4 b p m).1).2.1=false
    · rw [A6 h5,A6 h5]
      simp only [bSl,M7];rw [C6m hb hl _ (by omega) 2 (by decide) t l];exact ⟨_,_,rfl,fun h=>by cases h⟩
    rw [A5 h5,A5 h5];simp only [bSl];rw [B8R hb hl _ (by omega) t l];simp only [bO];by_cases h3:(T4 b (E4 b p m).2.1.toNat).2.2.1=false
    · rw [A6 h3,A6 h3]
      exact ⟨_,_,rfl,fun h=>by cases h⟩
    · have r2:=B2A (E4 b p m).2.1.toNat (by simpa using h3)
      rw [A5 h3,A5 h3];exact ⟨_,_,rfl,fun _=>⟨rfl,by simp only;omega⟩⟩
end
set_option maxRecDepth 100000
abbrev RdT:=Int×E3×Nat×List C2
def B3c(t:E3)(p:Nat)(l:List C2)(f:C2):RdT:=(if 100<l.length+1 then 4 else 0,t,p,l ++ [f])
noncomputable def B6e(b:List Int)(most:Int)(t:E3)(p:Nat)(l:List C2):RdT:=
  if 128<=byN b p then
    (if (E4 b p 7).2.2.1=false then (1,t,p,l) else if (A2f t (E4 b p 7).1).2.1=false then (2,t,p,l) else B3c t (E4 b p 7).2.1.toNat l (A2f t (E4 b p 7).1).1)
  else if 64<=byN b p then (if (A79 t b p 6).1=0 then B3c (D7a t (A79 t b p 6).2.1) (A79 t b p 6).2.2 l (A79 t b p 6).2.1 else ((A79 t b p 6).1,t,p,l))
  else if 32<=byN b p then (if (E4 b p 5).2.2.1=false then (1,t,p,l) else if (E4 b p 5).1>most\/0<l.length then (3,t,p,l) else (0,D7b t (E4 b p 5).1,(E4 b p 5).2.1.toNat,l))
  else (if (A79 t b p 4).1=0 then B3c t (A79 t b p 4).2.2 l (A79 t b p 4).2.1 else ((A79 t b p 4).1,t,p,l))
def RdK(b:List Int)(t:E3)(p:Nat)(l:List C2):Prop:=A1V t/\p<=b.length/\l.length<=100/\∀ f∈l,f.1.size<=10000/\f.2.size<=10000
theorem C6n{b:List Int}{t:E3}{p p':Nat}{l:List C2}{f:C2}(ht:A1V t)(hp:p'<=b.length)(hlt:p<p')(hk:l.length<=100/\∀ f∈l,f.1.size<=10000/\f.2.size<=10000)(h1:f.1.size<=10000)(h2:f.2.size<=10000)(h:(B3c t p' l f).1=0) :
    RdK b (B3c t p' l f).2.1 (B3c t p' l f).2.2.1 (B3c t p' l f).2.2.2/\p<(B3c t p' l f).2.2.1:=by
  unfold B3c at h ⊢;by_cases h3:100<l.length+1
  · simp only [A6 h3] at h;cases h
  · refine ⟨⟨ht,hp,by simp only [A4,H7];omega,fun x hx=>?_⟩,hlt⟩
    rcases C8.1 hx with q | q
    · exact hk.2 x q
    · rcases B1.1 q with rfl
      exact ⟨h1,h2⟩
theorem D68{b:List Int}{most:Int}(hmost:most<=4096){t:E3}{p:Nat}{l:List C2}(hk:RdK b t p l)(h:(B6e b most t p l).1=0):RdK b (B6e b most t p l).2.1 (B6e b most t p l).2.2.1 (B6e b most t p l).2.2.2/\p<(B6e b most t p l).2.2.1:=by
  obtain ⟨ht,hp,hl⟩:=hk;unfold B6e at h ⊢;by_cases c1:128<=byN b p
  · rw [A6 c1] at h ⊢
    by_cases h1:(E4 b p 7).2.2.1=false
    · rw [A6 h1] at h;cases h
    rw [A5 h1] at h ⊢;have r1:=A4m b p 7 (by omega) (by simpa using h1);by_cases h2:(A2f t (E4 b p 7).1).2.1=false
    · rw [A6 h2] at h;cases h
    rw [A5 h2] at h ⊢;have r2:=D2E ht (E4 b p 7).1;exact C6n ht (by omega) (by omega) hl r2.1 r2.2 h
  rw [A5 c1] at h ⊢;by_cases c2:64<=byN b p
  · rw [A6 c2] at h ⊢
    by_cases h1:(A79 t b p 6).1=0
    · rw [A6 h1] at h ⊢
      obtain ⟨q1,q2,q3,q4⟩:=D0N ht (by omega) h1;exact C6n (D65 ht q1 q2).2 q4 q3 hl q1 q2 h
    · rw [A5 h1] at h;exact absurd h h1
  rw [A5 c2] at h ⊢;by_cases c3:32<=byN b p
  · rw [A6 c3] at h ⊢
    by_cases h1:(E4 b p 5).2.2.1=false
    · rw [A6 h1] at h;cases h
    rw [A5 h1] at h ⊢;have r1:=A4m b p 5 (by omega) (by simpa using h1);by_cases h2:(E4 b p 5).1>most\/0<l.length
    · rw [A6 h2] at h;cases h
    rw [A5 h2];exact ⟨⟨(D66 ht r1.1 (by omega)).2,by simp only;omega,hl⟩,by simp only;omega⟩
  rw [A5 c3] at h ⊢;by_cases h1:(A79 t b p 4).1=0
  · rw [A6 h1] at h ⊢
    obtain ⟨q1,q2,q3,q4⟩:=D0N ht (by omega) h1;exact C6n ht q4 q3 hl q1 q2 h
  · rw [A5 h1] at h;exact absurd h h1
theorem D3w(t:E3)(p:Nat)(l:List C2)(f:C2):(if 100<l.length+1 then (if (0:Int)=0 then 4 else 0) else 0)=(B3c t p l f).1:=by
  unfold B3c;by_cases h:100<l.length+1
  · rw [A6 h,A6 rfl]
    simp only [A6 h]
  · rw [A5 h]
    simp only [A5 h]
theorem E2c(l:List C2){c:Int}(h:c≠0):(if 100<l.length+1 then (if c=0 then 4 else c) else c)=c:=by
  rw [A5 h];split<;>rfl
theorem C6o(b:List Int)(q c:Int)(t:E3)(l:List C2)(f:C2)(hl:l.length<=1000) :
    (bif decide (l.length+([f]:List C2).length<=9223372036854775807) then bif decide ((l.length+([f]:List C2).length)*32<=140737488355328) then bif (decide (((l ++ [f]).length:Int)>100)) then B0 (J6 (b,(q,(c,(t,(l ++ [f]))))) 4) fun c63=>some (c63.1,()) else some ((b,(q,(c,(t,(l ++ [f]))))),()) else none else none) =
      some ((b,q,(if 100<l.length+1 then (if c=0 then 4 else c) else c),t,l ++ [f]),()):=by
  rw [D7F (by simp;omega)];by_cases h:100<l.length+1
  · rw [A0 (show ((l ++ [f]).length:Int)>100 by simp;omega),A6 h]
    simp only [B2,J6,T1];by_cases hc:c=0
    · rw [A0 hc,A6 hc];rfl
    · rw [A8 hc,A5 hc];rfl
  · rw [A8 (show ¬ ((l ++ [f]).length:Int)>100 by simp;omega),A5 h]
    rfl
theorem D2G{t:E3}(ht:A1V t){n:Int}(h1:0<=n)(h2:n<=4096):B66 t n=some (D7b t n,()):=by
  have hl:=B6b ht;simp only [B66,C0P,B1m t (by omega),V1,D67 ht,bO,A0 (show 0<=n/\n<=4096 from ⟨h1,h2⟩),E0,A7,bSl,(D66 ht h1 h2).1]
theorem D7c{b:List Int}(hb:Byt b)(hl:b.length<=500000000)(most:Int)(hmost:0<=most/\most<=4096)(t:E3)(p:Nat)(l:List C2)(hk:RdK b t p l)(hp:p<b.length) :
    ∃ q c t' l',P4 (b,(p:Int),0,t,l) most=some ((b,q,c,t',l'),())/\c=(B6e b most t p l).1/\((B6e b most t p l).1=0->q=((B6e b most t p l).2.2.1:Int)/\t' = (B6e b most t p l).2.1/\l' = (B6e b most t p l).2.2.2):=by
  obtain ⟨ht,_,hl1,hl2⟩:=hk;obtain ⟨q1,q2⟩:=C0f hb hp;have d1:decide ((0:Int)<=(p:Int))=true:=A0 (by omega);have d2:decide ((p:Int)<(b.length:Int))=true:=A0 (by omega);simp only [P4,A2K,d1,d2,B2,q1];unfold B6e;by_cases c1:128<=byN b p
  · rw [A0 (show (byN b p:Int)>=128 by omega),A6 c1]
    have e:=B8Q hb hl p 7 (by omega) (by omega) t l;rw [show ((7:Nat):Int)=7 from rfl] at e;simp only [B2,e,bO];by_cases h1:(E4 b p 7).2.2.1=false
    · rw [A6 h1,A6 h1]
      simp only [];rw [D2F hb hl p 1 (by decide) t ht l 0 (by omega)];simp only [bO,bSl];rw [show ((A2f t 0).1.1,(A2f t 0).1.2)=(A2f t 0).1 from rfl,C6o b _ 1 t l _ (by omega)];exact ⟨_,_,_,_,rfl,by simp,fun h=>by cases h⟩
    have r1:=A4m b p 7 (by omega) (by simpa using h1);have e1:(E4 b p 7).2.1=(((E4 b p 7).2.1.toNat:Nat):Int):=by omega
    rw [A5 h1,A5 h1];simp only [];rw [e1,D0O hb hl _ t ht l _ (by omega),E6];simp only [bO,bSl];by_cases h2:(A2f t (E4 b p 7).1).2.1=false
    · rw [A6 h2,A6 h2]
      rw [show ((A2f t (E4 b p 7).1).1.1,(A2f t (E4 b p 7).1).1.2)=(A2f t (E4 b p 7).1).1 from rfl,C6o b _ 2 t l _ (by omega)];exact ⟨_,_,_,_,rfl,by simp,fun h=>by cases h⟩
    · rw [A5 h2,A5 h2]
      rw [show ((A2f t (E4 b p 7).1).1.1,(A2f t (E4 b p 7).1).1.2)=(A2f t (E4 b p 7).1).1 from rfl,C6o b _ 0 t l _ (by omega)];refine ⟨_,_,_,_,rfl,?_,fun h=>⟨?_,rfl,rfl⟩⟩
      · exact D3w ..
      · unfold B3c;rfl
  rw [A8 (show ¬ (byN b p:Int)>=128 by omega),A5 c1];simp only [A7];by_cases c2:64<=byN b p
  · rw [A0 (show (byN b p:Int)>=64 by omega),A6 c2]
    obtain ⟨f,q,e,e'⟩:=C21 hb hl p 6 (by omega) (by omega) t ht l;rw [show ((6:Nat):Int)=6 from rfl] at e;simp only [B2,e,bO];by_cases h1:(A79 t b p 6).1=0
    · obtain ⟨e1,e2⟩:=e' h1
      obtain ⟨s1,s2,s3,s4⟩:=D0N ht (by omega) h1;subst e1 e2;rw [A0 h1,A6 h1];simp only [B2,(D65 ht s1 s2).1,bO,bSl,h1];rw [show ((A79 t b p 6).2.1.1,(A79 t b p 6).2.1.2)=(A79 t b p 6).2.1 from rfl,C6o b _ 0 (D7a t (A79 t b p 6).2.1) l _ (by omega)];refine ⟨_,_,_,_,rfl,?_,fun h=>⟨?_,rfl,rfl⟩⟩
      · exact D3w ..
      · unfold B3c;rfl
    · rw [A8 h1,A5 h1]
      simp only [A7,bSl];rw [show (f.1,f.2)=f from rfl,C6o b _ _ t l _ (by omega)];refine ⟨_,_,_,_,rfl,?_,fun h=>absurd h h1⟩;exact E2c l h1
  rw [A8 (show ¬ (byN b p:Int)>=64 by omega),A5 c2];simp only [A7];by_cases c3:32<=byN b p
  · rw [A0 (show (byN b p:Int)>=32 by omega),A6 c3]
    have e:=B8Q hb hl p 5 (by omega) (by omega) t l;rw [show ((5:Nat):Int)=5 from rfl] at e;simp only [B2,A1d,A1c,e,bO];by_cases h1:(E4 b p 5).2.2.1=false
    · rw [A6 h1,A6 h1]
      simp only [A8 (show ¬ (0:Int)>most by omega),A7,J6,T1,bO,show decide ((1:Int)=0)=false from rfl];cases decide ((l.length:Int)>0)<;>exact ⟨_,_,_,_,rfl,rfl,fun h=>by cases h⟩
    have r1:=A4m b p 5 (by omega) (by simpa using h1);rw [A5 h1,A5 h1];simp only [J6,T1,bO,A0B,B2];by_cases h2:(E4 b p 5).1>most
    · rw [A0 h2,A6 (.inl h2)]
      exact ⟨_,_,_,_,rfl,rfl,fun h=>by cases h⟩
    · rw [A8 h2]
      simp only [A7];by_cases h3:0<l.length
      · rw [A0 (show (l.length:Int)>0 by omega),A6 (.inr h3)]
        exact ⟨_,_,_,_,rfl,rfl,fun h=>by cases h⟩
      · rw [A8 (show ¬ (l.length:Int)>0 by omega),A5 (by omega)]
        simp only [A7,bO,A0B,B2,D2G ht r1.1 (show (E4 b p 5).1<=4096 by omega),bSr];exact ⟨_,_,_,_,rfl,rfl,fun _=>⟨by omega,rfl,rfl⟩⟩
  rw [A8 (show ¬ (byN b p:Int)>=32 by omega),A5 c3];obtain ⟨f,q,e,e'⟩:=C21 hb hl p 4 (by omega) (by omega) t ht l;rw [show ((4:Nat):Int)=4 from rfl] at e;simp only [A7,e,bO,bSl];by_cases h1:(A79 t b p 4).1=0
  · obtain ⟨e1,e2⟩:=e' h1
    subst e1 e2;rw [A6 h1];simp only [h1];rw [show ((A79 t b p 4).2.1.1,(A79 t b p 4).2.1.2)=(A79 t b p 4).2.1 from rfl,C6o b _ 0 t l _ (by omega)];refine ⟨_,_,_,_,rfl,?_,fun h=>⟨?_,rfl,rfl⟩⟩
    · exact D3w ..
    · unfold B3c;rfl
  · rw [A5 h1,show (f.1,f.2)=f from rfl,C6o b _ _ t l _ (by omega)]
    refine ⟨_,_,_,_,rfl,?_,fun h=>absurd h h1⟩;exact E2c l h1
noncomputable def gfM(b:List Int)(most:Int):Nat->E3->Nat->List C2->Int×E3×List C2
  | 0,t,p,l=>(0,t,l)
  | k+1,t,p,l=>if p<b.length then (if (B6e b most t p l).1=0 then gfM b most k (B6e b most t p l).2.1 (B6e b most t p l).2.2.1 (B6e b most t p l).2.2.2 else ((B6e b most t p l).1,t,l)) else (0,t,l)
theorem E0L{b:List Int}{most:Int}(hmost:most<=4096):∀ (k:Nat) (t:E3) (p:Nat) (l:List C2),RdK b t p l->(gfM b most k t p l).1=0->A1V (gfM b most k t p l).2.1/\(gfM b most k t p l).2.2.length<=100/\∀ f∈(gfM b most k t p l).2.2,f.1.size<=10000/\f.2.size<=10000
  | 0,t,p,l,hk,_=>⟨hk.1,hk.2.2⟩
  | k+1,t,p,l,hk,h=>by
    unfold gfM at h ⊢;by_cases h1:p<b.length
    · rw [A6 h1] at h ⊢
      by_cases h2:(B6e b most t p l).1=0
      · rw [A6 h2] at h ⊢
        exact E0L hmost k _ _ _ (D68 hmost hk h2).1 h
      · rw [A5 h2] at h;exact absurd h h2
    · rw [A5 h1];exact ⟨hk.1,hk.2.2⟩
theorem C9C{b:List Int}(hb:Byt b)(hl:b.length<=500000000)(most:Int)(hmost:0<=most/\most<=4096):∀ (k:Nat) (t:E3) (p:Nat) (l:List C2),RdK b t p l->b.length<=p+k->
    ∃ q t1 t2 l',H6 (A2Q P4 b most) (b,(p:Int),0,t.1,t.2,l,())=some (b,q,(gfM b most k t p l).1,t1,t2,l',())/\((gfM b most k t p l).1=0->(t1,t2)=(gfM b most k t p l).2.1/\l' = (gfM b most k t p l).2.2)
  | 0,t,p,l,hk,hle=>by
    have h1:¬ (p:Int)<(b.length:Int):=by omega
    rw [I3];simp only [A2Q,A0B,B2,A8 h1,A7];exact ⟨_,_,_,_,rfl,fun _=>⟨rfl,rfl⟩⟩
  | k+1,t,p,l,hk,hle=>by
    rw [I3];unfold gfM;by_cases h1:p<b.length
    · obtain ⟨q,c,t',l',e,hc,hz⟩:=D7c hb hl most hmost t p l hk h1
      have e':P4 (b,(p:Int),0,(t.1,t.2),l) most=some ((b,q,c,t',l'),()):=e;simp only [A2Q,A0B,B2,A0 (show (p:Int)<(b.length:Int) by omega),e',bO];rw [A6 h1];by_cases h2:(B6e b most t p l).1=0
      · obtain ⟨z1,z2,z3⟩:=hz h2
        subst z1 z2 z3;rw [A6 h2,hc,h2];have hk2:=D68 hmost.2 hk h2;exact C9C hb hl most hmost k _ _ _ hk2.1 (by omega)
      · rw [A5 h2,I3]
        have hc0:¬ c=0:=by rw [hc];exact h2
        simp only [A8 hc0,A7,A2Q];rw [hc];exact ⟨_,_,_,_,rfl,fun h=>absurd h h2⟩
    · have h1':¬ (p:Int)<(b.length:Int):=by omega
      rw [A5 h1];simp only [A2Q,A0B,B2,A8 h1',A7];exact ⟨_,_,_,_,rfl,fun _=>⟨rfl,rfl⟩⟩
noncomputable def Q9(t:E3)(most:Int)(b:List Int):List C2×E3×Int×Unit:=
  if (gfM b most b.length t 0 []).1=0 then ((gfM b most b.length t 0 []).2.2,(gfM b most b.length t 0 []).2.1,0,()) else ([],t,(gfM b most b.length t 0 []).1,())
theorem C6p{t:E3}(ht:A1V t){most:Int}(hmost:most<=4096)(b:List Int):A1V (Q9 t most b).2.1/\(Q9 t most b).1.length<=100/\∀ f∈(Q9 t most b).1,f.1.size<=10000/\f.2.size<=10000:=by
  unfold Q9;by_cases h:(gfM b most b.length t 0 []).1=0
  · rw [A6 h]
    exact E0L hmost b.length t 0 [] ⟨ht,by omega,by simp,fun f hf=>by cases hf⟩ h
  · rw [A5 h]
    exact ⟨ht,by simp,fun f hf=>by cases hf⟩
theorem C6q{t:E3}(ht:A1V t){b:List Int}(hb:Byt b)(hl:b.length<=500000000){most:Int}(hmost:0<=most/\most<=4096):B01 t most b=some (Q9 t most b):=by
  have htl:=B6b ht;obtain ⟨q,t1,t2,l',e,hz⟩:=C9C hb hl most hmost b.length t 0 [] ⟨ht,by omega,by simp,fun f hf=>by cases hf⟩ (by omega);rw [show ((0:Nat):Int)=0 from rfl] at e;simp only [B01,B48,V1,A0 hmost,D67 ht,B1m t (by omega),bO,E0,A7,bSl,e];unfold Q9;by_cases h:(gfM b most b.length t 0 []).1=0
  · obtain ⟨z1,z2⟩:=hz h
    rw [A6 h,h,<- z1,<- z2];rfl
  · rw [A5 h,A8 h]
    rfl
set_option maxRecDepth 100000
def nmA(l:List C2)(k:Nat):X0:=(rd D9 l (k:Int)).1
def A7A(l:List C2)(name:X0):Nat->Nat
  | 0=>0
  | k+1=>A7A l name k+(if ((nmA l k).toList == name.toList)=true then 1 else 0)
def A2t(l:List C2)(name:X0):Nat->X0
  | 0=>⟨#[]⟩
  | k+1=>if ((nmA l k).toList == name.toList)=true then (if A7A l name k=0 then (rd D9 l (k:Int)).2 else A2t l name k) else A2t l name k
theorem D69(l:List C2)(name:X0):∀ k,A7A l name k<=k
  | 0=>C0 _
  | k+1=>by have:=D69 l name k;unfold A7A;split<;>omega
theorem A3j(l:List C2)(name:X0)(hl:l.length<=1000000):R4 l name=some (A2t l name l.length,(A7A l name l.length:Int),()):=by
  have e:=R5 (A6G l name) (fun k=>(A2t l name k,(A7A l name k:Int),(k:Int),())) l.length (A2t l name l.length,(A7A l name l.length:Int),()) (fun k hk=>by
    have h1:(k:Int)<(l.length:Int):=by omega
    have h2:(0:Int)<=(k:Int):=by omega
    have h3:=D69 l name k;have w1:i64.wrap ((k:Int)+1)=((k+1:Nat):Int):=by rw [w64 (by omega) (by omega)];omega
    have w2:i64.wrap ((A7A l name k:Int)+1)=((A7A l name k+1:Nat):Int):=by rw [w64 (by omega) (by omega)];omega
    simp only [A6G,A0 h1,A0 h2,B2,w1,w2];simp only [A2t,A7A];rw [show (rd D9 l (k:Int)).1=nmA l k from rfl];cases hq:((nmA l k).toList == name.toList) with
    | false=>simp only [A7,J2,O7,K1]
    | true=>
      simp only [B2,M7];by_cases h0:A7A l name k=0
      · rw [A0 (show (A7A l name k:Int)=0 by omega),A6 h0];rfl
      · rw [A8 (show ¬ (A7A l name k:Int)=0 by omega),A5 h0];rfl) (by
    have h1:¬ ((l.length:Nat):Int)<(l.length:Int):=by omega
    simp only [A6G,A8 h1,A7])
  simp only [R4,B8B];have e':H6 (A6G l name) ((⟨#[]⟩:X0),0,0,())=some (A2t l name l.length,(A7A l name l.length:Int),()):=e;rw [e'];rfl
theorem E3N{go:Nat->Bool}{n:Nat}{f:Int×Unit->Option ((Int×Unit)⊕(Unit⊕(Bool×Unit)))}(hs:∀ i:Nat,i<n->f ((i:Int),())=if go i then some (.inl (((i+1:Nat):Int),())) else some (.inr (.inr (false,()))))
    (he:f ((n:Int),())=some (.inr (.inl ()))) (g:Unit->Option (Bool×Unit)) (c:Bool) (hg:g ()=some (c,())):K3 (H6 f (0,())) g=some ((List.range n).all go&&c,()):=by
  obtain ⟨i,h1,h2,h3,h4⟩:=A9J f (fun i=>((i:Int),())) n (fun i=>if i<n then .inr (false,()) else .inl ()) go (fun i hi=>by
    simp only [A6 hi];exact hs i hi) (by simp only [A6T,O7];exact he)
  have h4':H6 f (0,())=some (if i<n then .inr (false,()) else .inl ()):=h4;rw [h4'];by_cases hi:i<n
  · rw [A6 hi]
    have:(List.range n).all go=false:=by
      rw [A8T];exact ⟨i,A1C.2 hi,by simp [h3 hi]⟩
    simp [K3,this]
  · rw [A5 hi]
    have:(List.range n).all go=true:=by
      rw [C4];intro j hj;exact h2 j (by have:=A1C.1 hj;omega)
    simp only [K3,this,hg,J9]
def D40(s:X0)(i:Nat):Bool:=decide (65<=bt s (i:Int))&&decide (bt s (i:Int)<=90)
def D2H(s:X0):Bool:=(List.range s.size).all (fun i=>!D40 s i)&&!(s.toList == (⟨#[]⟩:X0).toList)
theorem D2I(s:X0)(h:s.size<=1000000000):A71 s=some (D2H s,()):=by
  simp only [A71,C0Q];refine E3N (fun i hi=>?_) ?_ _ _ rfl
  · have h1:(i:Int)<(s.size:Int):=by omega
    have h2:(0:Int)<=(i:Int):=by omega
    have w1:i64.wrap ((i:Int)+1)=((i+1:Nat):Int):=by rw [w64 (by omega) (by omega)];omega
    simp only [B6E,A0 h1,A0 h2,B2,w1];by_cases a:65<=bt s (i:Int)
    · rw [A0 (show bt s (i:Int)>=65 from a)]
      by_cases b:bt s (i:Int)<=90
      · rw [show D40 s i=true by unfold D40;rw [A0 a,A0 b];rfl,A0 b];rfl
      · rw [show D40 s i=false by unfold D40;rw [A0 a,A8 b];rfl,A8 b];rfl
    · rw [show D40 s i=false by unfold D40;rw [A8 a];rfl,A8 (show ¬ bt s (i:Int)>=65 from a)];rfl
  · have h1:¬ (s.size:Int)<(s.size:Int):=by omega
    simp only [B6E,A8 h1,A7]
theorem D41{s:X0}(h:(!(s.toList == (⟨#[]⟩:X0).toList))=true):0<s.size:=by
  rcases A7E s.size with h0 | h0
  · exfalso
    have:s=⟨#[]⟩:=ByteArray.ext (Array.eq_empty_of_size_eq_zero h0);rw [this] at h;simp at h
  · exact h0
theorem D42{s:X0}(h:D2H s=true):0<s.size:=D41 (by
  unfold D2H at h;simp only [B7] at h;exact h.2)
abbrev nM:X0:=⟨#[58,109,101,116,104,111,100]⟩
abbrev nS:X0:=⟨#[58,115,99,104,101,109,101]⟩
abbrev nP:X0:=⟨#[58,112,97,116,104]⟩
abbrev nA:X0:=⟨#[58,97,117,116,104,111,114,105,116,121]⟩
def D43(x:X0):Bool:=(x.toList == nM.toList)||(x.toList == nS.toList)||(x.toList == nP.toList)||(x.toList == nA.toList)
theorem C7r(a b c d x:X0):J8 [a,b,c,d] x=some ((x.toList == a.toList)||(x.toList == b.toList)||(x.toList == c.toList)||(x.toList == d.toList),()):=by
  have s0:L6 [a,b,c,d] x (0,())=bif (x.toList == a.toList) then some (.inr (0,())) else some (.inl (1,())):=rfl
  have s1:L6 [a,b,c,d] x (1,())=bif (x.toList == b.toList) then some (.inr (1,())) else some (.inl (2,())):=rfl
  have s2:L6 [a,b,c,d] x (2,())=bif (x.toList == c.toList) then some (.inr (2,())) else some (.inl (3,())):=rfl
  have s3:L6 [a,b,c,d] x (3,())=bif (x.toList == d.toList) then some (.inr (3,())) else some (.inl (4,())):=rfl
  have s4:L6 [a,b,c,d] x (4,())=some (.inr (-1,())):=rfl;simp only [J8,A0h,A1O,A1N];rw [I3,s0];cases (x.toList == a.toList)
  case true=>rfl
  simp only [A7];rw [I3,s1];cases (x.toList == b.toList)
  case true=>rfl
  simp only [A7];rw [I3,s2];cases (x.toList == c.toList)
  case true=>rfl
  simp only [A7];rw [I3,s3];cases (x.toList == d.toList)
  case true=>rfl
  simp only [A7];rw [I3,s4];rfl
def plN(l:List C2):Nat->Bool
  | 0=>false
  | k+1=>plN l k||!decide (bt (nmA l k) 0=58)
def C9D(l:List C2)(k:Nat):Bool:=D2H (nmA l k)&&(bif decide (bt (nmA l k) 0=58) then !plN l k&&D43 (nmA l k)&&decide (A7A l (nmA l k) l.length<=1) else true)
def D6A(l:List C2):Bool:=(List.range l.length).all (C9D l)&&(decide (1<=A7A l nM l.length)&&decide (1<=A7A l nS l.length)&&decide (1<=A7A l nP l.length))
theorem D2J(l:List C2)(hl:l.length<=1000000)(hn:∀ f∈l,f.1.size<=1000000000)(k:Nat)(hk:k<l.length) :
    A58 A71 R4 J8 l (plN l k,(k:Int),())=if C9D l k then some (.inl (plN l (k+1),((k+1:Nat):Int),())) else some (.inr (.inr (false,()))):=by
  have h1:(k:Int)<(l.length:Int):=by omega
  have h2:(0:Int)<=(k:Int):=by omega
  have w1:i64.wrap ((k:Int)+1)=((k+1:Nat):Int):=by rw [w64 (by omega) (by omega)];omega
  have hz:(nmA l k).size<=1000000000:=by
    have e:rd D9 l (k:Int)=l[k]:=A81 (k:=D9) hk;unfold nmA;rw [e];exact hn _ (G3 hk)
  simp only [A58,A0 h1,A0 h2,B2,w1];rw [show (rd D9 l (k:Int)).1=nmA l k from rfl,D2I _ hz];simp only [bO];unfold C9D;cases hq:D2H (nmA l k) with
  | false=>rfl
  | true=>
    have h0:=D42 hq;rw [A0 (show (0:Int)<((nmA l k).size:Int) by omega),A3j l _ hl,C7r];simp only [E0,A7,B2,bO,J9,plN];by_cases h58:bt (nmA l k) 0=58
    · rw [A0 h58]
      simp only [E0,A7,B2,Bool.or_false];rw [show ((nmA l k).toList == nM.toList||(nmA l k).toList == nS.toList||(nmA l k).toList == nP.toList||(nmA l k).toList == nA.toList)=D43 (nmA l k) from rfl];cases plN l k with
      | true=>rfl
      | false=>
        cases D43 (nmA l k) with
        | false=>rfl
        | true=>
          by_cases hc:A7A l (nmA l k) l.length<=1
          · rw [A8 (show ¬ (A7A l (nmA l k) l.length:Int)>1 by omega),A0 hc];rfl
          · rw [A0 (show (A7A l (nmA l k) l.length:Int)>1 by omega),A8 hc];rfl
    · rw [A8 h58]
      simp
theorem E2C(l:List C2)(hl:l.length<=1000000):H6 (A59 R4 l) (0,())=some (decide (1<=A7A l nM l.length)&&decide (1<=A7A l nS l.length)&&decide (1<=A7A l nP l.length),()):=by
  have s0:A59 R4 l (0,())=B0 (R4 l nM) fun c55=>bif (decide (c55.2.1=0)) then some (.inr (false,())) else some (.inl (1,())):=rfl
  have s1:A59 R4 l (1,())=B0 (R4 l nS) fun c55=>bif (decide (c55.2.1=0)) then some (.inr (false,())) else some (.inl (2,())):=rfl
  have s2:A59 R4 l (2,())=B0 (R4 l nP) fun c55=>bif (decide (c55.2.1=0)) then some (.inr (false,())) else some (.inl (3,())):=rfl
  have s3:A59 R4 l (3,())=some (.inr (true,())):=rfl;have hd:∀ n:Nat,decide ((n:Int)=0)=!decide (1<=n):=fun n=>by
    by_cases h:1<=n
    · rw [A0 h,A8 (by omega)];rfl
    · rw [A8 h,A0 (by omega)];rfl
  rw [I3,s0,A3j l _ hl];simp only [bO,hd];cases decide (1<=A7A l nM l.length)
  case false=>rfl
  simp only [E0,A7];rw [I3,s1,A3j l _ hl];simp only [bO,hd];cases decide (1<=A7A l nS l.length)
  case false=>rfl
  simp only [E0,A7];rw [I3,s2,A3j l _ hl];simp only [bO,hd];cases decide (1<=A7A l nP l.length)
  case false=>rfl
  simp only [E0,A7];rw [I3,s3];rfl
theorem D2K(l:List C2)(hl:l.length<=1000000)(hn:∀ f∈l,f.1.size<=1000000000):B6G l=some (D6A l,()):=by
  simp only [B6G,C0R];obtain ⟨i,h1,h2,h3,h4⟩:=A9J (A58 A71 R4 J8 l) (fun i=>(plN l i,(i:Int),())) l.length (fun i=>if i<l.length then .inr (false,()) else .inl ()) (C9D l) (fun i hi=>by
    simp only [A6 hi];exact D2J l hl hn i hi) (by
    have h1:¬ ((l.length:Nat):Int)<(l.length:Int):=by omega
    simp only [A6T,O7,A58,A8 h1,A7])
  have h4':H6 (A58 A71 R4 J8 l) (false,0,())=some (if i<l.length then .inr (false,()) else .inl ()):=h4;rw [h4'];unfold D6A;by_cases hi:i<l.length
  · rw [A6 hi]
    have:(List.range l.length).all (C9D l)=false:=by
      rw [A8T];exact ⟨i,A1C.2 hi,by simp [h3 hi]⟩
    simp [K3,this]
  · rw [A5 hi]
    have:(List.range l.length).all (C9D l)=true:=by
      rw [C4];intro j hj;exact h2 j (by have:=A1C.1 hj;omega)
    simp only [K3,this,J9];exact E2C l hl
def opB(a:X0):Int:=
  bif ((⟨#[80,79,83,84]⟩:X0).toList == a.toList) then 1 else bif ((⟨#[72,69,65,68]⟩:X0).toList == a.toList) then 2 else bif ((⟨#[80,65,84,67,72]⟩:X0).toList == a.toList) then 3 else bif ((⟨#[80,85,84]⟩:X0).toList == a.toList) then 4 else bif ((⟨#[71,69,84]⟩:X0).toList == a.toList) then 5 else bif ((⟨#[68,69,76,69,84,69]⟩:X0).toList == a.toList) then 6 else 0
theorem D7d(a:X0):C1j a=some (opB a,()):=by
  have s1:A4i A1f a (1,())=bif ((⟨#[80,79,83,84]⟩:X0).toList == a.toList) then some (.inr (1,())) else some (.inl (2,())):=rfl
  have s2:A4i A1f a (2,())=bif ((⟨#[72,69,65,68]⟩:X0).toList == a.toList) then some (.inr (2,())) else some (.inl (3,())):=rfl
  have s3:A4i A1f a (3,())=bif ((⟨#[80,65,84,67,72]⟩:X0).toList == a.toList) then some (.inr (3,())) else some (.inl (4,())):=rfl
  have s4:A4i A1f a (4,())=bif ((⟨#[80,85,84]⟩:X0).toList == a.toList) then some (.inr (4,())) else some (.inl (5,())):=rfl
  have s5:A4i A1f a (5,())=bif ((⟨#[71,69,84]⟩:X0).toList == a.toList) then some (.inr (5,())) else some (.inl (6,())):=rfl
  have s6:A4i A1f a (6,())=bif ((⟨#[68,69,76,69,84,69]⟩:X0).toList == a.toList) then some (.inr (6,())) else some (.inl (7,())):=rfl
  have s7:A4i A1f a (7,())=some (.inr (0,())):=rfl;simp only [C1j,C6J,opB];rw [I3,s1];cases ((⟨#[80,79,83,84]⟩:X0).toList == a.toList)
  case true=>rfl
  simp only [A7];rw [I3,s2];cases ((⟨#[72,69,65,68]⟩:X0).toList == a.toList)
  case true=>rfl
  simp only [A7];rw [I3,s3];cases ((⟨#[80,65,84,67,72]⟩:X0).toList == a.toList)
  case true=>rfl
  simp only [A7];rw [I3,s4];cases ((⟨#[80,85,84]⟩:X0).toList == a.toList)
  case true=>rfl
  simp only [A7];rw [I3,s5];cases ((⟨#[71,69,84]⟩:X0).toList == a.toList)
  case true=>rfl
  simp only [A7];rw [I3,s6];cases ((⟨#[68,69,76,69,84,69]⟩:X0).toList == a.toList)
  case true=>rfl
  simp only [A7];rw [I3,s7]
abbrev nUp:X0:=⟨#[47,117,112,47]⟩
theorem C6r(s:X0):A1T s nUp=some (bif decide (4<=s.size)&&((s.extract 0 4).toList == nUp.toList) then (s.extract 4 s.size,true,()) else (s,false,())):=by
  have h4:nUp.size=4:=rfl;simp only [A1T,A63,A0L,A0K,A0J,A0I,h4];by_cases h:4<=s.size
  · rw [A0 (show (s.size:Int)>=((4:Nat):Int) by omega),A0 h]
    simp only [show decide ((0:Int)<=((4:Nat):Int))=true from rfl,B2,bO,E6,J9];cases ((s.extract 0 4).toList == nUp.toList)<;>rfl
  · rw [A8 (show ¬ (s.size:Int)>=((4:Nat):Int) by omega),A8 h]
    rfl
def C7s(s:X0)(i:Nat):Bool:=decide (48<=bt s (i:Int))&&decide (bt s (i:Int)<=57)
def B6f(s:X0):Nat->Nat
  | 0=>0
  | k+1=>B6f s k*10+(bt s (k:Int)-48).toNat
theorem D6B(s:X0):∀ k,B6f s k+25<=25*10 ^ k
  | 0=>by simp [B6f]
  | k+1=>by
    have h1:=D6B s k;have h2:=C1q s (k:Int);rw [B6f,B24];omega
def E2D(s:X0)(most:Int):Bool:=decide (1<=(s.size:Int)/\(s.size:Int)<=10)&&(List.range s.size).all (C7s s)&&decide ((B6f s s.size:Int)<=most)&&((itB (B6f s s.size:Int)).toList == s.toList)
theorem C7t(s:X0)(most:Int)(hm:most<=4294967295):B1h s most=some (bif E2D s most then ((B6f s s.size:Int),true,()) else (0,false,())):=by
  simp only [B1h,B6D,V1,bO];unfold E2D;by_cases hr:1<=(s.size:Int)/\(s.size:Int)<=10
  · rw [A0 hr]
    simp only [E0,A7,J9];obtain ⟨i,h1,h2,h3,h4⟩:=A9J (A4h s) (fun i=>((B6f s i:Int),(i:Int),())) s.size (fun i=>if i<s.size then .inr (0,false,()) else .inl ((B6f s s.size:Int),())) (C7s s) (fun i hi=>by
      have h1:(i:Int)<(s.size:Int):=by omega
      have h2:(0:Int)<=(i:Int):=by omega
      have w1:i64.wrap ((i:Int)+1)=((i+1:Nat):Int):=by rw [w64 (by omega) (by omega)];omega
      have b1:=D1a s (i:Int);have b2:=C1q s (i:Int);have hn:=D6B s i;have hp:10 ^ i<=10 ^ 10:=A2m (by omega) (by omega);simp only [A6 hi,A4h,A0 h1,A0 h2,B2,w1];by_cases c1:bt s (i:Int)<48
      · rw [show C7s s i=false by unfold C7s;rw [A8 (show ¬ 48<=bt s (i:Int) by omega)];rfl,A0 c1];rfl
      · rw [A8 c1]
        by_cases c2:bt s (i:Int)>57
        · rw [show C7s s i=false by unfold C7s;rw [A8 (show ¬ bt s (i:Int)<=57 by omega),Bool.and_false],A0 c2];rfl
        · rw [show C7s s i=true by unfold C7s;rw [A0 (show 48<=bt s (i:Int) by omega),A0 (show bt s (i:Int)<=57 by omega)];rfl,A8 c2]
          simp only [A7,bSl,M7];have e1:u8.wrap (bt s (i:Int)-48)=bt s (i:Int)-48:=by
            rw [show bt s (i:Int)-48=(((bt s (i:Int)-48).toNat:Nat):Int) by omega];exact D5v (by omega)
          rw [e1,w64 (n:=bt s (i:Int)-48) (by omega) (by omega),w64 (n:=(B6f s i:Int)*10) (by omega) (by omega),w64 (by omega) (by omega),B6f];rw [show (B6f s i:Int)*10+(bt s (i:Int)-48)=((B6f s i*10+(bt s (i:Int)-48).toNat:Nat):Int) by omega]) (by
      have h1:¬ ((s.size:Nat):Int)<(s.size:Int):=by omega
      simp only [A6T,O7,A4h,A8 h1,A7])
    have h4':H6 (A4h s) (0,0,())=some (if i<s.size then .inr (0,false,()) else .inl ((B6f s s.size:Int),())):=h4;rw [h4'];by_cases hi:i<s.size
    · rw [A6 hi]
      have:(List.range s.size).all (C7s s)=false:=by
        rw [A8T];exact ⟨i,A1C.2 hi,by simp [h3 hi]⟩
      simp [K3,this]
    · rw [A5 hi]
      have ha:(List.range s.size).all (C7s s)=true:=by
        rw [C4];intro j hj;exact h2 j (by have:=A1C.1 hj;omega)
      simp only [bSl,ha,J9];by_cases hq:(B6f s s.size:Int)<=most
      · rw [A8 (show ¬ (B6f s s.size:Int)>most by omega),A0 hq,E28 _ (by omega) (by omega)]
        simp only [A7,bO,J9];cases ((itB (B6f s s.size:Int)).toList == s.toList)<;>rfl
      · rw [A0 (show (B6f s s.size:Int)>most by omega),A8 hq]
        rfl
  · rw [A8 hr]
    rfl
set_option maxRecDepth 100000
theorem D6C{l:List C2}(hl:∀ f∈l,f.1.size<=10000/\f.2.size<=10000)(name:X0):∀ k,k<=l.length->(A2t l name k).size<=10000
  | 0,_=>by simp [A2t,ByteArray.size]
  | k+1,h=>by
    have h1:=D6C hl name k (by omega);have e:rd D9 l (k:Int)=l[k]:=A81 (k:=D9) (by omega);unfold A2t;split
    · split
      · rw [e];exact (hl _ (G3 _)).2
      · exact h1
    · exact h1
def B8S(op:Int):X0×Int:=if op=1 then (⟨#[117,112,108,111,97,100,45,108,101,110,103,116,104]⟩,1000000000) else if op=3 then (⟨#[117,112,108,111,97,100,45,111,102,102,115,101,116]⟩,1000000000) else if op=4 then (⟨#[117,112,108,111,97,100,45,115,117,109]⟩,4294967295) else (⟨#[]⟩,0)
theorem C36(op:Int):A6b op=some ((B8S op).1,(B8S op).2,()):=by
  simp only [A6b,B0w];unfold B8S;by_cases h1:op=1
  · rw [A0 h1,A6 h1];rfl
  rw [A8 h1,A5 h1];by_cases h3:op=3
  · rw [A0 h3,A6 h3];rfl
  rw [A8 h3,A5 h3];by_cases h4:op=4
  · rw [A0 h4,A6 h4];rfl
  · rw [A8 h4,A5 h4];rfl
theorem D7e(op:Int):(B8S op).2<=4294967295:=by
  unfold B8S;split
  · simp
  · split
    · simp
    · split<;>simp
abbrev noR:B5o:=(0,⟨#[]⟩,0)
def B7R(s:X0):X0×Bool:=bif decide (4<=s.size)&&((s.extract 0 4).toList == nUp.toList) then (s.extract 4 s.size,true) else (s,false)
def B9f(l:List C2):B5o×Int:=
  bif D6A l then
    (if opB (A2t l nM l.length)=0 then (noR,2)
     else bif (B7R (A2t l nP l.length)).2&&idB (B7R (A2t l nP l.length)).1 then
      (bif ((B8S (opB (A2t l nM l.length))).1.toList == (⟨#[]⟩:X0).toList) then ((opB (A2t l nM l.length),(B7R (A2t l nP l.length)).1,0),0)
       else bif decide (A7A l (B8S (opB (A2t l nM l.length))).1 l.length=1)&&E2D (A2t l (B8S (opB (A2t l nM l.length))).1 l.length) (B8S (opB (A2t l nM l.length))).2
         then ((opB (A2t l nM l.length),(B7R (A2t l nP l.length)).1,(B6f (A2t l (B8S (opB (A2t l nM l.length))).1 l.length) (A2t l (B8S (opB (A2t l nM l.length))).1 l.length).size:Int)),0) else (noR,4))
     else (noR,3))
  else (noR,1)
theorem D44(s:X0)(a b:Nat):(s.extract a b).size<=s.size:=by rw [ByteArray.size_extract];omega
theorem E0M(s:X0):(B7R s).1.size<=s.size:=by
  unfold B7R;cases decide (4<=s.size)&&((s.extract 0 4).toList == nUp.toList)
  · exact C0 _
  · exact D44 _ _ _
theorem D45(l:List C2)(hl:l.length<=1000)(hn:∀ f∈l,f.1.size<=10000/\f.2.size<=10000):B9J l=some ((B9f l).1,(B9f l).2,()):=by
  have hv:=fun name=>D6C hn name l.length (C0 _)
  have hi:(B7R (A2t l nP l.length)).1.size<=maxLen:=by have:=E0M (A2t l nP l.length);have:=hv nP;simp only [maxLen];omega
  simp only [B9J,C2m,D2K l (by omega) (fun f hf=>by have:=(hn f hf).1;omega),bO];unfold B9f;cases D6A l
  case false=>rfl
  simp only [E0,A7,B2];have v1:=A3j l nM (by omega);have v2:=A3j l nP (by omega);simp only [v1,v2,bO,D7d];by_cases h0:opB (A2t l nM l.length)=0
  · rw [A0 h0,A6 h0];rfl
  rw [A8 h0,A5 h0];simp only [A7];have hc:A1T (A2t l nP l.length) nUp=some ((B7R (A2t l nP l.length)).1,(B7R (A2t l nP l.length)).2,()):=by
    rw [C6r];unfold B7R;cases decide (4<=(A2t l nP l.length).size)&&(((A2t l nP l.length).extract 0 4).toList == nUp.toList)<;>rfl
  rw [hc];simp only [bO,E1q _ hi,C36];cases (B7R (A2t l nP l.length)).2
  case false=>rfl
  cases idB (B7R (A2t l nP l.length)).1
  case false=>rfl
  simp only [E0,A7,bSl,Bool.and_self,B2];cases ((B8S (opB (A2t l nM l.length))).1.toList == (⟨#[]⟩:X0).toList)
  case true=>rfl
  simp only [A7];rw [A3j l _ (by omega)];simp only [bO];rw [C7t _ _ (D7e _)];simp only [bO];by_cases h1:A7A l (B8S (opB (A2t l nM l.length))).1 l.length=1
  · rw [A0 (show (A7A l (B8S (opB (A2t l nM l.length))).1 l.length:Int)=1 by omega),A0 h1]
    simp only [E0,A7,J9];cases E2D (A2t l (B8S (opB (A2t l nM l.length))).1 l.length) (B8S (opB (A2t l nM l.length))).2<;>rfl
  · rw [A8 (show ¬ (A7A l (B8S (opB (A2t l nM l.length))).1 l.length:Int)=1 by omega),A8 h1]
    rfl
noncomputable def stV(st ev:Int):Int×Int:=match A0G st ev with
  | some x=>(x.1,x.2.1)
  | none=>(0,1)
theorem D7f(ev:Int):∃ a b,B1d ev=some (a,b,()):=by
  simp only [B1d,B68];cases decide (ev=1)<;>cases decide (ev=2)<;>cases decide (ev=6)<;>cases decide (ev=7)<;>exact ⟨_,_,rfl⟩
theorem D7g(ev:Int):∃ a b,B1f ev=some (a,b,()):=by
  simp only [B1f,B69];cases decide (ev=1)<;>cases decide (ev=2)<;>cases decide (ev=4)<;>cases decide (ev=7)<;>cases decide (ev=9)<;>cases decide (ev=5)<;>cases decide (ev=10)<;>exact ⟨_,_,rfl⟩
theorem D46(ev:Int):∃ a b,A4Q ev=some (a,b,()):=by
  simp only [A4Q,A7o];cases decide (ev=5)<;>cases decide (ev=6)<;>cases decide (ev=7)<;>cases decide (ev=8)<;>cases decide (ev=9)<;>cases decide (ev=10)<;>exact ⟨_,_,rfl⟩
theorem D7h(ev:Int):∃ a b,A55 ev=some (a,b,()):=by
  simp only [A55,A8u];cases decide (ev=1)<;>cases decide (ev=2)<;>cases decide (ev=3)<;>cases decide (ev=4)<;>cases decide (ev=5)<;>cases decide (ev=10)<;>exact ⟨_,_,rfl⟩
theorem D7i(st ev:Int):A0G st ev=some ((stV st ev).1,(stV st ev).2,()):=by
  have:∃ a b,A0G st ev=some (a,b,()):=by
    obtain ⟨a1,b1,e1⟩:=D7f ev;obtain ⟨a2,b2,e2⟩:=D7g ev;obtain ⟨a3,b3,e3⟩:=D46 ev;obtain ⟨a4,b4,e4⟩:=D7h ev;simp only [A0G,B2N,V1,bO,e1,e2,e3,e4];cases decide (1<=ev/\ev<=10)<;>cases decide (st=0)<;>cases decide (st=1)<;>cases decide (st=2)<;>cases decide (st=3)<;>cases decide (st=4)<;>cases decide (ev=5)<;>exact ⟨_,_,rfl⟩
  obtain ⟨a,b,e⟩:=this;unfold stV;rw [e]
set_option maxRecDepth 100000
structure HM where
  g:S1
  dec:E3
  strs:List A2n
  last:Int
  calls:List A0m
  out:List Int
abbrev mkC(pre:Int)(inn:List Int)(enc:E3)(dead:Int)(m:HM):A1S:=(pre,inn,m.g,m.dec,enc,m.strs,m.last,dead)
abbrev mkH(pre:Int)(inn:List Int)(enc:E3)(dead:Int)(m:HM):I4:=(mkC pre inn enc dead m,m.calls,m.out)
def D7j(last:Int)(s:A2n):Prop:=s.1.tmod 2=1/\1<=s.1/\s.1<=last/\(s.2.1=1\/s.2.1=2)/\s.2.2.2.length<=2000
def B8T(strs:List A2n)(last:Int):Prop:=strs.length<=100/\(strs.map (·.1)).Pairwise (· < ·)/\∀ s∈strs,D7j last s
def sAt(strs:List A2n)(i:Nat):A2n:=rd N8 strs (i:Int)
theorem A83{strs:List A2n}{i:Nat}(h:i<strs.length):sAt strs i=strs[i]:=A81 (k:=N8) h
theorem C9E{strs:List A2n}{last:Int}(h:B8T strs last){i:Nat}(hi:i<strs.length){s:A2n}(h1:s.1=(sAt strs i).1)(h2:s.2.1=1\/s.2.1=2)(h3:s.2.2.2.length<=2000):B8T (strs.set i s) last:=by
  obtain ⟨a,b,c⟩:=h;rw [A83 hi] at h1;refine ⟨by simpa using a,?_,fun x hx=>?_⟩
  · rw [List.map_set,h1]
    have:(strs.map (·.1)).set i strs[i].1=strs.map (·.1):=by
      apply A3L (by simp);intro j hj1 hj2;rw [List.getElem_set];split
      · rename_i e;subst e;simp
      · rfl
    rw [this];exact b
  · rcases B35 hx with q | q
    · exact c x q
    · subst q
      have:=c _ (G3 hi);unfold D7j at this ⊢;rw [h1];exact ⟨this.1,this.2.1,this.2.2.1,h2,h3⟩
theorem D47{strs:List A2n}{last:Int}(h:B8T strs last)(hl:strs.length<100){s:A2n}(h0:last<s.1)(h1:s.1.tmod 2=1)(h2:s.2.1=1\/s.2.1=2)(h3:s.2.2.2.length<=2000)(hp:1<=s.1):B8T (strs ++ [s]) s.1:=by
  obtain ⟨a,b,c⟩:=h;refine ⟨by simp;omega,?_,fun x hx=>?_⟩
  · rw [A6t,List.pairwise_append]
    refine ⟨b,by simp,fun x hx y hy=>?_⟩;obtain ⟨t,ht,rfl⟩:=D6.1 hx;have:=c t ht;simp only [H3,B23,B1] at hy;unfold D7j at this;omega
  · rcases C8.1 hx with q | q
    · have:=c x q
      unfold D7j at this ⊢;omega
    · rcases B1.1 q with rfl
      exact ⟨h1,hp,by omega,h2,h3⟩
theorem D7k{strs:List A2n}{last:Int}(h:B8T strs last)(i:Nat):B8T (strs.take i++strs.drop (i+1)) last:=by
  obtain ⟨a,b,c⟩:=h;have hs:(strs.take i++strs.drop (i+1)).Sublist strs:=by
    rw [<- List.eraseIdx_eq_take_drop_succ];exact List.eraseIdx_sublist strs i
  exact ⟨A5u hs.length_le a,b.sublist (hs.map _),fun x hx=>c x (hs.subset hx)⟩
theorem D48{strs:List A2n}{last last':Int}(h:B8T strs last)(hl:last<=last'):B8T strs last':=by
  obtain ⟨a,b,c⟩:=h;refine ⟨a,b,fun x hx=>?_⟩;have:=c x hx;unfold D7j at this ⊢;omega
theorem C9F(last:Int):B8T [] last:=⟨by simp,by simp,fun x hx=>by cases hx⟩
def atM(strs:List A2n)(id:Int):Nat:=V7 (fun j=>decide ((sAt strs j).1<id)) 0 strs.length
def B9g(strs:List A2n)(id:Int):Bool:=decide (atM strs id<strs.length)&&decide ((sAt strs (atM strs id)).1=id)
theorem C37(pre:Int)(inn:List Int)(enc:E3)(dead:Int)(m:HM)(id:Int)(h:m.strs.length<=2000000) :
    A3d (mkC pre inn enc dead m) id=some ((atM m.strs id:Int),B9g m.strs id,mkC pre inn enc dead m,()):=by
  obtain ⟨i,h1,h2,h3,h4⟩:=str_eq (mkC pre inn enc dead m) id h;have e:atM m.strs id=i:=C4C _ _ i h1 (fun j hj=>A0 (h2 j hj)) (fun hi=>A8 (h3 hi));rw [h4,B9g,e];rfl
theorem B6g{strs:List A2n}{id:Int}(h:B9g strs id=true):atM strs id<strs.length/\(sAt strs (atM strs id)).1=id:=by
  unfold B9g at h;simpa using h
def A4N(m:HM)(s:A2n):HM:=if s.2.1=2 then {m with calls:=m.calls ++ [(s.1,s.2.2.1,s.2.2.2,0)]} else m
def A66(m:HM)(i:Nat)(s:A2n):HM:={m with strs:=m.strs.set i s}
noncomputable def A7S(m:HM)(i:Nat)(ev:Int):Int×HM:=
  if (stV (sAt m.strs i).2.1 ev).2=1 then (1,m) else if (stV (sAt m.strs i).2.1 ev).2=2 then (5,m)
  else (0,A4N (A66 m i ((sAt m.strs i).1,(stV (sAt m.strs i).2.1 ev).1,(sAt m.strs i).2.2)) ((sAt m.strs i).1,(stV (sAt m.strs i).2.1 ev).1,(sAt m.strs i).2.2))
structure HI (m:HM):Prop where
  strs:B8T m.strs m.last
  last:0<=m.last/\m.last<=2147483647
  dec:A1V m.dec
  g:(m.g.1=0/\m.g.2.1=false/\m.g.2.2 = [])\/(1<=m.g.1/\m.g.1<=2147483647/\m.g.2.2.length<=3000)
  gb:Byt m.g.2.2
def HL(m:HM):Prop:=m.calls.length<=1000000000/\m.out.length<=10000000000000
section
variable (pre:Int) (inn:List Int) (enc:E3) (dead:Int)
theorem D49(m:HM)(s:A2n)(hc:m.calls.length<=2000000000)(hs:s.2.2.2.length<=1000000):A57 (mkH pre inn enc dead m) s=some (mkH pre inn enc dead (A4N m s),()):=by
  simp only [A57,A8v,A9L s.2.2.2 (by omega),bO];unfold A4N;by_cases h:s.2.1=2
  · rw [A0 h,A6 h]
    simp only [mkH,B2];rw [D3v (by simp;omega)]
  · rw [A8 h,A5 h];rfl
theorem D0P(m:HM)(i:Nat)(s:A2n)(hi:i<m.strs.length)(hsi:sAt m.strs i=s)(hc:m.calls.length<=2000000000)(hs:s.2.2.2.length<=1000000) :
    A0H (mkH pre inn enc dead m) (s.1,s.2.1,s.2.2.1) (i:Int)=some (mkH pre inn enc dead (A4N m s),()):=by
  have d1:decide ((0:Int)<=(i:Int))=true:=A0 (by omega);have d2:decide ((i:Int)<(m.strs.length:Int))=true:=A0 (by omega);have e1:(rd N8 m.strs (i:Int))=s:=hsi;simp only [A0H,A3e,mkH,mkC,d1,d2,B2,e1];rw [A9L s.2.2.2 (by omega)];simp only [bO];unfold A4N;by_cases h:s.2.1=2
  · rw [A0 h,A6 h]
    simp only [B2];rw [D3v (by simp;omega)]
  · rw [A8 h,A5 h];rfl
theorem C22(m:HM)(i:Nat)(ev:Int)(hi:i<m.strs.length)(hc:m.calls.length<=2000000000)(hs:(sAt m.strs i).2.2.2.length<=1000000) :
    A24 (mkH pre inn enc dead m) (i:Int) ev=some ((A7S m i ev).1,mkH pre inn enc dead (A7S m i ev).2,()):=by
  have d1:decide ((0:Int)<=(i:Int))=true:=A0 (by omega);have d2:decide ((i:Int)<(m.strs.length:Int))=true:=A0 (by omega);have e1:(rd N8 m.strs (i:Int))=sAt m.strs i:=rfl;simp only [A24,A70,mkH,mkC,d1,d2,B2,e1,D7i,bO];unfold A7S;by_cases h1:(stV (sAt m.strs i).2.1 ev).2=1
  · rw [A0 h1,A6 h1];rfl
  rw [A8 h1,A5 h1];by_cases h2:(stV (sAt m.strs i).2.1 ev).2=2
  · rw [A0 h2,A6 h2];rfl
  rw [A8 h2,A5 h2];simp only [A7,E6];have hset:sAt (m.strs.set i ((sAt m.strs i).1,(stV (sAt m.strs i).2.1 ev).1,(sAt m.strs i).2.2)) i=((sAt m.strs i).1,(stV (sAt m.strs i).2.1 ev).1,(sAt m.strs i).2.2):=by
    rw [A83 (by simpa using hi)];simp
  have e2:rd N8 (m.strs.set i ((sAt m.strs i).1,(stV (sAt m.strs i).2.1 ev).1,(sAt m.strs i).2.2)) (i:Int)=((sAt m.strs i).1,(stV (sAt m.strs i).2.1 ev).1,(sAt m.strs i).2.2):=hset;rw [e2];have key:=D0P pre inn enc dead (A66 m i ((sAt m.strs i).1,(stV (sAt m.strs i).2.1 ev).1,(sAt m.strs i).2.2)) i ((sAt m.strs i).1,(stV (sAt m.strs i).2.1 ev).1,(sAt m.strs i).2.2) (by simpa [A66] using hi) hset hc hs;simp only [mkH,mkC,A66] at key;rw [key];rfl
end
theorem C4H(m:HM)(s:A2n):(A4N m s).strs=m.strs/\(A4N m s).last=m.last/\(A4N m s).dec=m.dec/\(A4N m s).g=m.g/\(A4N m s).out=m.out/\(A4N m s).calls.length<=m.calls.length+1:=by
  unfold A4N;split<;>simp
theorem E2E:stV 1 1=(1,1)/\stV 1 2=(2,0)/\stV 1 3=(1,0)/\stV 1 4=(2,0)/\stV 2 1=(2,2)/\stV 2 2=(2,2)/\stV 2 3=(2,2)/\stV 2 4=(2,2)/\stV 0 1=(1,0)/\stV 0 2=(2,0):=⟨rfl,rfl,rfl,rfl,rfl,rfl,rfl,rfl,rfl,rfl⟩
theorem E0N{m:HM}(h:HI m){i:Nat}{ev:Int}(hi:i<m.strs.length)(hev:1<=ev/\ev<=4):((A7S m i ev).1=0->HI (A7S m i ev).2)/\0<=(A7S m i ev).1/\(A7S m i ev).1<=20/\
    (A7S m i ev).2.last=m.last/\(A7S m i ev).2.out=m.out/\(A7S m i ev).2.dec=m.dec/\(A7S m i ev).2.calls.length<=m.calls.length+1:=by
  unfold A7S;by_cases h1:(stV (sAt m.strs i).2.1 ev).2=1
  · rw [A6 h1];exact ⟨(fun h=>by cases h),(by simp only [];omega),(by simp only [];omega),rfl,rfl,rfl,Nat.le_succ _⟩
  rw [A5 h1];by_cases h2:(stV (sAt m.strs i).2.1 ev).2=2
  · rw [A6 h2];exact ⟨(fun h=>by cases h),(by simp only [];omega),(by simp only [];omega),rfl,rfl,rfl,Nat.le_succ _⟩
  rw [A5 h2];obtain ⟨q1,q2,q3,q4,q5,q6⟩:=C4H (A66 m i ((sAt m.strs i).1,(stV (sAt m.strs i).2.1 ev).1,(sAt m.strs i).2.2)) ((sAt m.strs i).1,(stV (sAt m.strs i).2.1 ev).1,(sAt m.strs i).2.2);have hs:=h.strs.2.2 _ (G3 hi);rw [<- A83 hi] at hs;refine ⟨fun _=>⟨?_,?_,?_,?_,?_⟩,(by simp only [];omega),(by simp only [];omega),q2,q5,q3,q6⟩
  · rw [q1,q2]
    refine C9E h.strs hi rfl ?_ hs.2.2.2.2;have ht:=E2E;have he:ev=1\/ev=2\/ev=3\/ev=4:=by omega
    rcases hs.2.2.2.1 with e | e<;>rw [e] at h1 h2 ⊢<;>rcases he with rfl | rfl | rfl | rfl<;>simp_all
  · rw [q2];exact h.last
  · rw [q3];exact h.dec
  · rw [q4];exact h.g
  · rw [q4];exact h.gb
set_option maxRecDepth 100000
structure FrI (f:F3):Prop where
  k:0<=f.1/\f.1<=255
  fl:0<=f.2.1/\f.2.1<=255
  st:0<=f.2.2.1/\f.2.2.1<=2147483647
  n:f.2.2.2.length<=1000
  b:Byt f.2.2.2
def B0j(f:F3)(k:Int):Bool:=!decide (A14 .i64 f.2.1 k=0)
theorem A84(f:F3)(k:Int):A1r f k=some (B0j f k,()):=rfl
noncomputable def fcV(f:F3):Int:=match T8 f with
  | some x=>x.1
  | none=>0
theorem A4n(f:F3):T8 f=some (fcV f,()):=by
  have:∃ c,T8 f=some (c,()):=by
    have h1:∃ b,A1q f=some (b,()):=by
      simp only [A1q,A7M,V1,bO];cases decide (0<=f.1/\f.1<=255)<;>cases decide (0<=f.2.1/\f.2.1<=255)<;>cases decide (0<=f.2.2.1/\f.2.2.1<=2147483647)<;>exact ⟨_,rfl⟩
    have h2:∃ b,A2o f=some (b,()):=by
      simp only [A2o,A8t,A84,bO];cases decide (f.1=2)<;>cases decide (f.1=3)<;>cases decide (f.1=8)<;>cases decide (f.1=6)<;>cases decide (f.1=4)<;>cases decide (f.1=7)<;>cases decide ((f.2.2.2.length:Int).tmod 6=0)<;>cases decide ((f.2.2.2.length:Int)=0)<;>exact ⟨_,rfl⟩
    obtain ⟨b1,e1⟩:=h1;obtain ⟨b2,e2⟩:=h2;simp only [T8,A49,e1,e2,bO];cases b1
    case false=>exact ⟨_,rfl⟩
    cases b2
    case false=>exact ⟨_,rfl⟩
    simp only [E0,A7,bSl];cases decide (f.2.2.1=0)<;>cases decide (f.1=0)<;>cases decide (f.1=1)<;>cases decide (f.1=2)<;>cases decide (f.1=3)<;>cases decide (f.1=5)<;>cases decide (f.1=9)<;>cases decide (f.1=4)<;>cases decide (f.1=6)<;>cases decide (f.1=7)<;>exact ⟨_,rfl⟩
  obtain ⟨c,e⟩:=this;unfold fcV;rw [e]
def C7u(f:F3):Int:=if f.1=1 then (bif B0j f 32 then 5 else 0) else 0
def D0Q(b:List Int)(ahead more:Int):List Int×Bool:=if ahead+more>(b.length:Int) then ([],false) else ((b.take ((b.length:Int)-more).toNat).drop ahead.toNat,true)
def B2u(f:F3):List Int×Bool:=bif B0j f 8 then (if f.2.2.2.length=0 then ([],false) else D0Q (f.2.2.2.drop 1) (C7u f) (byN f.2.2.2 0:Int)) else D0Q f.2.2.2 (C7u f) 0
theorem D2L(b:List Int)(a m:Int):(D0Q b a m).1.length<=b.length:=by
  unfold D0Q;split
  · simp
  · simp only [D5,B4];omega
theorem E0O(f:F3):(B2u f).1.length<=f.2.2.2.length:=by
  unfold B2u;cases B0j f 8
  · exact D2L _ _ _
  · simp only [B2]
    split
    · simp
    · have:=D2L (f.2.2.2.drop 1) (C7u f) (byN f.2.2.2 0:Int)
      simp only [D5] at this;omega
theorem E0P{f:F3}(h:Byt f.2.2.2):Byt (B2u f).1:=by
  have hB:∀ b a m,Byt b->Byt (D0Q b a m).1:=fun b a m hb=>by
    unfold D0Q;split
    · exact fun x hx=>by cases hx
    · exact B2W (B8K hb _) _
  unfold B2u;cases B0j f 8
  · exact hB _ _ _ h
  · simp only [B2]
    split
    · exact fun x hx=>by cases hx
    · exact hB _ _ _ (B2W h _)
theorem E0Q(b:List Int)(a m:Int)(ha:0<=a/\a<=5)(hm:0<=m/\m<256)(hl:b.length<=1000000) :
    (bif (decide ((i64.wrap (a+m))>(b.length:Int))) then some ([],false,()) else bif decide (0<=a) then bif decide (a<=(i64.wrap ((b.length:Int)-m))) then bif decide ((i64.wrap ((b.length:Int)-m))<=(b.length:Int)) then B0 (G7 ((b.take ((i64.wrap ((b.length:Int)-m)).toNat)).drop a.toNat)) fun c40=>some (c40.1,true,()) else none else none else none)=some ((D0Q b a m).1,(D0Q b a m).2,()):=by
  rw [w64 (n:=a+m) (by omega) (by omega),w64 (n:=(b.length:Int)-m) (by omega) (by omega)];unfold D0Q;by_cases h:a+m>(b.length:Int)
  · rw [A0 h,A6 h];rfl
  · rw [A8 h,A5 h,A0 (show 0<=a by omega),A0 (show a<=(b.length:Int)-m by omega),A0 (show (b.length:Int)-m<=(b.length:Int) by omega),A9L _ (by simp;omega)]
    rfl
theorem E0R(f:F3):0<=C7u f/\C7u f<=5:=by
  unfold C7u;split
  · cases B0j f 32<;>simp
  · simp
theorem C6s{f:F3}(hf:FrI f):B4r f=some ((B2u f).1,(B2u f).2,()):=by
  have ha:(bif (decide (f.1=1)) then bif B0j f 32 then some ((5:Int),()) else some (0,()) else some (0,()))=some (C7u f,()):=by
    unfold C7u;by_cases h:f.1=1
    · rw [A0 h,A6 h];cases B0j f 32<;>rfl
    · rw [A8 h,A5 h];rfl
  have hr:=E0R f;have hn:=hf.n;simp only [B4r,C2l,A84,bO,ha];unfold B2u;cases B0j f 8
  · simp only [A7,bSl,bO]
    exact E0Q f.2.2.2 (C7u f) 0 hr (by omega) (by omega)
  · simp only [B2]
    by_cases h0:f.2.2.2.length=0
    · rw [A0 (show (f.2.2.2.length:Int)=0 by omega),A6 h0];rfl
    · have h1:=C0f hf.b (show 0<f.2.2.2.length by omega)
      rw [show ((0:Nat):Int)=0 from rfl] at h1;rw [A8 (show ¬ (f.2.2.2.length:Int)=0 by omega),A5 h0,A0 (show (0:Int)<(f.2.2.2.length:Int) by omega),A0 (show (1:Int)<=(f.2.2.2.length:Int) by omega),h1.1,w64 (n:=(byN f.2.2.2 0:Int)) (by omega) (by omega),A9n];simp only [A7,B2,bSl,bO];exact E0Q (f.2.2.2.drop 1) (C7u f) (byN f.2.2.2 0:Int) hr (by omega) (by simp;omega)
def C0h(g:S1)(f:F3):Bool:=if g.1=0 then !decide (f.1=9) else decide (f.1=9)&&decide (f.2.2.1=g.1)
def C23(f:F3)(g:S1)(g2:S1):S1×List Int×Int:=
  if (g2.2.2.length:Int)>3000 then (g,[],4) else bif B0j f 4 then ((0,false,[]),g2.2.2,1) else (g2,[],0)
def E0S(g:S1)(f:F3):S1×List Int×Int:=
  if f.1=1 then (if (B2u f).2=false then (g,[],3) else C23 f g (f.2.2.1,B0j f 1,(B2u f).1)) else if f.1=9 then C23 f g (g.1,g.2.1,g.2.2++f.2.2.2) else (g,[],0)
noncomputable def A08(g:S1)(f:F3):S1×List Int×Int:=bif !decide (fcV f=0)||!C0h g f then (g,[],2) else E0S g f
theorem D4A(g:S1)(f:F3):A9r g f=some (C0h g f,()):=by
  simp only [A9r,B43];unfold C0h;by_cases h:g.1=0
  · rw [A0 h,A6 h];rfl
  · rw [A8 h,A5 h]
    cases decide (f.1=9)<;>rfl
def GaI(g:S1):Prop:=(g.1=0/\g.2.1=false/\g.2.2 = [])\/(1<=g.1/\g.1<=2147483647/\g.2.2.length<=3000)
theorem B7S{g:S1}(h:GaI g):A7j g=some (true,()):=by
  simp only [A7j,B5s,V1,bO];rcases h with ⟨h1,h2,h3⟩ | ⟨h1,h2,h3⟩
  · rw [A0 h1,h2,h3];rfl
  · rw [A8 (show ¬ g.1=0 by omega),A0 (show 1<=g.1/\g.1<=2147483647 from ⟨h1,h2⟩),A0 (show (g.2.2.length:Int)<=3000 by omega)]
    rfl
theorem GaI.len{g:S1}(h:GaI g):g.2.2.length<=3000:=by
  rcases h with ⟨_,_,h3⟩ | ⟨_,_,h3⟩
  · rw [h3];simp
  · exact h3
theorem D7l{g:S1}(hg:GaI g){f:F3}(hf:FrI f):C1c g f=some ((A08 g f).1,(A08 g f).2.1,(A08 g f).2.2,()):=by
  have hl:=hg.len;have hn:=hf.n;have hcp:=B9u g (by omega);simp only [C1c,C6E,B7S hg,A4n,D4A,hcp,C6s hf,A84,bO,E0,A7];unfold A08;cases decide (fcV f=0)
  case false=>rfl
  cases C0h g f
  case false=>rfl
  simp only [E0,A7,bO,bSl,Bool.or_self];unfold E0S;by_cases h1:f.1=1
  · rw [A0 h1,A6 h1]
    simp only [B2];cases hu:(B2u f).2 with
    | false=>rfl
    | true=>
      simp only [E0,A7,bSl,C1C,O7];unfold C23;by_cases h3:((B2u f).1.length:Int)>3000
      · rw [A0 h3,A6 h3];rfl
      · rw [A8 h3,A5 h3]
        cases B0j f 4<;>rfl
  · rw [A8 h1,A5 h1]
    simp only [A7];by_cases h9:f.1=9
    · rw [A0 h9,A6 h9,gA (by omega)]
      simp only [B2,bSl];unfold C23;by_cases h3:((g.2.2++f.2.2.2).length:Int)>3000
      · rw [A0 h3,A6 h3];rfl
      · rw [A8 h3,A5 h3]
        cases B0j f 4<;>rfl
    · rw [A8 h9,A5 h9];rfl
theorem D2M{f:F3}{g g2:S1}(h1:GaI g)(h2:1<=g2.1/\g2.1<=2147483647)(hb:Byt g.2.2)(hb2:Byt g2.2.2):GaI (C23 f g g2).1/\Byt (C23 f g g2).1.2.2/\Byt (C23 f g g2).2.1/\(C23 f g g2).2.1.length<=3000:=by
  have hn:Byt ([]:List Int):=fun x hx=>by cases hx
  unfold C23;by_cases h3:(g2.2.2.length:Int)>3000
  · rw [A6 h3];exact ⟨h1,hb,hn,by simp⟩
  · rw [A5 h3]
    cases B0j f 4
    · exact ⟨.inr ⟨h2.1,h2.2,by simp only [A7];omega⟩,hb2,hn,by simp⟩
    · exact ⟨.inl ⟨rfl,rfl,rfl⟩,hn,hb2,by simp only [B2];omega⟩
theorem C6t{g:S1}(hg:GaI g)(hb:Byt g.2.2){f:F3}(hf:FrI f)(h0:f.2.2.1≠0\/f.1≠1):GaI (A08 g f).1/\Byt (A08 g f).1.2.2/\Byt (A08 g f).2.1/\(A08 g f).2.1.length<=3000:=by
  have hn:Byt ([]:List Int):=fun x hx=>by cases hx
  unfold A08;cases hd:(!decide (fcV f=0)||!C0h g f) with
  | true=>exact ⟨hg,hb,hn,by simp⟩
  | false=>
    simp only [A7];unfold E0S;by_cases h1:f.1=1
    · rw [A6 h1]
      by_cases hu:(B2u f).2=false
      · rw [A6 hu];exact ⟨hg,hb,hn,by simp⟩
      · rw [A5 hu]
        have hs:=hf.st;exact D2M hg (by simp only;omega) hb (E0P hf.b)
    · rw [A5 h1]
      by_cases h9:f.1=9
      · rw [A6 h9]
        have hi:C0h g f=true:=by
          simp only [A4s,Bool.not_eq_false'] at hd;exact hd.2
        unfold C0h at hi;by_cases hg0:g.1=0
        · rw [A6 hg0,A0 h9] at hi;cases hi
        · rcases hg with ⟨q,_⟩ | ⟨q1,q2,q3⟩
          · exact absurd q hg0
          · exact D2M (.inr ⟨q1,q2,q3⟩) ⟨q1,q2⟩ hb (A10 hb hf.b)
      · rw [A5 h9];exact ⟨hg,hb,hn,by simp⟩
set_option maxRecDepth 100000
theorem D0R{f:F3}(h:fcV f=0)(h1:f.1=1):f.2.2.1≠0:=by
  intro h0;have e:=A4n f;rw [h] at e;have h2:∃ b,A1q f=some (b,()):=by
    simp only [A1q,A7M,V1,bO];cases decide (0<=f.1/\f.1<=255)<;>cases decide (0<=f.2.1/\f.2.1<=255)<;>cases decide (0<=f.2.2.1/\f.2.2.1<=2147483647)<;>exact ⟨_,rfl⟩
  have h3:∃ b,A2o f=some (b,()):=by
    simp only [A2o,A8t,A84,bO];cases decide (f.1=2)<;>cases decide (f.1=3)<;>cases decide (f.1=8)<;>cases decide (f.1=6)<;>cases decide (f.1=4)<;>cases decide (f.1=7)<;>cases decide ((f.2.2.2.length:Int).tmod 6=0)<;>cases decide ((f.2.2.2.length:Int)=0)<;>exact ⟨_,rfl⟩
  obtain ⟨b1,e1⟩:=h2;obtain ⟨b2,e2⟩:=h3;simp only [T8,A49,e1,e2,bO,A0 h0,A0 h1] at e;cases b1
  case false=>simp [bSr] at e
  cases b2
  case false=>simp [bSr] at e
  simp only [E0,A7,bSl] at e;cases hq:decide (f.1=0)<;>rw [hq] at e<;>simp [bO] at e
noncomputable def C6u(m:HM)(id:Int)(fin:Bool)(l:List C2):Int×HM:=
  if id.tmod 2=0\/id<=m.last then (1,m) else if 100<=m.strs.length then (11,m)
  else if (B9f l).2≠0 then (0,{m with last:=id,calls:=m.calls ++ [(id,(0,⟨#[]⟩,0),[],(B9f l).2)]})
  else (0,A4N {m with last:=id,strs:=m.strs ++ [(id,(if fin then 2 else 1),(B9f l).1,[])]} (id,(if fin then 2 else 1),(B9f l).1,[]))
noncomputable def B2b(m:HM)(id:Int)(fin:Bool)(b:List Int):Int×HM:=
  if (Q9 m.dec 4096 b).2.2.1≠0 then (9,m)
  else if B9g m.strs id=true then A7S {m with dec:=(Q9 m.dec 4096 b).2.1} (atM m.strs id) (if fin then 2 else 1)
  else C6u {m with dec:=(Q9 m.dec 4096 b).2.1} id fin (Q9 m.dec 4096 b).1
noncomputable def C4I(m:HM)(f:F3):Int×HM:=
  if (A08 m.g f).2.2=2\/(A08 m.g f).2.2=3 then (1,{m with g:=(A08 m.g f).1}) else if (A08 m.g f).2.2=4 then (11,{m with g:=(A08 m.g f).1})
  else if (A08 m.g f).2.2=1 then B2b {m with g:=(A08 m.g f).1} (if m.g.1=0 then f.2.2.1 else m.g.1) (if m.g.1=0 then B0j f 1 else m.g.2.1) (A08 m.g f).2.1
  else (0,{m with g:=(A08 m.g f).1})
def C6v(m:HM)(f:F3)(body:List Int):HM:=bif B0j f 1 then m else {m with out:=m.out++A4M (f.1,1,0,body)}
def C4S(m:HM)(f:F3):Int×HM:=if f.2.2.1>m.last then (1,m) else (0,m)
noncomputable def C4J(m:HM)(f:F3):Int×HM:=
  if B9g m.strs f.2.2.1=true then
    (if (B2u f).2=false then (1,m) else if ((sAt m.strs (atM m.strs f.2.2.1)).2.2.2.length:Int)+((B2u f).1.length:Int)>2000 then (11,m)
     else A7S (A66 m (atM m.strs f.2.2.1) ((sAt m.strs (atM m.strs f.2.2.1)).1,(sAt m.strs (atM m.strs f.2.2.1)).2.1,(sAt m.strs (atM m.strs f.2.2.1)).2.2.1,(sAt m.strs (atM m.strs f.2.2.1)).2.2.2++(B2u f).1)) (atM m.strs f.2.2.1) (bif B0j f 1 then 4 else 3))
  else C4S m f
def B8U(m:HM)(f:F3):Int×HM:=
  if B9g m.strs f.2.2.1=true then (0,{m with strs:=m.strs.take (atM m.strs f.2.2.1)++m.strs.drop (atM m.strs f.2.2.1+1)}) else C4S m f
def E2F(b:List Int):Bool:=(B2U b 0 4).2.1&&decide ((b.length:Int)=4)&&!decide (A14 .i64 (B2U b 0 4).1 2147483647=0)
noncomputable def frM(m:HM)(f:F3):Int×HM:=
  if fcV f=2 then (6,m) else if fcV f=3 then (1,m) else if m.g.1≠0\/f.1=1\/f.1=9 then C4I m f
  else if f.1=4 then (0,C6v m f []) else if f.1=6 then (0,C6v m f f.2.2.2) else if f.1=5 then (1,m) else if f.1=8 then (if E2F f.2.2.2=true then (0,m) else (1,m))
  else if f.1=0 then C4J m f else if f.1=3 then B8U m f else (0,m)
section
variable (pre:Int) (inn:List Int) (enc:E3) (dead:Int)
theorem D4B(m:HM)(h:HI m)(hl:m.calls.length<=1000000000)(id:Int)(fin:Bool)(b:List Int)(hb:Byt b)(hbl:b.length<=100000) :
    A5B (mkH pre inn enc dead m) id fin b=some ((B2b m id fin b).1,mkH pre inn enc dead (B2b m id fin b).2,()):=by
  have hg:=C6p h.dec (by omega:(4096:Int)<=4096) b;have hsl:=h.strs.1;have e0:=C6q h.dec hb (by omega) (most:=4096) (by omega);simp only [A5B,A8w,e0,bO];unfold B2b;by_cases h9:(Q9 m.dec 4096 b).2.2.1=0
  case neg=>rw [A8 h9,A6 h9];rfl
  rw [A0 h9,A5 (by simpa using h9)];have e1:=C37 pre inn enc dead {m with dec:=(Q9 m.dec 4096 b).2.1} id (by simp only;omega);simp only [mkC] at e1;simp only [E0,A7,e1,bO];cases hh:B9g m.strs id with
  | true=>
    have hlt:=B6g hh;have hst:=h.strs.2.2 _ (G3 hlt.1);rw [<- A83 hlt.1] at hst;have eh:B6B fin=some ((if fin then 2 else 1),()):=by cases fin<;>rfl
    have e2:=C22 pre inn enc dead {m with dec:=(Q9 m.dec 4096 b).2.1} (atM m.strs id) (if fin then 2 else 1) hlt.1 (by simp only;omega) (by have:=hst.2.2.2.2;simp only;omega);simp only [mkH,mkC] at e2;simp only [B2,eh,bO,e2,bSr,M7]
  | false=>
    simp only [A7,J2,O7];unfold C6u;have ho:(bif (decide ((id.tmod 2)=0)) then some (true,()) else some ((decide (id<=m.last)),()))=some (decide (id.tmod 2=0\/id<=m.last),()):=by
      by_cases q1:id.tmod 2=0
      · rw [A0 q1,A0 (show id.tmod 2=0\/id<=m.last from .inl q1)];rfl
      · rw [A8 q1]
        by_cases q2:id<=m.last
        · rw [A0 q2,A0 (show id.tmod 2=0\/id<=m.last from .inr q2)];rfl
        · rw [A8 q2,A8 (show ¬ (id.tmod 2=0\/id<=m.last) by omega)];rfl
    simp only [ho,bO];by_cases q:id.tmod 2=0\/id<=m.last
    · rw [A0 q,A6 q];rfl
    rw [A8 q,A5 q];simp only [A7];by_cases q2:100<=m.strs.length
    · rw [A0 (show (m.strs.length:Int)>=100 by omega),A6 q2];rfl
    rw [A8 (show ¬ (m.strs.length:Int)>=100 by omega),A5 q2];simp only [A7,bSl];rw [D45 _ (by have:=hg.2.1;omega) hg.2.2];simp only [bO];by_cases q3:(B9f (Q9 m.dec 4096 b).1).2=0
    · rw [A0 q3,A5 (by simpa using q3)]
      have eh:B6B fin=some ((if fin then 2 else 1),()):=by cases fin<;>rfl
      have es:A0G 0 (if fin then 2 else 1)=some ((if fin then 2 else 1),0,()):=by cases fin<;>rfl
      simp only [E0,A7,eh,bO,es];rw [D3v (by simp;omega)];have e3:=D49 pre inn enc dead {m with dec:=(Q9 m.dec 4096 b).2.1,last:=id,strs:=m.strs ++ [(id,(if fin then 2 else 1),(B9f (Q9 m.dec 4096 b).1).1,[])]} (id,(if fin then 2 else 1),(B9f (Q9 m.dec 4096 b).1).1,[]) (by simp only;omega) (by simp);simp only [mkH,mkC] at e3;rw [e3];rfl
    · rw [A8 q3,A6 (by simpa using q3)]
      simp only [M1,B2];rw [D3v (by simp;omega)]
theorem C38(m:HM)(h:HI m)(hl:m.calls.length<=1000000000)(f:F3)(hf:FrI f)(hc:fcV f=0) :
    A6d (mkH pre inn enc dead m) f=some ((C4I m f).1,mkH pre inn enc dead (C4I m f).2,()):=by
  have hok:=C6t h.g h.gb hf (by by_cases h1:f.1=1;exact .inl (D0R hc h1);exact .inr h1);have ho:(bif (decide (m.g.1=0)) then some (f.2.2.1,B0j f 1,()) else some (m.g.1,m.g.2.1,()))=some ((if m.g.1=0 then f.2.2.1 else m.g.1),(if m.g.1=0 then B0j f 1 else m.g.2.1),()):=by
    by_cases q:m.g.1=0
    · rw [A0 q,A6 q,A6 q];rfl
    · rw [A8 q,A5 q,A5 q];rfl
  simp only [A6d,B10,A84,bO,ho,D7l h.g hf];unfold C4I;by_cases q2:(A08 m.g f).2.2=2
  · rw [A0 q2,A6 (show (A08 m.g f).2.2=2\/(A08 m.g f).2.2=3 from .inl q2)];rfl
  rw [A8 q2];simp only [A7,bO];by_cases q3:(A08 m.g f).2.2=3
  · rw [A0 q3,A6 (show (A08 m.g f).2.2=2\/(A08 m.g f).2.2=3 from .inr q3)];rfl
  rw [A8 q3,A5 (show ¬ ((A08 m.g f).2.2=2\/(A08 m.g f).2.2=3) by omega)];by_cases q4:(A08 m.g f).2.2=4
  · rw [A0 q4,A6 q4];rfl
  rw [A8 q4,A5 q4];by_cases q1:(A08 m.g f).2.2=1
  · rw [A0 q1,A6 q1]
    have e:=D4B pre inn enc dead {m with g:=(A08 m.g f).1} ⟨h.strs,h.last,h.dec,hok.1,hok.2.1⟩ hl (if m.g.1=0 then f.2.2.1 else m.g.1) (if m.g.1=0 then B0j f 1 else m.g.2.1) (A08 m.g f).2.1 hok.2.2.1 (by omega);simp only [mkH,mkC] at e;simp only [B2,A7,e,bO]
  · rw [A8 q1,A5 q1];rfl
theorem C4K(m:HM)(ho:m.out.length<=100000000000000)(f:F3)(b:List Int)(hb:b.length<=1000):A4S (mkH pre inn enc dead m) f b=some (mkH pre inn enc dead (C6v m f b),()):=by
  simp only [A4S,A7r,A84,bO,mkH];unfold C6v;cases B0j f 1 with
  | true=>rfl
  | false=>
    simp only [M1,B2,A7];rw [B9t _ _ (by simp only;omega)];rfl
theorem C24(m:HM)(f:F3):A25 (mkH pre inn enc dead m) f=some ((C4S m f).1,mkH pre inn enc dead (C4S m f).2,()):=by
  simp only [A25,A72,mkH,mkC];unfold C4S;by_cases h:f.2.2.1>m.last
  · rw [A0 h,A6 h];rfl
  · rw [A8 h,A5 h];rfl
theorem D7m(m:HM)(h:HI m)(hl:m.calls.length<=1000000000)(f:F3)(hf:FrI f) :
    A6f (mkH pre inn enc dead m) f=some ((C4J m f).1,mkH pre inn enc dead (C4J m f).2,()):=by
  have hsl:=h.strs.1;have hn:=hf.n;have hu:=E0O f;have e1:=C37 pre inn enc dead m f.2.2.1 (by omega);have e2:=C24 pre inn enc dead m f;simp only [mkC] at e1;simp only [mkH,mkC] at e2;simp only [A6f,B11,mkH,mkC,e1,bO,C6s hf,A84];unfold C4J;cases hh:B9g m.strs f.2.2.1 with
  | false=>
    simp only [M1,B2,J2,O7,e2,bO]
  | true=>
    have hlt:=B6g hh;have hst:=h.strs.2.2 _ (G3 hlt.1);rw [<- A83 hlt.1] at hst;have h5:=hst.2.2.2.2;have d1:decide ((0:Int)<=(atM m.strs f.2.2.1:Int))=true:=A0 (by omega);have d2:decide ((atM m.strs f.2.2.1:Int)<(m.strs.length:Int))=true:=A0 (by omega);have e3:rd N8 m.strs (atM m.strs f.2.2.1:Int)=sAt m.strs (atM m.strs f.2.2.1):=rfl;simp only [E0,A7,M7,d1,d2,B2,e3];cases hq:(B2u f).2 with
    | false=>rfl
    | true=>
      simp only [E0,A7,C1C,O7];rw [w64 (by omega) (by omega)];by_cases q:((sAt m.strs (atM m.strs f.2.2.1)).2.2.2.length:Int)+((B2u f).1.length:Int)>2000
      · rw [A0 q,A6 q];rfl
      · rw [A8 q,A5 q]
        simp only [A7];rw [gA (by omega)];simp only [E6,bO];have e4:=fun ev=>C22 pre inn enc dead (A66 m (atM m.strs f.2.2.1) ((sAt m.strs (atM m.strs f.2.2.1)).1,(sAt m.strs (atM m.strs f.2.2.1)).2.1,(sAt m.strs (atM m.strs f.2.2.1)).2.2.1,(sAt m.strs (atM m.strs f.2.2.1)).2.2.2++(B2u f).1)) (atM m.strs f.2.2.1) ev (by simpa [A66] using hlt.1) (by simp only [A66];omega) (by
          simp only [A66];rw [A83 (by simpa using hlt.1),A2H];simp only [A4];omega)
        simp only [mkH,mkC,A66] at e4;cases B0j f 1
        · simp only [A7,e4,bO];rfl
        · simp only [B2,e4,bO];rfl
theorem D4C(m:HM)(h:HI m)(f:F3):A5E (mkH pre inn enc dead m) f=some ((B8U m f).1,mkH pre inn enc dead (B8U m f).2,()):=by
  have hsl:=h.strs.1;have e1:=C37 pre inn enc dead m f.2.2.1 (by omega);have e2:=C24 pre inn enc dead m f;simp only [mkC] at e1;simp only [mkH,mkC] at e2;simp only [A5E,A91,mkH,mkC,e1,bO];unfold B8U;cases hh:B9g m.strs f.2.2.1 with
  | false=>simp only [M1,B2,J2,O7,e2,bO]
  | true=>
    have hlt:=B6g hh;have w1:i64.wrap ((atM m.strs f.2.2.1:Int)+1)=((atM m.strs f.2.2.1+1:Nat):Int):=by rw [w64 (by omega) (by omega)];omega
    have e3:Q8 m.strs (atM m.strs f.2.2.1:Int) ((atM m.strs f.2.2.1+1:Nat):Int)=some (m.strs.take (atM m.strs f.2.2.1)++m.strs.drop (atM m.strs f.2.2.1+1),()):=by
      rw [show Q8=D1U from rfl];simp only [D1U];rw [A0 (by omega),A0 (by omega),A0 (by omega)];simp only [B2,E6]
    simp only [E0,A7,w1,e3,bO,M7]
theorem D2N(b:List Int)(hb:Byt b)(hl:b.length<=1000):∃ n,B1j b=some (n,E2F b,()):=by
  have e:=D1d b hb (by omega) 0 4 (by omega);rw [show ((4:Nat):Int)=4 from rfl] at e;simp only [B1j,B6J,e,bO];unfold E2F;cases (B2U b 0 4).2.1<;>cases decide ((b.length:Int)=4)<;>cases decide (A14 .i64 (B2U b 0 4).1 2147483647=0)<;>exact ⟨_,rfl⟩
theorem D4D(m:HM)(h:HI m)(hl:HL m)(f:F3)(hf:FrI f):A1w (mkH pre inn enc dead m) f=some ((frM m f).1,mkH pre inn enc dead (frM m f).2,()):=by
  have hn:=hf.n;simp only [A1w,A92,A4n,bO];unfold frM;by_cases c2:fcV f=2
  · rw [A0 c2,A6 c2];rfl
  rw [A8 c2,A5 c2];by_cases c3:fcV f=3
  · rw [A0 c3,A6 c3];rfl
  rw [A8 c3,A5 c3];have hc:fcV f=0:=by
    have e:=A4n f;have hall:∃ c,T8 f=some (c,())/\(c=0\/c=2\/c=3):=by
      have h2:∃ b,A1q f=some (b,()):=by
        simp only [A1q,A7M,V1,bO];cases decide (0<=f.1/\f.1<=255)<;>cases decide (0<=f.2.1/\f.2.1<=255)<;>cases decide (0<=f.2.2.1/\f.2.2.1<=2147483647)<;>exact ⟨_,rfl⟩
      have h3:∃ b,A2o f=some (b,()):=by
        simp only [A2o,A8t,A84,bO];cases decide (f.1=2)<;>cases decide (f.1=3)<;>cases decide (f.1=8)<;>cases decide (f.1=6)<;>cases decide (f.1=4)<;>cases decide (f.1=7)<;>cases decide ((f.2.2.2.length:Int).tmod 6=0)<;>cases decide ((f.2.2.2.length:Int)=0)<;>exact ⟨_,rfl⟩
      obtain ⟨b1,e1⟩:=h2;obtain ⟨b2,e2⟩:=h3;simp only [T8,A49,e1,e2,bO];cases b1
      case false=>exact ⟨_,rfl,.inr (.inl rfl)⟩
      cases b2
      case false=>exact ⟨_,rfl,.inr (.inl rfl)⟩
      simp only [E0,A7,bSl];cases decide (f.2.2.1=0)<;>cases decide (f.1=0)<;>cases decide (f.1=1)<;>cases decide (f.1=2)<;>cases decide (f.1=3)<;>cases decide (f.1=5)<;>cases decide (f.1=9)<;>cases decide (f.1=4)<;>cases decide (f.1=6)<;>cases decide (f.1=7)<;>first | exact ⟨_,rfl,.inl rfl⟩ | exact ⟨_,rfl,.inr (.inr rfl)⟩
    obtain ⟨c,e1,e2⟩:=hall;rw [e1] at e;injection e with e
    injection e with e _
    omega
  simp only [A7];by_cases g0:m.g.1=0
  case neg=>
    rw [A8 g0,A6 (.inl g0)];simp only [M1,B2,C38 pre inn enc dead m h hl.1 f hf hc,bO]
  rw [A0 g0];simp only [E0,A7];by_cases k1:f.1=1
  · rw [A0 k1,A6 (.inr (.inl k1))]
    simp only [B2,bO,C38 pre inn enc dead m h hl.1 f hf hc]
  rw [A8 k1];simp only [A7,bO];by_cases k9:f.1=9
  · rw [A0 k9,A6 (.inr (.inr k9))]
    simp only [B2,bO,C38 pre inn enc dead m h hl.1 f hf hc]
  rw [A8 k9,A5 (by omega)];simp only [A7];by_cases k4:f.1=4
  · rw [A0 k4,A6 k4]
    simp only [B2,C4K pre inn enc dead m (by have:=hl.2;omega) f [] (by simp),bO]
  rw [A8 k4,A5 k4];simp only [A7];by_cases k6:f.1=6
  · rw [A0 k6,A6 k6]
    simp only [B2,C4K pre inn enc dead m (by have:=hl.2;omega) f f.2.2.2 hn,bO]
  rw [A8 k6,A5 k6];simp only [A7];by_cases k5:f.1=5
  · rw [A0 k5,A6 k5];rfl
  rw [A8 k5,A5 k5];simp only [A7];by_cases k8:f.1=8
  · rw [A0 k8,A6 k8]
    obtain ⟨n,e⟩:=D2N f.2.2.2 hf.b hn;simp only [B2,e,bO];cases E2F f.2.2.2<;>rfl
  rw [A8 k8,A5 k8];simp only [A7];by_cases k0:f.1=0
  · rw [A0 k0,A6 k0]
    simp only [B2,D7m pre inn enc dead m h hl.1 f hf,bO]
  rw [A8 k0,A5 k0];simp only [A7];by_cases k3:f.1=3
  · rw [A0 k3,A6 k3]
    simp only [B2,D4C pre inn enc dead m h f,bO]
  · rw [A8 k3,A5 k3];rfl
end
set_option maxRecDepth 100000
structure FrO (m:HM) (r:Int×HM):Prop where
  code:0<=r.1/\r.1<=20
  hi:r.1=0->HI r.2
  last:0<=r.2.last/\r.2.last<=2147483647
  dec:A1V r.2.dec
  calls:r.2.calls.length<=m.calls.length+1
  out:r.2.out.length<=m.out.length+1100
theorem B6h{m:HM}(h:HI m){c:Int}(hc:0<c/\c<=20):FrO m (c,m):=⟨by simp only;omega,fun e=>by simp only at e;omega,h.last,h.dec,by simp only;omega,by simp only;omega⟩
theorem C25{m:HM}(h:HI m):FrO m (0,m):=⟨by simp only;omega,fun _=>h,h.last,h.dec,by simp only;omega,by simp only;omega⟩
theorem D2O{m m0:HM}(h:HI m){i:Nat}{ev:Int}(hi:i<m.strs.length)(hev:1<=ev/\ev<=4)(h1:m.calls=m0.calls)(h2:m.out=m0.out):FrO m0 (A7S m i ev):=by
  obtain ⟨a1,a2,a3,a4,a5,a6,a7⟩:=E0N h hi hev;exact ⟨⟨a2,a3⟩,a1,by rw [a4];exact h.last,by rw [a6];exact h.dec,by rw [<- h1];exact a7,by rw [a5,h2];omega⟩
theorem D7n{m m0:HM}(h:HI m)(id:Int)(hid:id<=2147483647)(fin:Bool)(b:List Int)(h1:m.calls=m0.calls)(h2:m.out=m0.out):FrO m0 (B2b m id fin b):=by
  have hg:=C6p h.dec (by omega:(4096:Int)<=4096) b;have hm:HI {m with dec:=(Q9 m.dec 4096 b).2.1}:=⟨h.strs,h.last,hg.1,h.g,h.gb⟩;have hl:=h.last;unfold B2b;by_cases h9:(Q9 m.dec 4096 b).2.2.1≠0
  · rw [A6 h9]
    exact ⟨by simp only;omega,fun e=>by simp only at e;omega,h.last,h.dec,by simp only [h1];omega,by simp only [h2];omega⟩
  rw [A5 h9];cases hh:B9g m.strs id with
  | true=>
    rw [A6 rfl];exact D2O hm (B6g hh).1 (by cases fin<;>simp) h1 h2
  | false=>
    rw [A5 (by simp)];unfold C6u;by_cases q:id.tmod 2=0\/id<=m.last
    · rw [A6 q]
      exact ⟨by simp only;omega,fun e=>by simp only at e;omega,h.last,hg.1,by simp only [h1];omega,by simp only [h2];omega⟩
    rw [A5 q];by_cases q2:100<=m.strs.length
    · rw [A6 q2]
      exact ⟨by simp only;omega,fun e=>by simp only at e;omega,h.last,hg.1,by simp only [h1];omega,by simp only [h2];omega⟩
    rw [A5 q2];have ht:id.tmod 2=1:=by
      have:=A2F (a:=id) (b:=2) (by omega);omega
    by_cases q3:(B9f (Q9 m.dec 4096 b).1).2≠0
    · rw [A6 q3]
      exact ⟨by simp only;omega,fun _=>⟨D48 h.strs (by simp only;omega),by simp only;omega,hg.1,h.g,h.gb⟩,by simp only;omega,hg.1,by simp only [A4,H7,h1];omega,by simp only [h2];omega⟩
    · rw [A5 q3]
      obtain ⟨z1,z2,z3,z4,z5,z6⟩:=C4H {m with dec:=(Q9 m.dec 4096 b).2.1,last:=id,strs:=m.strs ++ [(id,(if fin then 2 else 1),(B9f (Q9 m.dec 4096 b).1).1,[])]} (id,(if fin then 2 else 1),(B9f (Q9 m.dec 4096 b).1).1,[]);refine ⟨by simp only;omega,fun _=>⟨?_,?_,?_,?_,?_⟩,?_,?_,?_,?_⟩
      · rw [z1,z2]
        exact D47 h.strs (by omega) (s:=(id,(if fin then 2 else 1),(B9f (Q9 m.dec 4096 b).1).1,[])) (by simp only;omega) ht (by cases fin<;>simp) (by simp) (by simp only;omega)
      · rw [z2];simp only;omega
      · rw [z3];exact hg.1
      · rw [z4];exact h.g
      · rw [z4];exact h.gb
      · simp only;rw [z2];simp only;omega
      · simp only;rw [z3];exact hg.1
      · simp only at z6 ⊢;rw [<- h1];exact z6
      · simp only;rw [z5];simp only [h2];omega
theorem E0T{m:HM}(h:HI m){f:F3}(hf:FrI f)(hc:fcV f=0):FrO m (C4I m f):=by
  have hok:=C6t h.g h.gb hf (by by_cases h1:f.1=1;exact .inl (D0R hc h1);exact .inr h1);have hm:HI {m with g:=(A08 m.g f).1}:=⟨h.strs,h.last,h.dec,hok.1,hok.2.1⟩;unfold C4I;by_cases q2:(A08 m.g f).2.2=2\/(A08 m.g f).2.2=3
  · rw [A6 q2]
    exact ⟨by simp only;omega,fun e=>by simp only at e;omega,h.last,h.dec,by simp only;omega,by simp only;omega⟩
  rw [A5 q2];by_cases q4:(A08 m.g f).2.2=4
  · rw [A6 q4]
    exact ⟨by simp only;omega,fun e=>by simp only at e;omega,h.last,h.dec,by simp only;omega,by simp only;omega⟩
  rw [A5 q4];by_cases q1:(A08 m.g f).2.2=1
  · rw [A6 q1]
    have hs:=hf.st;refine D7n hm _ ?_ _ _ rfl rfl;by_cases g0:m.g.1=0
    · rw [A6 g0];omega
    · rw [A5 g0]
      rcases h.g with q | q
      · exact absurd q.1 g0
      · exact q.2.1
  · rw [A5 q1]
    exact ⟨by simp only;omega,fun _=>hm,h.last,h.dec,by simp only;omega,by simp only;omega⟩
theorem D6D{m:HM}(h:HI m)(f:F3)(hf:FrI f)(b:List Int)(hb:b.length<=1000):FrO m (0,C6v m f b):=by
  have hk:=hf.k;unfold C6v;cases B0j f 1
  · have hl:=A9M (f.1,1,0,b) (fok _ _ _ _ (by omega) (by omega) (by omega) (by omega))
    exact ⟨by simp only;omega,fun _=>⟨h.strs,h.last,h.dec,h.g,h.gb⟩,h.last,h.dec,by simp only [A7];omega,by simp only [A7,A4];omega⟩
  · exact C25 h
theorem D6E{m:HM}(h:HI m)(f:F3):FrO m (C4S m f):=by
  unfold C4S;split
  · exact B6h h (by omega)
  · exact C25 h
theorem E0U{m:HM}(h:HI m){f:F3}(hf:FrI f):FrO m (C4J m f):=by
  unfold C4J;cases hh:B9g m.strs f.2.2.1 with
  | false=>rw [A5 (by simp)];exact D6E h f
  | true=>
    rw [A6 rfl];have hlt:=B6g hh;have hst:=h.strs.2.2 _ (G3 hlt.1);rw [<- A83 hlt.1] at hst;by_cases hu:(B2u f).2=false
    · rw [A6 hu];exact B6h h (by omega)
    rw [A5 hu];by_cases q:((sAt m.strs (atM m.strs f.2.2.1)).2.2.2.length:Int)+((B2u f).1.length:Int)>2000
    · rw [A6 q];exact B6h h (by omega)
    rw [A5 q];refine D2O ?_ ?_ ?_ rfl rfl
    · exact ⟨C9E h.strs hlt.1 rfl hst.2.2.2.1 (by simp only [A4];omega),h.last,h.dec,h.g,h.gb⟩
    · simpa [A66] using hlt.1
    · cases B0j f 1<;>simp
theorem D7o{m:HM}(h:HI m)(f:F3):FrO m (B8U m f):=by
  unfold B8U;cases hh:B9g m.strs f.2.2.1 with
  | false=>rw [A5 (by simp)];exact D6E h f
  | true=>
    rw [A6 rfl];exact ⟨by simp only;omega,fun _=>⟨D7k h.strs _,h.last,h.dec,h.g,h.gb⟩,h.last,h.dec,by simp only;omega,by simp only;omega⟩
theorem D6F(f:F3):fcV f=0\/fcV f=2\/fcV f=3:=by
  have e:=A4n f;have hall:∃ c,T8 f=some (c,())/\(c=0\/c=2\/c=3):=by
    have h2:∃ b,A1q f=some (b,()):=by
      simp only [A1q,A7M,V1,bO];cases decide (0<=f.1/\f.1<=255)<;>cases decide (0<=f.2.1/\f.2.1<=255)<;>cases decide (0<=f.2.2.1/\f.2.2.1<=2147483647)<;>exact ⟨_,rfl⟩
    have h3:∃ b,A2o f=some (b,()):=by
      simp only [A2o,A8t,A84,bO];cases decide (f.1=2)<;>cases decide (f.1=3)<;>cases decide (f.1=8)<;>cases decide (f.1=6)<;>cases decide (f.1=4)<;>cases decide (f.1=7)<;>cases decide ((f.2.2.2.length:Int).tmod 6=0)<;>cases decide ((f.2.2.2.length:Int)=0)<;>exact ⟨_,rfl⟩
    obtain ⟨b1,e1⟩:=h2;obtain ⟨b2,e2⟩:=h3;simp only [T8,A49,e1,e2,bO];cases b1
    case false=>exact ⟨_,rfl,.inr (.inl rfl)⟩
    cases b2
    case false=>exact ⟨_,rfl,.inr (.inl rfl)⟩
    simp only [E0,A7,bSl];cases decide (f.2.2.1=0)<;>cases decide (f.1=0)<;>cases decide (f.1=1)<;>cases decide (f.1=2)<;>cases decide (f.1=3)<;>cases decide (f.1=5)<;>cases decide (f.1=9)<;>cases decide (f.1=4)<;>cases decide (f.1=6)<;>cases decide (f.1=7)<;>first | exact ⟨_,rfl,.inl rfl⟩ | exact ⟨_,rfl,.inr (.inr rfl)⟩
  obtain ⟨c,e1,e2⟩:=hall;rw [e1] at e;injection e with e
  injection e with e _
  omega
theorem E0V{m:HM}(h:HI m){f:F3}(hf:FrI f):FrO m (frM m f):=by
  have hr:=D6F f;unfold frM;by_cases c2:fcV f=2
  · rw [A6 c2];exact B6h h (by omega)
  rw [A5 c2];by_cases c3:fcV f=3
  · rw [A6 c3];exact B6h h (by omega)
  rw [A5 c3];by_cases k:m.g.1≠0\/f.1=1\/f.1=9
  · rw [A6 k];exact E0T h hf (by omega)
  rw [A5 k];by_cases k4:f.1=4
  · rw [A6 k4];exact D6D h f hf [] (by simp)
  rw [A5 k4];by_cases k6:f.1=6
  · rw [A6 k6];exact D6D h f hf _ hf.n
  rw [A5 k6];by_cases k5:f.1=5
  · rw [A6 k5];exact B6h h (by omega)
  rw [A5 k5];by_cases k8:f.1=8
  · rw [A6 k8]
    split
    · exact C25 h
    · exact B6h h (by omega)
  rw [A5 k8];by_cases k0:f.1=0
  · rw [A6 k0];exact E0U h hf
  rw [A5 k0];by_cases k3:f.1=3
  · rw [A6 k3];exact D7o h f
  · rw [A5 k3];exact C25 h
abbrev pfM(cs:List A0m)(os:List Int)(m:HM):HM:={m with calls:=cs++m.calls,out:=os++m.out}
abbrev pfR(cs:List A0m)(os:List Int)(r:Int×HM):Int×HM:=(r.1,pfM cs os r.2)
section
variable (cs:List A0m) (os:List Int)
theorem C9G(m:HM)(s:A2n):A4N (pfM cs os m) s=pfM cs os (A4N m s):=by
  unfold A4N;split<;>simp [pfM]
theorem D2P(m:HM)(i:Nat)(ev:Int):A7S (pfM cs os m) i ev=pfR cs os (A7S m i ev):=by
  unfold A7S;by_cases h1:(stV (sAt m.strs i).2.1 ev).2=1
  · rw [A6 h1,A6 h1]
  rw [A5 h1,A5 h1];by_cases h2:(stV (sAt m.strs i).2.1 ev).2=2
  · rw [A6 h2,A6 h2]
  rw [A5 h2,A5 h2];show _=(0,pfM cs os _);rw [<- C9G];rfl
theorem D7p(m:HM)(id:Int)(fin:Bool)(b:List Int):B2b (pfM cs os m) id fin b=pfR cs os (B2b m id fin b):=by
  unfold B2b;by_cases h9:(Q9 m.dec 4096 b).2.2.1≠0
  · rw [A6 h9,A6 h9]
  rw [A5 h9,A5 h9];by_cases hh:B9g m.strs id=true
  · rw [A6 hh,A6 hh]
    exact D2P cs os {m with dec:=(Q9 m.dec 4096 b).2.1} _ _
  rw [A5 hh,A5 hh];unfold C6u;by_cases q:id.tmod 2=0\/id<=m.last
  · rw [A6 q,A6 q]
  rw [A5 q,A5 q];by_cases q2:100<=m.strs.length
  · rw [A6 q2,A6 q2]
  rw [A5 q2,A5 q2];by_cases q3:(B9f (Q9 m.dec 4096 b).1).2≠0
  · rw [A6 q3,A6 q3]
    simp
  · rw [A5 q3,A5 q3]
    show _=(0,pfM cs os _);rw [<- C9G]
theorem E3O(m:HM)(f:F3):frM (pfM cs os m) f=pfR cs os (frM m f):=by
  unfold frM;by_cases c2:fcV f=2
  · rw [A6 c2,A6 c2]
  rw [A5 c2,A5 c2];by_cases c3:fcV f=3
  · rw [A6 c3,A6 c3]
  rw [A5 c3,A5 c3];by_cases k:m.g.1≠0\/f.1=1\/f.1=9
  · rw [A6 k,A6 k]
    unfold C4I;by_cases q2:(A08 m.g f).2.2=2\/(A08 m.g f).2.2=3
    · rw [A6 q2,A6 q2]
    rw [A5 q2,A5 q2];by_cases q4:(A08 m.g f).2.2=4
    · rw [A6 q4,A6 q4]
    rw [A5 q4,A5 q4];by_cases q1:(A08 m.g f).2.2=1
    · rw [A6 q1,A6 q1]
      exact D7p cs os {m with g:=(A08 m.g f).1} _ _ _
    · rw [A5 q1,A5 q1]
  rw [A5 k,A5 k];have ha:∀ b,C6v (pfM cs os m) f b=pfM cs os (C6v m f b):=fun b=>by
    unfold C6v;cases B0j f 1<;>simp [pfM]
  have hu:C4S (pfM cs os m) f=pfR cs os (C4S m f):=by
    unfold C4S;by_cases q:f.2.2.1>m.last
    · rw [A6 q,A6 q]
    · rw [A5 q,A5 q]
  by_cases k4:f.1=4
  · rw [A6 k4,A6 k4,ha]
  rw [A5 k4,A5 k4];by_cases k6:f.1=6
  · rw [A6 k6,A6 k6,ha]
  rw [A5 k6,A5 k6];by_cases k5:f.1=5
  · rw [A6 k5,A6 k5]
  rw [A5 k5,A5 k5];by_cases k8:f.1=8
  · rw [A6 k8,A6 k8]
    split<;>rfl
  rw [A5 k8,A5 k8];by_cases k0:f.1=0
  · rw [A6 k0,A6 k0]
    unfold C4J;by_cases hh:B9g m.strs f.2.2.1=true
    · rw [A6 hh,A6 hh]
      by_cases h1:(B2u f).2=false
      · rw [A6 h1,A6 h1]
      rw [A5 h1,A5 h1];by_cases q:((sAt m.strs (atM m.strs f.2.2.1)).2.2.2.length:Int)+((B2u f).1.length:Int)>2000
      · rw [A6 q,A6 q]
      rw [A5 q,A5 q];exact D2P cs os (A66 m _ _) _ _
    · rw [A5 hh,A5 hh,hu]
  rw [A5 k0,A5 k0];by_cases k3:f.1=3
  · rw [A6 k3,A6 k3]
    unfold B8U;by_cases hh:B9g m.strs f.2.2.1=true
    · rw [A6 hh,A6 hh]
    · rw [A5 hh,A5 hh,hu]
  · rw [A5 k3,A5 k3]
end
set_option maxRecDepth 100000
theorem C39(b:List Int)(a c:Nat):∀ j,R1 (b.drop a) c j=R1 b (a+c) j
  | 0=>rfl
  | j+1=>by
    simp only [R1,C39 b a c j];rw [show (b.drop a).getD (c+j) 0=b.getD (a+c+j) 0 by simp [List.getD,G2,P1]]
theorem A9N(b:List Int)(n c:Nat):∀ j,c+j<=n->R1 (b.take n) c j=R1 b c j
  | 0,_=>rfl
  | j+1,h=>by
    simp only [R1,A9N b n c j (by omega)];rw [show (b.take n).getD (c+j) 0=b.getD (c+j) 0 by simp [List.getD,L0,show c+j<n by omega]]
def codeF(b:List Int):Nat:=if b.length<9 then 1 else if R1 b 0 3>1000 then 2 else if b.length<9+R1 b 0 3 then 1 else 0
def A1t(b:List Int):Nat:=9+R1 b 0 3
def V8(b:List Int):F3:=(A82 b 0).1
theorem C4L{b:List Int}{a:Nat}(ha:a<=b.length):(A82 b a).2.2.1=(codeF (b.drop a):Int)/\(codeF (b.drop a)=0->(A82 b a).1=V8 (b.drop a)/\(A82 b a).2.1=((a+A1t (b.drop a):Nat):Int)/\a+A1t (b.drop a)<=b.length):=by
  have hl:(b.drop a).length=b.length-a:=by simp
  have e0:R1 (b.drop a) 0 3=R1 b a 3:=by rw [C39];rfl
  have hg:∀ (k:Nat),rd (.int .u8) (b.drop a) (k:Int)=rd (.int .u8) b ((a:Int)+k):=fun k=>by
    simp only [rd];rw [show ((a:Int)+(k:Int)).toNat=a+k by omega,E6];simp [List.getD,G2]
  unfold codeF A1t V8;rw [hl,e0];unfold A82;by_cases h9:b.length-a<9
  · rw [A6 h9,A5 (show ¬ (0<=(a:Int)/\(a:Int)<=(b.length:Int)-9) by omega)]
    exact ⟨rfl,fun h=>by cases h⟩
  rw [A5 h9,A6 (show 0<=(a:Int)/\(a:Int)<=(b.length:Int)-9 by omega),E6];by_cases h1:R1 b a 3>1000
  · rw [A6 h1,A6 (show (R1 b a 3:Int)>1000 by omega)]
    exact ⟨rfl,fun h=>by cases h⟩
  rw [A5 h1,A5 (show ¬ (R1 b a 3:Int)>1000 by omega)];by_cases h2:b.length-a<9+R1 b a 3
  · rw [A6 h2,A6 (show (R1 b a 3:Int)>(b.length:Int)-(a:Int)-9 by omega)]
    exact ⟨rfl,fun h=>by cases h⟩
  rw [A5 h2,A5 (show ¬ (R1 b a 3:Int)>(b.length:Int)-(a:Int)-9 by omega)];refine ⟨rfl,fun _=>⟨?_,(by show (a:Int)+9+(R1 b a 3:Int)=((a+(9+R1 b a 3):Nat):Int);omega),by omega⟩⟩;rw [A6 (show 0<=(0:Int)/\(0:Int)<=((b.drop a).length:Int)-9 by omega)];rw [show (0:Int).toNat=0 from rfl,e0,A5 (show ¬ (R1 b a 3:Int)>1000 by omega),A5 (show ¬ (R1 b a 3:Int)>((b.drop a).length:Int)-0-9 by omega)];have r3:=hg 3;have r4:=hg 4;rw [show ((3:Nat):Int)=3 from rfl] at r3;rw [show ((4:Nat):Int)=4 from rfl] at r4;simp only [B7M];rw [r3,r4];have e5:R1 (b.drop a) (5:Int).toNat 4=R1 b ((a:Int)+5).toNat 4:=by
    rw [C39]
    congr 1
  rw [e5];have e9:((b.drop a).take ((9:Int)+(R1 b a 3:Int)).toNat).drop (9:Int).toNat=(b.take ((a:Int)+9+(R1 b a 3:Int)).toNat).drop ((a:Int)+9).toNat:=by
    rw [show ((a:Int)+9+(R1 b a 3:Int)).toNat=a+(9+R1 b a 3) by omega,show ((a:Int)+9).toNat=a+9 by omega,show ((9:Int)+(R1 b a 3:Int)).toNat=9+R1 b a 3 by omega,show (9:Int).toNat=9 from rfl];rw [A2C,A2C,O9]
    congr 1
    omega
  rw [e9]
theorem B9R(b:List Int):codeF b=0\/codeF b=1\/codeF b=2:=by
  unfold codeF;split
  · omega
  · split
    · omega
    · split<;>omega
theorem C0i{b:List Int}(h:codeF b=1)(k:Nat):codeF (b.take k)=1:=by
  unfold codeF at h ⊢;by_cases h9:(b.take k).length<9
  · rw [A6 h9]
  rw [A5 h9];rw [B4] at h9;rw [A5 (by omega)] at h;rw [A9N _ _ _ _ (by omega),B4];by_cases h1:R1 b 0 3>1000
  · rw [A6 h1] at h;cases h
  rw [A5 h1] at h ⊢;by_cases h2:b.length<9+R1 b 0 3
  · rw [A6 (by omega)]
  · rw [A5 h2] at h;cases h
theorem D2Q{b:List Int}(h:codeF b=2):9<=b.length/\(∀ k,k<9->codeF (b.take k)=1)/\∀ k,9<=k->codeF (b.take k)=2:=by
  unfold codeF at h;by_cases h9:b.length<9
  · rw [A6 h9] at h;cases h
  rw [A5 h9] at h;by_cases h1:R1 b 0 3>1000
  · refine ⟨by omega,fun k hk=>?_,fun k hk=>?_⟩
    · unfold codeF
      rw [A6 (by rw [B4];omega)]
    · unfold codeF
      rw [A5 (by rw [B4];omega),A9N _ _ _ _ (by omega),A6 h1]
  · rw [A5 h1] at h
    split at h<;>cases h
theorem B3d{b:List Int}(h:codeF b=0):A1t b<=b.length/\9<=A1t b/\A1t b<=1009/\(∀ k,k<A1t b->codeF (b.take k)=1)/\codeF (b.take (A1t b))=0:=by
  unfold codeF at h;by_cases h9:b.length<9
  · rw [A6 h9] at h;cases h
  rw [A5 h9] at h;by_cases h1:R1 b 0 3>1000
  · rw [A6 h1] at h;cases h
  rw [A5 h1] at h;by_cases h2:b.length<9+R1 b 0 3
  · rw [A6 h2] at h;cases h
  unfold A1t;refine ⟨by omega,by omega,by omega,fun k hk=>?_,?_⟩
  · unfold codeF
    by_cases hk9:k<9
    · rw [A6 (by rw [B4];omega)]
    · rw [A5 (by rw [B4];omega),A9N _ _ _ _ (by omega),A5 h1,A6 (by rw [B4];omega)]
  · unfold codeF
    rw [A5 (by rw [B4];omega),A9N _ _ _ _ (by omega),A5 h1,A5 (by rw [B4];omega)]
theorem D2R{b:List Int}(h:codeF b=0):V8 (b.take (A1t b))=V8 b:=by
  obtain ⟨h1,h2,h3,_,h5⟩:=B3d h;have hn:A1t b=9+R1 b 0 3:=rfl;have hl:(b.take (A1t b)).length=A1t b:=by rw [B4];omega
  have hr:∀ (k:Nat),k<A1t b->rd (.int .u8) (b.take (A1t b)) (k:Int)=rd (.int .u8) b (k:Int):=fun k hk=>by
    simp only [rd,E6];simp [List.getD,L0,hk]
  have e3:R1 (b.take (A1t b)) 0 3=R1 b 0 3:=A9N _ _ _ _ (by omega);unfold V8 A82;rw [A6 (show 0<=(0:Int)/\(0:Int)<=((b.take (A1t b)).length:Int)-9 by omega),A6 (show 0<=(0:Int)/\(0:Int)<=(b.length:Int)-9 by omega)];rw [show (0:Int).toNat=0 from rfl,e3];rw [A5 (show ¬ (R1 b 0 3:Int)>1000 by omega),A5 (show ¬ (R1 b 0 3:Int)>((b.take (A1t b)).length:Int)-0-9 by omega),A5 (show ¬ (R1 b 0 3:Int)>1000 by omega),A5 (show ¬ (R1 b 0 3:Int)>(b.length:Int)-0-9 by omega)];simp only [B7M];have r3:=hr 3 (by omega);have r4:=hr 4 (by omega);rw [show ((3:Nat):Int)=3 from rfl] at r3;rw [show ((4:Nat):Int)=4 from rfl] at r4;rw [r3,r4,A9N _ _ _ _ (show (5:Int).toNat+4<=A1t b by simp;omega)];rw [show ((9:Int)+(R1 b 0 3:Int)).toNat=A1t b by omega,N5,Nat.min_self]
theorem C3A{b:List Int}(hb:Byt b)(h:codeF b=0):FrI (V8 b):=by
  obtain ⟨h1,h2,h3,_,_⟩:=B3d h;have hn:A1t b=9+R1 b 0 3:=rfl;have r3:=C0f hb (show 3<b.length by omega);have r4:=C0f hb (show 4<b.length by omega);rw [show ((3:Nat):Int)=3 from rfl] at r3;rw [show ((4:Nat):Int)=4 from rfl] at r4;have hs:=C5F hb 5 4;have hm:A14 .i64 (R1 b 5 4:Int) 2147483647=((R1 b 5 4 % 2 ^ 31:Nat):Int):=by
    rw [show (2147483647:Int)=((2147483647:Nat):Int) from rfl,C1v (by simp at hs;omega) (by omega),show (2147483647:Nat)=2 ^ 31-1 from rfl,A3N]
  have hlt:R1 b 5 4 % 2 ^ 31<2 ^ 31:=A3q _ (by decide);have e:V8 b=(rd (.int .u8) b 3,rd (.int .u8) b 4,A14 .i64 (R1 b 5 4:Int) 2147483647,(b.take ((9:Int)+(R1 b 0 3:Int)).toNat).drop (9:Int).toNat):=by
    unfold V8 A82;rw [A6 (show 0<=(0:Int)/\(0:Int)<=(b.length:Int)-9 by omega),show (0:Int).toNat=0 from rfl,A5 (show ¬ (R1 b 0 3:Int)>1000 by omega),A5 (show ¬ (R1 b 0 3:Int)>(b.length:Int)-0-9 by omega)];simp only [B7M];rfl
  rw [e];refine ⟨?_,?_,?_,?_,?_⟩
  · simp only [r3.1];omega
  · simp only [r4.1];omega
  · simp only [hm];omega
  · simp only [D5,B4];omega
  · exact B2W (B8K hb _) _
set_option maxRecDepth 100000
abbrev priS:X0:=⟨#[80,82,73,32,42,32,72,84,84,80,47,50,46,48,13,10,13,10,83,77,13,10,13,10]⟩
def goB(last code:Int):List Int:=A4M (7,0,0,big (B0i last) 4++big (B0i code) 4)
theorem D6G(last code:Int):(goB last code).length=17:=by
  simp only [goB,A4M,A4,B0C,G0,J7]
structure BS where
  pre:Nat
  inn:List Int
  dead:Int
  m:HM
def B2c(pre:Nat)(m:HM)(code:Int):BS:=⟨pre,[],code,{m with g:=(0,false,[]),strs:= [],out:=m.out++goB m.last code}⟩
noncomputable def A28(st:BS)(x:Int):BS:=
  if st.dead≠0 then st
  else if st.pre<24 then (if x=bt priS (st.pre:Int) then ⟨st.pre+1,st.inn,0,st.m⟩ else B2c st.pre st.m 1)
  else if codeF (st.inn ++ [x])=1 then ⟨st.pre,st.inn ++ [x],0,st.m⟩
  else if codeF (st.inn ++ [x])=2 then B2c st.pre st.m 6
  else if (frM st.m (V8 (st.inn ++ [x]))).1=0 then ⟨st.pre,[],0,(frM st.m (V8 (st.inn ++ [x]))).2⟩
  else B2c st.pre (frM st.m (V8 (st.inn ++ [x]))).2 (frM st.m (V8 (st.inn ++ [x]))).1
noncomputable def M5(st:BS)(b:List Int):BS:=b.foldl A28 st
theorem B0k(st:BS)(h:st.dead≠0):∀ b,M5 st b=st
  | []=>rfl
  | x::b=>by
    have e:A28 st x=st:=by unfold A28;rw [A6 h]
    show M5 (A28 st x) b=st;rw [e];exact B0k st h b
theorem C0j(st:BS)(a b:List Int):M5 st (a++b)=M5 (M5 st a) b:=by
  unfold M5;rw [List.foldl_append]
structure BI (st:BS):Prop where
  pre:st.pre<=24
  hi:HI st.m
  inb:Byt st.inn
  more:codeF st.inn=1
  emp:st.pre<24\/st.dead≠0->st.inn = []
  gone:st.dead≠0->st.m.strs = []/\st.m.g.1=0
  dead:0<=st.dead/\st.dead<=20
theorem D0S{pre:Nat}(hp:pre<=24){m:HM}(h1:0<=m.last/\m.last<=2147483647)(h2:A1V m.dec){code:Int}(hc:0<=code/\code<=20):BI (B2c pre m code):=
  ⟨hp,⟨C9F _,h1,h2,.inl ⟨rfl,rfl,rfl⟩,fun x hx=>by cases hx⟩,(fun x hx=>by cases hx),rfl,fun _=>rfl,fun _=>⟨rfl,rfl⟩,hc⟩
theorem D2S{b:List Int}(hb:Byt b){x:Int}(hx:0<=x/\x<256):Byt (b ++ [x]):=A10 hb fun y hy=>by rcases B1.1 hy with rfl;exact hx
theorem D2T{st:BS}(h:BI st){x:Int}(hx:0<=x/\x<256):BI (A28 st x)/\(A28 st x).m.calls.length<=st.m.calls.length+1/\(A28 st x).m.out.length<=st.m.out.length+1200:=by
  unfold A28;by_cases hd:st.dead≠0
  · rw [A6 hd];exact ⟨h,by omega,by omega⟩
  rw [A5 hd];have hb:=D2S h.inb hx;have hg:=D6G;by_cases hp:st.pre<24
  · rw [A6 hp]
    by_cases hq:x=bt priS (st.pre:Int)
    · rw [A6 hq]
      refine ⟨⟨by simp only;omega,h.hi,h.inb,h.more,fun _=>h.emp (.inl hp),fun e=>absurd rfl e,by simp⟩,by simp only;omega,by simp only;omega⟩
    · rw [A5 hq]
      exact ⟨D0S h.pre h.hi.last h.hi.dec (by omega),by simp only [B2c];omega,by simp only [B2c,A4,hg];omega⟩
  rw [A5 hp];by_cases c1:codeF (st.inn ++ [x])=1
  · rw [A6 c1]
    exact ⟨⟨h.pre,h.hi,hb,c1,(fun e=>by rcases e with e | e;exact absurd e hp;exact absurd rfl e),(fun e=>absurd rfl e),by simp⟩,by simp only;omega,by simp only;omega⟩
  rw [A5 c1];by_cases c2:codeF (st.inn ++ [x])=2
  · rw [A6 c2]
    exact ⟨D0S h.pre h.hi.last h.hi.dec (by omega),by simp only [B2c];omega,by simp only [B2c,A4,hg];omega⟩
  rw [A5 c2];have c0:codeF (st.inn ++ [x])=0:=by have:=B9R (st.inn ++ [x]);omega
  have ho:=E0V h.hi (C3A hb c0);have h1:=ho.calls;have h2:=ho.out;by_cases hr:(frM st.m (V8 (st.inn ++ [x]))).1=0
  · rw [A6 hr]
    exact ⟨⟨h.pre,ho.hi hr,(fun x hx=>by cases hx),rfl,fun _=>rfl,(fun e=>absurd rfl e),by simp⟩,by simp only;omega,by simp only;omega⟩
  · rw [A5 hr]
    exact ⟨D0S h.pre ho.last ho.dec ho.code,by simp only [B2c];omega,by simp only [B2c,A4,hg];omega⟩
theorem B58:∀ {b:List Int} {st:BS},BI st->Byt b->BI (M5 st b)/\(M5 st b).m.calls.length<=st.m.calls.length+b.length/\(M5 st b).m.out.length<=st.m.out.length+1200*b.length
  | [],st,h,_=>⟨h,by simp [M5],by simp [M5]⟩
  | x::b,st,h,hb=>by
    obtain ⟨h1,h2,h3⟩:=D2T h (hb x A9);obtain ⟨h4,h5,h6⟩:=B58 (b:=b) h1 fun y hy=>hb y (B8 _ hy)
    have e:M5 st (x::b)=M5 (A28 st x) b:=rfl;rw [e];exact ⟨h4,by simp only [G0];omega,by simp only [G0];omega⟩
theorem B8V(st:BS)(hd:st.dead=0)(hp:¬ st.pre<24):∀ (k:Nat) (xs:List Int),xs.length=k->(∀ j,j<=k->codeF (st.inn++xs.take j)=1)->M5 st xs=⟨st.pre,st.inn++xs,0,st.m⟩:=by
  intro k
  induction k generalizing st with
  | zero=>
    intro xs hx _;have:xs = []:=A1H.1 hx;subst this;show st=_;rw [F8];cases st;simp only at hd;subst hd;rfl
  | succ k ih=>
    intro xs hx hc;cases xs with
    | nil=>cases hx
    | cons x xs=>
      have h1:=hc 1 (by omega);simp only [List.take_succ_cons,List.take_zero] at h1;have e:A28 st x=⟨st.pre,st.inn ++ [x],0,st.m⟩:=by
        unfold A28;rw [A5 (by omega),A5 hp,A6 h1]
      show M5 (A28 st x) xs=_;rw [e,ih ⟨st.pre,st.inn ++ [x],0,st.m⟩ rfl hp xs (by simpa using hx) fun j hj=>by
        have:=hc (j+1) (by omega);simpa using this]
      simp
noncomputable def C6w:Nat->HM->List Int->Int×HM×List Int
  | 0,m,b=>(0,m,b)
  | k+1,m,b=>if codeF b=1 then (0,m,b) else if codeF b=2 then (6,m,b) else
    if (frM m (V8 b)).1≠0 then ((frM m (V8 b)).1,(frM m (V8 b)).2,b) else C6w k (frM m (V8 b)).2 (b.drop (A1t b))
def C9H(pre:Nat)(r:Int×HM×List Int):BS:=if r.1=0 then ⟨pre,r.2.2,0,r.2.1⟩ else B2c pre r.2.1 r.1
theorem D2U(pre:Nat)(hp:¬ pre<24):∀ (k:Nat) (xs inn:List Int) (m:HM),inn.length+xs.length<=k->codeF inn=1->M5 ⟨pre,inn,0,m⟩ xs=C9H pre (C6w (k+1) m (inn++xs)):=by
  intro k
  induction k with
  | zero=>
    intro xs inn m hk hi;have h1:xs = []:=A1H.1 (by omega);subst h1;simp only [C6w,F8,A6 hi,C9H,M7];rfl
  | succ k ih=>
    intro xs inn m hk hi;rw [C6w];have hpre:∀ j,j<=inn.length+xs.length->inn.length<=j->(inn++xs).take j=inn++xs.take (j-inn.length):=fun j h1 h2=>by
      rw [B5L,F6 h2]
    rcases B9R (inn++xs) with c | c | c
    · obtain ⟨w1,w2,w3,w4,w5⟩:=B3d c
      have hlt:inn.length<A1t (inn++xs):=by
        rcases B7L inn.length (A1t (inn++xs)) with h | h
        · exact h
        · exfalso
          have h7:=C0i hi (A1t (inn++xs));have:(inn++xs).take (A1t (inn++xs))=inn.take (A1t (inn++xs)):=by rw [F5 h]
          rw [this,h7] at w5;cases w5
      rw [A4] at w1;obtain ⟨n,hn⟩:∃ n,A1t (inn++xs)=inn.length+(n+1):=⟨A1t (inn++xs)-inn.length-1,by omega⟩;have hlen:n<xs.length:=by omega
      have hsplit:xs=xs.take n++(xs[n]::xs.drop (n+1)):=by
        rw [<- K2 hlen,K8]
      have hw:M5 ⟨pre,inn,0,m⟩ (xs.take n)=⟨pre,inn++xs.take n,0,m⟩:=by
        refine B8V ⟨pre,inn,0,m⟩ rfl hp n (xs.take n) (by rw [B4];omega) fun j hj=>?_
        have:=w4 (inn.length+j) (by omega);rw [hpre _ (by omega) (by omega)] at this;rw [N5,A00 hj];simpa using this
      have hB:inn++xs.take n ++ [xs[n]]=(inn++xs).take (A1t (inn++xs)):=by
        rw [hpre _ (by omega) (by omega),hn,show inn.length+(n+1)-inn.length=n+1 by omega,B3,N7 hlen]
      have hD:(inn++xs).drop (A1t (inn++xs))=xs.drop (n+1):=by
        rw [hn,A5v,A0b (by omega),G5]
        congr 1
        omega
      rw [A5 (by omega),A5 (by omega)];have e1:M5 ⟨pre,inn,0,m⟩ xs=M5 (A28 ⟨pre,inn++xs.take n,0,m⟩ xs[n]) (xs.drop (n+1)):=by
        conv=>lhs;rw [hsplit]
        rw [C0j,hw];rfl
      rw [e1];have e2:A28 ⟨pre,inn++xs.take n,0,m⟩ xs[n]=if (frM m (V8 (inn++xs))).1=0 then ⟨pre,[],0,(frM m (V8 (inn++xs))).2⟩ else B2c pre (frM m (V8 (inn++xs))).2 (frM m (V8 (inn++xs))).1:=by
        unfold A28;simp only [hB,w5,D2R c];rw [A5 (by omega),A5 hp,A5 (by omega),A5 (by omega)]
      rw [e2];by_cases hr:(frM m (V8 (inn++xs))).1=0
      · rw [A6 hr,A5 (by simpa using hr),hD]
        exact ih (xs.drop (n+1)) [] _ (by simp;omega) rfl
      · rw [A5 hr,A6 hr,B0k _ (by simpa [B2c] using hr)]
        simp only [C9H,A5 hr]
    · rw [A6 c]
      simp only [C9H,M7];refine B8V ⟨pre,inn,0,m⟩ rfl hp xs.length xs rfl fun j hj=>?_
      have:=C0i c (inn.length+j);rw [hpre _ (by omega) (by omega)] at this;simpa using this
    · obtain ⟨w1,w2,w3⟩:=D2Q c
      have hlt:inn.length<9:=by
        rcases B7L inn.length 9 with h | h
        · exact h
        · exfalso
          have h7:=C0i hi 9;have h8:=w3 9 (by omega);have:(inn++xs).take 9=inn.take 9:=by rw [F5 h]
          rw [this,h7] at h8;cases h8
      rw [A4] at w1;obtain ⟨n,hn⟩:∃ n,9=inn.length+(n+1):=⟨8-inn.length,by omega⟩;have hlen:n<xs.length:=by omega
      have hsplit:xs=xs.take n++(xs[n]::xs.drop (n+1)):=by
        rw [<- K2 hlen,K8]
      have hw:M5 ⟨pre,inn,0,m⟩ (xs.take n)=⟨pre,inn++xs.take n,0,m⟩:=by
        refine B8V ⟨pre,inn,0,m⟩ rfl hp n (xs.take n) (by rw [B4];omega) fun j hj=>?_
        have:=w2 (inn.length+j) (by omega);rw [hpre _ (by omega) (by omega)] at this;rw [N5,A00 hj];simpa using this
      have hB:codeF (inn++xs.take n ++ [xs[n]])=2:=by
        have:=w3 9 (by omega);rw [hpre _ (by omega) (by omega),show 9-inn.length=n+1 by omega,N7 hlen,<- B3] at this;exact this
      rw [A5 (by omega),A6 c];have e1:M5 ⟨pre,inn,0,m⟩ xs=M5 (A28 ⟨pre,inn++xs.take n,0,m⟩ xs[n]) (xs.drop (n+1)):=by
        conv=>lhs;rw [hsplit]
        rw [C0j,hw];rfl
      have e2:A28 ⟨pre,inn++xs.take n,0,m⟩ xs[n]=B2c pre m 6:=by
        unfold A28;rw [A5 (by simp),A5 hp,A5 (by simp only [hB];omega),A6 hB]
      rw [e1,e2,B0k _ (by simp [B2c])];rfl
set_option maxRecDepth 100000
theorem E0W{c:A1S}(h:B8T c.2.2.2.2.2.1 c.2.2.2.2.2.2.1):D9q c=true:=by
  obtain ⟨h1,h2,h3⟩:=h;have hall:∀ i,i<c.2.2.2.2.2.1.length->C2s c i=true:=fun i hi=>by
    have e:=A83 hi;have hs:=h3 _ (G3 hi);rw [<- e] at hs;unfold D7j at hs;have e0:rd N8 c.2.2.2.2.2.1 (i:Int)=sAt c.2.2.2.2.2.1 i:=rfl;unfold C2s;rw [e0,A0 hs.1,A0 (show 1<=(sAt c.2.2.2.2.2.1 i).1/\(sAt c.2.2.2.2.2.1 i).1<=c.2.2.2.2.2.2.1 from ⟨hs.2.1,hs.2.2.1⟩),A8 (show ¬ (List.length (sAt c.2.2.2.2.2.1 i).2.2.2:Int)>2000 by omega)];have hst:(decide ((sAt c.2.2.2.2.2.1 i).2.1=1)||decide ((sAt c.2.2.2.2.2.1 i).2.1=2))=true:=by
      rcases hs.2.2.2.1 with q | q<;>rw [q]<;>rfl
    rw [hst];have hup:(decide (i=0)||!decide ((sAt c.2.2.2.2.2.1 i).1<=(rd N8 c.2.2.2.2.2.1 ((i:Int)-1)).1))=true:=by
      by_cases h0:i=0
      · rw [A0 h0];rfl
      · have e1:rd N8 c.2.2.2.2.2.1 ((i:Int)-1)=sAt c.2.2.2.2.2.1 (i-1):=by
          unfold sAt;rw [show (i:Int)-1=((i-1:Nat):Int) by omega]
        have hp:=List.pairwise_iff_getElem.1 h2 (i-1) i (by simp;omega) (by simpa using hi) (by omega);simp only [B5P] at hp;rw [e1,e,A83 (show i-1<c.2.2.2.2.2.1.length by omega),A8 (Int.not_le.2 hp),M1,Bool.or_true]
    rw [hup];rfl
  have hn:V7 (C2s c) 0 c.2.2.2.2.2.1.length=c.2.2.2.2.2.1.length:=C4C _ _ _ (C0 _) hall (fun h=>absurd h (A6T _));unfold D9q;rw [A0 hn,A0 (show (c.2.2.2.2.2.1.length:Int)<=100 by omega)];rfl
abbrev bsC(enc:E3)(st:BS):A1S:=mkC (st.pre:Int) st.inn enc st.dead st.m
abbrev bsH(enc:E3)(st:BS):I4:=mkH (st.pre:Int) st.inn enc st.dead st.m
theorem C9I{b:List Int}(h:codeF b=1):b.length<=1009:=by
  unfold codeF at h;split at h
  · omega
  · split at h
    · cases h
    · split at h
      · omega
      · cases h
theorem B0E{enc:E3}(he:A1V enc){st:BS}(h:BI st):A8s (bsC enc st)=some (true,()):=by
  have hpre:=h.pre;have hd:=h.dead;have hl:=h.hi.last;have hn:=C9I h.more;have hsl:=h.hi.strs.1;have e5:=D79 (bsC enc st) (by simp only [maxLen];omega);rw [E0W (c:=bsC enc st) h.hi.strs] at e5;have e6:=B8L st.inn h.inb (by omega) 0 (by omega);have e7:=(C4L (b:=st.inn) (a:=0) (by omega)).1;rw [A0c,h.more,show ((0:Nat):Int)=0 from rfl] at e7;simp only [A8s,C0M,V1,B7S h.hi.g,D67 h.hi.dec,D67 he,bO];rw [e5];rw [A0 (show (0:Int)<=(st.pre:Int)/\(st.pre:Int)<=24 by omega),A0 hl,A0 hd,A8 (show ¬ (st.inn.length:Int)>1100 by omega),e6];simp only [E0,A7,bO,bSl,e7];by_cases h1:st.pre<24
  · have hi:st.inn.length=0:=by rw [h.emp (.inl h1)];rfl
    rw [A0 (show (st.pre:Int)<24 by omega),A8 (show ¬ (st.inn.length:Int)>0 by omega)];simp only [B2,A7];by_cases h2:st.dead>0
    · obtain ⟨g1,g2⟩:=h.gone (by omega)
      have g3:st.m.strs.length=0:=by rw [g1];rfl
      rw [A0 h2,A8 (show ¬ (st.m.strs.length:Int)>0 by omega),A0 g2];rfl
    · rw [A8 h2];rfl
  · rw [A8 (show ¬ (st.pre:Int)<24 by omega)]
    by_cases h2:st.dead>0
    · have hi:st.inn.length=0:=by rw [h.emp (.inr (by omega))];rfl
      obtain ⟨g1,g2⟩:=h.gone (by omega);have g3:st.m.strs.length=0:=by rw [g1];rfl
      rw [A0 h2,A8 (show ¬ (st.inn.length:Int)>0 by omega),A8 (show ¬ (st.m.strs.length:Int)>0 by omega),A0 g2];rfl
    · rw [A8 h2];rfl
theorem D0T(F T:List Int)(h1:F.length<=10000000000)(h2:T.length<=10000000000):A0k [F,T]=some (F++T,()):=by
  have r0:rd (.sl 5 (.int .u8)) ([F,T]:List (List Int)) 0=F:=rfl;have r1:rd (.sl 5 (.int .u8)) ([F,T]:List (List Int)) 1=T:=rfl;have hl:(([F,T]:List (List Int)).length:Int)=2:=rfl;have d0:decide ((0:Int)<2)=true:=rfl;have d1:decide ((0:Int)<=0)=true:=rfl;have d2:decide ((1:Int)<2)=true:=rfl;have d3:decide ((0:Int)<=1)=true:=rfl;have a1:H6 (A0D [F,T]) (0,0,())=some ((F.length:Int)+T.length,()):=by
    rw [B55 (y:=((F.length:Int),1,())) (by
      simp only [A0D,hl,r0,d0,d1,B2,B7M];rw [w64 (n:=(F.length:Int)) (by omega) (by omega),A8 (p:=(F.length:Int)<0) (by omega)];rfl)]
    rw [B55 (y:=((F.length:Int)+T.length,2,())) (by
      simp only [A0D,hl,r1,d2,d3,B2];rw [w64 (n:=(F.length:Int)+T.length) (by omega) (by omega),A8 (p:=(F.length:Int)+T.length<0) (by omega)];rfl)]
    rw [I3];rfl
  have a2:B7h ([]:List Int) ((F.length:Int)+T.length)=some ([],()):=by
    have:(([]:List Int).isEmpty&&decide (0<=(F.length:Int)+T.length)&&decide ((F.length:Int)+T.length<=1000000000000))=true:=by
      rw [A0 (by omega),A0 (by omega)];rfl
    simp only [B7h,this,B2]
  have a3:H6 (A0E [F,T]) (0,[],())=some (F++T,()):=by
    rw [B55 (y:=(1,F,())) (by
      simp only [A0E,hl,r0,d0,d1,B2];rw [gA (by simp;omega)];rfl)]
    rw [B55 (y:=(2,F++T,())) (by
      simp only [A0E,hl,r1,d2,d3,B2];rw [gA (by omega)];rfl)]
    rw [I3];rfl
  simp only [A0k,A2L,a1,B0];rw [show A3C=B7h from rfl,a2];exact a3
def N3:List Int->Nat->Int×Nat×List Int
  | [],p=>(0,p,[])
  | x::xs,p=>if p<24 then (if x=bt priS (p:Int) then N3 xs (p+1) else (1,p,[])) else (0,p,x::xs)
theorem C9J:∀ (xs:List Int) (p:Nat),p<=24->(N3 xs p).2.1<=24/\(N3 xs p).2.2.length<=xs.length/\((N3 xs p).1=0\/(N3 xs p).1=1)/\(∀ x∈(N3 xs p).2.2,x∈xs)/\((N3 xs p).2.1<24->(N3 xs p).2.2 = [])
  | [],p,h=>⟨h,by simp [N3],.inl rfl,fun x hx=>by simp [N3] at hx,fun _=>rfl⟩
  | x::xs,p,h=>by
    unfold N3;by_cases hp:p<24
    · rw [A6 hp]
      by_cases hx:x=bt priS (p:Int)
      · rw [A6 hx]
        obtain ⟨a,b,c,d,e⟩:=C9J xs (p+1) (by omega);exact ⟨a,by simp only [G0];omega,c,fun y hy=>B8 _ (d y hy),e⟩
      · rw [A5 hx]
        exact ⟨h,by simp,.inr rfl,(fun y hy=>by cases hy),fun _=>rfl⟩
    · rw [A5 hp]
      exact ⟨h,C0 _,.inl rfl,fun y hy=>hy,fun q=>absurd q hp⟩
theorem C26(inn:List Int)(m:HM):∀ (xs:List Int) (p:Nat),p<=24->M5 ⟨p,inn,0,m⟩ xs=if (N3 xs p).1=0 then M5 ⟨(N3 xs p).2.1,inn,0,m⟩ (N3 xs p).2.2 else B2c (N3 xs p).2.1 m 1
  | [],p,_=>by simp [N3]
  | x::xs,p,h=>by
    have e:M5 ⟨p,inn,0,m⟩ (x::xs)=M5 (A28 ⟨p,inn,0,m⟩ x) xs:=rfl;unfold N3;by_cases hp:p<24
    · rw [A6 hp,e]
      by_cases hx:x=bt priS (p:Int)
      · have e2:A28 ⟨p,inn,0,m⟩ x=⟨p+1,inn,0,m⟩:=by
          unfold A28;rw [A5 (by simp),A6 hp,A6 hx]
        rw [A6 hx,e2];exact C26 inn m xs (p+1) (by omega)
      · have e2:A28 ⟨p,inn,0,m⟩ x=B2c p m 1:=by
          unfold A28;rw [A5 (by simp),A6 hp,A5 hx]
        rw [A5 hx,e2,B0k _ (by simp [B2c])];rfl
    · rw [A5 hp]
      rfl
section
variable (enc:E3)
theorem C70(inn:List Int)(dead:Int)(m:HM):∀ (xs:List Int) (p:Nat),p<=24->Byt xs->xs.length<=1000000000->P7 (mkH (p:Int) inn enc dead m) xs=some ((N3 xs p).2.2,(N3 xs p).1,mkH ((N3 xs p).2.1:Int) inn enc dead m,())
  | [],p,h,_,_=>by
    simp only [P7,U2];rw [I3];simp only [V6,J7,show decide (((0:Nat):Int)>0)=false from rfl,A7,bSr];rfl
  | x::xs,p,h,hb,hl=>by
    have d1:decide ((((x::xs).length:Nat):Int)>0)=true:=A0 (by simp only [G0];omega);have d2:decide ((0:Int)<(((x::xs).length:Nat):Int))=true:=A0 (by simp only [G0];omega);have d3:decide ((1:Int)<=(((x::xs).length:Nat):Int))=true:=A0 (by simp only [G0];omega);have e0:rd (.int .u8) (x::xs) 0=x:=rfl;have ht:((x::xs).take (x::xs).length).drop 1=xs:=by rw [A9n];rfl
    unfold N3;by_cases hp:p<24
    · have d4:decide ((p:Int)<24)=true:=A0 (by omega)
      have d5:decide ((0:Int)<=(p:Int))=true:=A0 (by omega);have d6:decide ((p:Int)<(priS.size:Int))=true:=A0 (by rw [show priS.size=24 from rfl];omega);rw [A6 hp];by_cases hx:x=bt priS (p:Int)
      · have w1:i64.wrap ((p:Int)+1)=((p+1:Nat):Int):=by rw [w64 (by omega) (by omega)];omega
        rw [A6 hx,<- C70 inn dead m xs (p+1) (by omega) (fun y hy=>hb y (B8 _ hy)) (by simp only [G0] at hl;omega)];simp only [P7,U2]
        conv=>lhs;rw [I3]
        simp only [V6,d1,d2,d3,d4,d5,d6,B2,bSl,e0,A0 hx,E0,A7,ht,w1]
      · rw [A5 hx]
        simp only [P7,U2];rw [I3];simp only [V6,d1,d2,d3,d4,d5,d6,B2,bSl,e0,A8 hx,M1,bSr]
    · have d4:decide ((p:Int)<24)=false:=A8 (by omega)
      rw [A5 hp];simp only [P7,U2];rw [I3];simp only [V6,d1,d4,B2,A7,bSr];rfl
abbrev frL(a:Int)(pre:Int)(inn:List Int)(dead:Int)(m:HM):Int×Int×Int×Bool×Int×Int×Int×Int×List Int×List Int×List C2×List C2×List A2n×List A0m×List Int×Unit:=
  (a,pre,m.g.1,m.g.2.1,m.dec.1,enc.1,m.last,dead,inn,m.g.2.2,m.dec.2,enc.2,m.strs,m.calls,m.out,())
theorem B9v(pre:Int)(inn:List Int)(dead:Int)(b:List Int)(hb:Byt b)(hl:b.length<=1000000000):∀ (k a:Nat) (m:HM),a<=b.length->b.length<a+k->HI m->m.calls.length<=a->m.out.length<=1100*a->
    H6 (A64 A51 A1w G7 b) (frL enc (a:Int) pre inn dead m) =
      some ((C6w k m (b.drop a)).1,mkH pre (if (C6w k m (b.drop a)).1=0 then (C6w k m (b.drop a)).2.2 else inn) enc dead (C6w k m (b.drop a)).2.1,())
  | 0,a,m,ha,hk,_,_,_=>by omega
  | k+1,a,m,ha,hk,hi,hc,ho=>by
    have e1:=B8L b hb (by omega) (a:Int) (by omega);obtain ⟨g1,g2⟩:=C4L ha;rw [I3];simp only [A64,e1,bO,g1];unfold C6w;rcases B9R (b.drop a) with c | c | c
    · obtain ⟨f1,f2,f3⟩:=g2 c
      have w:=B3d c;have hfi:=C3A (B2W hb a) c;have hfo:=E0V hi hfi;have e2:=D4D pre inn enc dead m hi ⟨by omega,by omega⟩ (V8 (b.drop a)) hfi;have e2':A1w ((pre,inn,(m.g.1,m.g.2.1,m.g.2.2),(m.dec.1,m.dec.2),(enc.1,enc.2),m.strs,m.last,dead),m.calls,m.out) (V8 (b.drop a))=some ((frM m (V8 (b.drop a))).1,mkH pre inn enc dead (frM m (V8 (b.drop a))).2,()):=e2;rw [c];simp only [show decide (((0:Nat):Int)=1)=false from rfl,show decide (((0:Nat):Int)=2)=false from rfl,A7,f1,f2,e2',bO];rw [A5 (show ¬ (0:Nat)=1 by omega),A5 (show ¬ (0:Nat)=2 by omega)];by_cases hr:(frM m (V8 (b.drop a))).1=0
      · rw [A0 hr,A5 (show ¬ (frM m (V8 (b.drop a))).1≠0 by simpa using hr)]
        have ih:=B9v pre inn dead b hb hl k (a+A1t (b.drop a)) (frM m (V8 (b.drop a))).2 f3 (by omega) (hfo.hi hr) (by have:=hfo.calls;omega) (by have:=hfo.out;omega);rw [O9];simp only [E0,A7];exact ih
      · rw [A8 hr,A6 (show (frM m (V8 (b.drop a))).1≠0 from hr)]
        simp only [M1,B2];rw [A5 hr]
    · rw [c]
      simp only [show decide (((1:Nat):Int)=1)=true from rfl,B2,M7];rw [A0 (show (0:Int)<=(a:Int) by omega),A0 (show (a:Int)<=(b.length:Int) by omega),A9n,E6,A9L _ (by simp;omega)];rfl
    · rw [c]
      simp only [show decide (((2:Nat):Int)=1)=false from rfl,show decide (((2:Nat):Int)=2)=true from rfl,B2,A7];rw [A5 (show ¬ (2:Nat)=1 by omega),A6 trivial];rfl
theorem D2V(pre:Nat)(inn:List Int)(m:HM)(code:Int)(ho:m.out.length<=100000000000000):A7v (mkH (pre:Int) inn enc 0 m) code=some (bsH enc (B2c pre m code),()):=by
  have e1:=B3W [] m.last 4 (by omega) (by simp);have e2:=B3W ([]++big (B0i m.last) 4) code 4 (by omega) (by simp [B0C]);rw [show ((4:Nat):Int)=4 from rfl] at e1 e2;have hg:=D6G m.last code;simp only [A7v,B2Q,B4A,B49,e1,bO,e2];rw [B9t _ _ (by simp [B0C];omega)];rfl
theorem B2d(he:A1V enc){st:BS}(h:BI st)(hc:st.m.calls = [])(ho:st.m.out = []){b:List Int}(hb:Byt b)(hl:b.length<=900000000) :
    A6H (bsC enc st) b=some (bsC enc (M5 st b),(M5 st b).m.calls,(M5 st b).m.out,()):=by
  have hsl:=h.hi.strs.1;have hdl:=B6b h.hi.dec;have hel:=B6b he;have hgl:=h.hi.g;have hil:=C9I h.more;have hcp:=D25 (bsC enc st) ⟨by simp only;omega,(by rcases hgl with ⟨_,_,q⟩ | ⟨_,_,q⟩;(simp only [q];simp);(simp only;omega)),by simp only;omega,by simp only;omega,by simp only;omega,fun x hx=>by have:=(h.hi.strs.2.2 x hx).2.2.2.2;omega⟩;obtain ⟨pre,inn,dead,m⟩:=st;simp only at hc ho hcp;simp only [A6H,B4B,hcp,bO];have hd:=h.dead;by_cases h0:dead=0
  · subst h0
    have hck:=B0E he h;simp only [bsC] at hck;simp only [show decide ((0:Int)>0)=false from rfl,A7,hck,bO,E0,bSl];have es:=C70 enc inn 0 m b pre h.pre hb (by omega);simp only [mkH,hc,ho] at es;rw [es];simp only [bO];obtain ⟨s1,s2,s3,s4,s5⟩:=C9J b pre h.pre;rw [C26 inn m b pre h.pre];rcases s3 with s3 | s3
    · rw [s3,D0T inn _ (by simp only at hil;omega) (by omega)]
      simp only [A0B,B2,bO,M7,A7t,A7s];have hB:Byt (inn++(N3 b pre).2.2):=A10 h.inb fun y hy=>hb y (s4 y hy)
      have hBl:(inn++(N3 b pre).2.2).length<=1000000000:=by rw [A4];simp only at hil;omega
      have el:=B9v enc ((N3 b pre).2.1:Int) inn 0 (inn++(N3 b pre).2.2) hB hBl ((inn++(N3 b pre).2.2).length+1) 0 m (by omega) (by omega) h.hi (by rw [hc];simp) (by rw [ho];simp);simp only [frL,hc,ho] at el;rw [show ((0:Nat):Int)=0 from rfl,A0c] at el;rw [el];simp only [bO];have key:M5 ⟨(N3 b pre).2.1,inn,0,m⟩ (N3 b pre).2.2=C9H (N3 b pre).2.1 (C6w ((inn++(N3 b pre).2.2).length+1) m (inn++(N3 b pre).2.2)):=by
        by_cases hp:(N3 b pre).2.1<24
        · have hr:=s5 hp
          rw [hr];have hi0:inn = []:=by
            refine h.emp (.inl ?_);have:pre<=(N3 b pre).2.1:=by
              have:∀ (xs:List Int) (p:Nat),p<=(N3 xs p).2.1:=by
                intro xs
                induction xs with
                | nil=>intro p;exact C0 _
                | cons x xs ih=>
                  intro p;unfold N3;split
                  · split
                    · have:=ih (p+1);omega
                    · exact C0 _
                  · exact C0 _
              exact this b pre
            simp only;omega
          subst hi0;rfl
        · exact D2U _ hp _ (N3 b pre).2.2 inn m (by rw [A4];omega) h.more
      rw [key];have hbi:=(B58 (st:=⟨(N3 b pre).2.1,inn,0,m⟩) (b:=(N3 b pre).2.2) ⟨s1,h.hi,h.inb,h.more,(fun q=>h.emp (by
        rcases q with q | q
        · left
          have:∀ (xs:List Int) (p:Nat),p<=(N3 xs p).2.1:=by
            intro xs
            induction xs with
            | nil=>intro p;exact C0 _
            | cons x xs ih=>
              intro p;unfold N3;split
              · split
                · have:=ih (p+1);omega
                · exact C0 _
              · exact C0 _
          have:=this b pre;simp only at q ⊢;omega
        · exact absurd rfl q)),(fun q=>absurd rfl q),by simp⟩ fun y hy=>hb y (s4 y hy)).2.2
      rw [key] at hbi;unfold C9H at hbi ⊢;generalize C6w ((inn++(N3 b pre).2.2).length+1) m (inn++(N3 b pre).2.2)=R at hbi ⊢;by_cases hR:R.1=0
      · rw [A6 hR,A6 hR,A0 hR]
        rfl
      · rw [A5 hR,A5 hR,A8 hR]
        rw [A5 hR] at hbi;have ee:=D2V enc (N3 b pre).2.1 inn R.2.1 R.1 (by
          simp only [B2c,A4,ho,J7] at hbi;omega)
        simp only [mkH,mkC] at ee;simp only [M1,B2,mkH,mkC,ee,bO]
    · rw [s3]
      simp only [show decide ((1:Int)=0)=false from rfl,A7,bO,M1,B2];have ee:=D2V enc (N3 b pre).2.1 inn m 1 (by rw [ho];simp);simp only [mkH,mkC,hc,ho] at ee;rw [ee];rfl
  · have hp:dead>0:=by simp only at hd;omega
    rw [A0 hp];simp only [B2,bSr];rw [B0k _ h0];simp only [hc,ho]
end
set_option maxRecDepth 100000
theorem B8W(a:List Int)(h:a.length<=maxLen):A2q a a=some (true,()):=by
  simp only [A2q,B4C,A0B,E0,A7];have e:=E2U (A6g a a) a.length h (fun _=>true) (fun i hi=>by
    have g1:((i:Int)<(a.length:Int)):=by omega
    have g2:(0:Int)<=(i:Int):=by omega
    simp only [A6g,A0 g1,A0 g2,B2,A0B,E0,A7]) (by simp [A6g])
  rw [e];simp
theorem C3B(c:K5)(n:Int)(h:Cur c)(hn:0<n/\n<9223372036854775808):∃ b c',A9F c n=some (b,c',())/\Cur c':=by
  obtain ⟨r,c',e,hc,_⟩:=A2s c n h hn;simp only [A9F,C0c,e,B0];exact ⟨_,_,rfl,hc⟩
theorem D4E(c:K5)(hc:Cur c):∃ r c',B2T c=some (r,c',())/\Cur c'/\-1<=r.2.2/\r.2.2<=4294967295/\r.2.1.size<=64:=by
  obtain ⟨k,c1,q1,h1,k0,k1⟩:=A2s c 6 hc (by omega);obtain ⟨s,c2,q2,h2,hs⟩:=D9s c1 [(⟨#[97]⟩:X0),(⟨#[98]⟩:X0),(⟨#[117,112,49]⟩:X0),(⟨#[101,105,103,104,116,108,101,116]⟩:X0)] h1 (by simp);have hsz:s.size<=64:=by
    simp only [B9,J1,A1A] at hs;rcases hs with rfl | rfl | rfl | rfl<;>decide
  simp only [B2T,C0d,q1,q2,bO];obtain ⟨m,qm⟩:∃ m,A7P (i64.wrap (1+k))=some (m,()):=by
    simp only [A7P,B3N];cases decide (i64.wrap (1+k)=1)<;>cases decide (i64.wrap (1+k)=3)<;>cases decide (i64.wrap (1+k)=4)<;>exact ⟨_,rfl⟩
  rw [qm];simp only [bO];cases decide (m>=0) with
  | false=>exact ⟨_,_,rfl,h2,by simp only;omega,by simp only;omega,hsz⟩
  | true=>
    obtain ⟨n,c3,q3,h3,hn⟩:=A6M c2 [0,5,24,100,1000000000] h2 (by simp);have hn2:0<=n/\n<=1000000000:=by
      simp only [B9,J1,A1A] at hn;omega
    simp only [B2,q3,bO];cases decide (i64.wrap (1+k)=4) with
    | false=>exact ⟨_,_,rfl,h3,by simp only;omega,by simp only;omega,hsz⟩
    | true=>
      obtain ⟨b,c4,q4,h4⟩:=C3B c3 2 h3 (by omega);simp only [B2,q4,bO];cases b
      · exact ⟨_,_,rfl,h4,by simp only;omega,by simp only;omega,hsz⟩
      · exact ⟨_,_,rfl,h4,by simp only;omega,by simp only;omega,hsz⟩
theorem C71(a:List A0m)(h:a.length<=1000000000)(hb:∀ c∈a,c.2.2.1.length<=1000000000):A6K a a=some (true,()):=by
  simp only [A6K,B4I,A0B,E0,A7];have e:=E2U (A6m A2q a a) a.length (by simp only [maxLen];omega) (fun _=>true) (fun i hi=>by
    have g1:((i:Int)<(a.length:Int)):=by omega
    have g2:(0:Int)<=(i:Int):=by omega
    have hr:rd A3P a (i:Int)=a[i]:=A81 (k:=A3P) hi;have hs:=B8W (a[i]).2.2.1 (by have:=hb _ (G3 hi);simp only [maxLen];omega);simp only [A6m,A0 g1,A0 g2,B2,A0B,E0,A7,hr,eqM,Bool.and_self,hs,bO]) (by simp [A6m])
  rw [e];simp
theorem D0U:Byt prefaceB:=by
  unfold prefaceB;refine A10 ?_ (B2a fun x hx=>by cases hx);intro x hx;simp only [pri,B9,J1,A1A] at hx;omega
theorem D4F(c:K5)(hc:Cur c):∃ f c',A3J c=some (f,c',())/\Cur c'/\f.2.2.2.length<=1000/\Byt f.2.2.2:=by
  obtain ⟨k,c1,q1,h1,k0,k1⟩:=A2s c 11 hc (by omega);obtain ⟨fl,c2,q2,h2,_⟩:=A6M c1 [0,1,4,5,8,12,32,44] h1 (by simp);obtain ⟨st,c3,q3,h3,_⟩:=A6M c2 [1,1,3,0,5] h2 (by simp);obtain ⟨n,c4,q4,h4,hn⟩:=A6M c3 [0,1,4,5,6,8,12] h3 (by simp);have hn2:0<=n/\n<=12:=by
    simp only [B9,J1,A1A] at hn;omega
  obtain ⟨j,c5,q5,h5,j0,j1⟩:=A2s c4 3 h4 (by omega);simp only [A3J,A9H,q1,q2,q3,q4,q5,bO];obtain ⟨n1,d,e1,hd,hn1⟩:∃ n1 d,(bif (decide (k=2)) then some (5,c4.1,c4.2.1,c4.2.2,()) else B0 (bif (decide (k=3)) then some ((decide (k=3)),()) else some ((decide (k=8)),())) fun (m0:Bool×Unit)=>bif m0.1 then some (4,c4.1,c4.2.1,c4.2.2,()) else B0 (bif (decide (k=6)) then some ((decide (k=6)),()) else some ((decide (k=7)),())) fun (m1:Bool×Unit)=>bif m1.1 then some (8,c4.1,c4.2.1,c4.2.2,()) else bif (decide (k=4)) then bif (decide ((A14 .i64 fl 1)=1)) then some (0,c5.1,c5.2.1,c5.2.2,()) else some ((i64.wrap (6*j)),c5.1,c5.2.1,c5.2.2,()) else some (n,c4.1,c4.2.1,c4.2.2,()))=some (n1,d.1,d.2.1,d.2.2,())/\Cur d/\(0<=n1/\n1<=12):=by
    have hj:i64.wrap (6*j)=6*j:=w64 (by omega) (by omega);rw [hj];cases decide (k=2)
    case true=>exact ⟨5,c4,rfl,h4,by omega⟩
    cases decide (k=3)
    case true=>exact ⟨4,c4,rfl,h4,by omega⟩
    cases decide (k=8)
    case true=>exact ⟨4,c4,rfl,h4,by omega⟩
    cases decide (k=6)
    case true=>exact ⟨8,c4,rfl,h4,by omega⟩
    cases decide (k=7)
    case true=>exact ⟨8,c4,rfl,h4,by omega⟩
    cases decide (k=4)
    case false=>exact ⟨n,c4,rfl,h4,hn2⟩
    cases decide ((A14 .i64 fl 1)=1)
    case true=>exact ⟨0,c5,rfl,h5,by omega⟩
    case false=>exact ⟨6*j,c5,rfl,h5,by omega⟩
  obtain ⟨o,d2,q6,h6⟩:=C3B d 8 hd (by omega);rw [e1];simp only [bO,show ((d.1,(d.2.1,d.2.2)):K5)=d from rfl,q6];obtain ⟨n2,e2,hn2'⟩:∃ n2,(bif o then some ((i64.wrap (n1+1)),d2.1,d2.2.1,d2.2.2,()) else some (n1,d2.1,d2.2.1,d2.2.2,()))=some (n2,d2.1,d2.2.1,d2.2.2,())/\(0<=n2/\n2<=13):=by
    cases o
    · exact ⟨n1,rfl,by omega⟩
    · exact ⟨n1+1,by rw [w64 (by omega) (by omega)];rfl,by omega⟩
  rw [e2];simp only [bO,A4U,show ((d2.1,(d2.2.1,d2.2.2)):K5)=d2 from rfl];obtain ⟨z,c7,q7,h7,_⟩:=A6M d2 [0,0,0,0,1] h6 (by simp);obtain ⟨st2,d3,e3,hd3⟩:∃ st2 d3,(bif decide (6<=k/\k<=7) then B0 (A5Q d2 [0,0,0,0,1]) fun c50=>some (k,fl,c50.1,c50.2.1.1,c50.2.1.2.1,c50.2.1.2.2,()) else bif (decide (k=4)) then B0 (A5Q d2 [0,0,0,0,1]) fun c50=>some (k,fl,c50.1,c50.2.1.1,c50.2.1.2.1,c50.2.1.2.2,()) else some (k,fl,st,d2.1,d2.2.1,d2.2.2,()))=some (k,fl,st2,d3.1,d3.2.1,d3.2.2,())/\Cur d3:=by
    rw [q7];cases decide (6<=k/\k<=7)
    case true=>exact ⟨z,c7,rfl,h7⟩
    cases decide (k=4)
    case true=>exact ⟨z,c7,rfl,h7⟩
    case false=>exact ⟨st,d2,rfl,h6⟩
  rw [e3];obtain ⟨b,c8,q8,h8,hb1,hb2⟩:=C0e d3 n2 hd3 (by omega);simp only [bO,show ((d3.1,(d3.2.1,d3.2.2)):K5)=d3 from rfl,q8];exact ⟨_,_,rfl,h8,by simp only;omega,hb2⟩
theorem C9K(f:F3)(h:f.2.2.2.length<=1000)(hb:Byt f.2.2.2):∃ o,W6 f=some (o,())/\o.length<=1009/\Byt o:=by
  rw [A6L f (by omega)];cases hk:A0M f with
  | true=>exact ⟨_,rfl,by rw [A6 rfl];exact A9M f hk,by rw [A6 rfl];exact B2a hb⟩
  | false=>exact ⟨_,rfl,by simp,fun x hx=>by simp at hx⟩
theorem D4G(c:K5)(hc:Cur c)(most:Int)(hm:0<most/\most<=6):∃ b c',A5S c most=some (b,c',())/\Cur c'/\33<=b.length/\b.length<=33+125000000*6/\Byt b:=by
  obtain ⟨n,c1,q1,h1,n0,n1⟩:=A2s c most hc (by omega);have hp:=D1g;simp only [A5S,A9I,D07,bO,q1];obtain ⟨z,e,hz⟩:=B54 (A77 A2d W6 B2T A0e A20 A5Q A3J)
    (fun l=>l.2.1.toNat) (fun l=>0<=l.2.1/\l.2.1<=6/\szT l.2.2.2.1<=1000000000/\Cur (l.2.2.2.2.1,l.2.2.2.2.2.1,l.2.2.2.2.2.2.1)/\33<=l.2.2.2.2.2.2.2.1.length/\(l.2.2.2.2.2.2.2.1.length:Int)<=33+125000000*(6-l.2.1)/\Byt l.2.2.2.2.2.2.2.1)
    (fun z=>Cur z.2.1/\33<=z.1.length/\z.1.length<=33+125000000*6/\Byt z.1) (fun l hl=>by
      obtain ⟨i0,i6,ht,hcu,hb0,hb1,hb2⟩:=hl;obtain ⟨a1,a2,a3,a4,a5,a6,a7,a8,u⟩:=l;simp only at i0 i6 ht hcu hb0 hb1 hb2;simp only [A77];by_cases hi:a2>0
      · left
        rw [A0 hi];obtain ⟨w,c2,q2,h2,w0,w1⟩:=A2s (a5,a6,a7) 6 hcu (by omega);have wi:i64.wrap (a2-1)=a2-1:=w64 (by omega) (by omega);simp only [B2,q2,bO,wi];by_cases k0:w=0
        · rw [A0 k0]
          obtain ⟨f,c3,q3,h3,f1,f2⟩:=D4F c2 h2;obtain ⟨o,q4,o1,o2⟩:=C9K f f1 f2;simp only [B2,q3,q4,bO];rw [gA (by omega)];exact ⟨_,rfl,⟨by simp only;omega,by simp only;omega,ht,h3,by simp only [A4];omega,by simp only [A4];omega,A10 hb2 o2⟩,by simp only;omega⟩
        rw [A8 k0];simp only [A7];by_cases k1:w=1
        · rw [A0 k1]
          obtain ⟨v1,c3,q3,h3,_⟩:=A6M c2 [6,4,8,3] h2 (by simp);obtain ⟨v2,c4,q4,h4,_⟩:=A6M c3 [0,0,1] h3 (by simp);obtain ⟨v3,c5,q5,h5,hv⟩:=A6M c4 [8,4,0,6] h4 (by simp);have hv2:0<=v3/\v3<=8:=by
            simp only [B9,J1,A1A] at hv;omega
          obtain ⟨bb,c6,q6,h6,b1,b2⟩:=C0e c5 v3 h5 (by omega);obtain ⟨o,q7,o1,o2⟩:=C9K (v1,0,v2,bb) (by simp only;omega) b2;simp only [B2,q3,q4,q5,q6,q7,bO];rw [gA (by omega)];exact ⟨_,rfl,⟨by simp only;omega,by simp only;omega,ht,h6,by simp only [A4];omega,by simp only [A4];omega,A10 hb2 o2⟩,by simp only;omega⟩
        · rw [A8 k1]
          obtain ⟨r,c3,q3,h3,_,_,hr⟩:=D4E c2 h2;obtain ⟨v3,c5,q5,h5,hv⟩:=A6M c3 [0,3,10] h3 (by simp);have hv2:0<=v3/\v3<=10:=by
            simp only [B9,J1,A1A] at hv;omega
          obtain ⟨bb,c6,q6,h6,b1,b2⟩:=C0e c5 v3 h5 (by omega);obtain ⟨v4,c7,q7,h7,_⟩:=A6M c6 [1000,5,2] h6 (by simp);obtain ⟨o,T,q8,o1,o2,o3⟩:=E4O (a3,a4) a1 r bb v4 ht (by omega) (by omega);simp only [A7,q3,q5,q6,q7,q8,bO];rw [gA (by omega)];exact ⟨_,rfl,⟨by simp only;omega,by simp only;omega,o2,h7,by simp only [A4];omega,by simp only [A4];omega,A10 hb2 (o3 b2)⟩,by simp only;omega⟩
      · right
        rw [A8 hi];exact ⟨(a8,(a5,a6,a7),()),rfl,hcu,hb0,by simp only;omega,hb2⟩) (1,n,4096,[],c1.1,c1.2.1,c1.2.2,prefaceB,()) ⟨n0,by simp only;omega,by simp [szT],h1,by simp only [hp];omega,by simp only [hp];omega,D0U⟩
  exact ⟨z.1,z.2.1,e,hz⟩
theorem E2G{b:List Int}(h:Byt b)(i:Nat){x:Int}(hx:0<=x/\x<256):Byt (b.set i x):=fun y hy=>by
  rcases B35 hy with q | q
  · exact h y q
  · rw [q];exact hx
theorem D2W(a:List Int)(ha:a.length<=1048576):∃ b k,A27 a=some (b,k,())/\Byt b/\b.length<=800000000/\0<=k/\k<=(b.length:Int):=by
  obtain ⟨c0,q0,h0⟩:=D9t a ha;obtain ⟨b,c1,q1,h1,b0,b1,b2⟩:=D4G c0 h0 6 (by omega);obtain ⟨o,c2,q2,h2⟩:=C3B c1 4 h1 (by omega);simp only [A27,A78,q0,q1,q2,bO];obtain ⟨b',d,e1,hd,hl,hb⟩:∃ b' d,(bif o then B0 (A0e c2 (b.length:Int)) fun c16=>B0 (A4j c16.2.1) fun c18=>bif decide (0<=c16.1) then bif decide (c16.1<(b.length:Int)) then some (c18.2.1.1,c18.2.1.2.1,c18.2.1.2.2,(b.set c16.1.toNat (u8.wrap c18.1)),()) else none else none else some (c2.1,c2.2.1,c2.2.2,b,()))=some (d.1,d.2.1,d.2.2,b',())/\Cur d/\b'.length=b.length/\Byt b':=by
    cases o
    case false=>exact ⟨b,c2,rfl,h2,rfl,b2⟩
    obtain ⟨i,c3,q3,h3,i0,i1⟩:=A2s c2 (b.length:Int) h2 (by omega);obtain ⟨x,c4,q4,h4,_⟩:=B29 c3 h3;simp only [B2,q3,q4,bO,A0 i0,A0 i1];exact ⟨_,c4,rfl,h4,by simp,E2G b2 _ (wrap_u8 _)⟩
  rw [e1];simp only [bO,show ((d.1,(d.2.1,d.2.2)):K5)=d from rfl];rw [w64 (n:=(b'.length:Int)+1) (by omega) (by omega)];obtain ⟨k,c5,q5,h5,k0,k1⟩:=A2s d ((b'.length:Int)+1) hd (by omega);rw [q5];exact ⟨b',k,rfl,hb,by omega,k0,by omega⟩
set_option maxRecDepth 100000
abbrev pfS(cs:List A0m)(os:List Int)(st:BS):BS:={st with m:=pfM cs os st.m}
theorem D0V(cs:List A0m)(os:List Int)(pre:Nat)(m:HM)(code:Int):B2c pre (pfM cs os m) code=pfS cs os (B2c pre m code):=by
  simp only [B2c,B3]
theorem E0a(cs:List A0m)(os:List Int)(st:BS)(x:Int):A28 (pfS cs os st) x=pfS cs os (A28 st x):=by
  unfold A28;by_cases h1:st.dead≠0
  · rw [A6 h1,A6 h1]
  rw [A5 h1,A5 h1];by_cases h2:st.pre<24
  · rw [A6 h2,A6 h2]
    by_cases h3:x=bt priS (st.pre:Int)
    · rw [A6 h3,A6 h3]
    · rw [A5 h3,A5 h3]
      exact D0V cs os _ _ _
  rw [A5 h2,A5 h2];by_cases c1:codeF (st.inn ++ [x])=1
  · rw [A6 c1,A6 c1]
  rw [A5 c1,A5 c1];by_cases c2:codeF (st.inn ++ [x])=2
  · rw [A6 c2,A6 c2]
    exact D0V cs os _ _ _
  rw [A5 c2,A5 c2];have e:=E3O cs os st.m (V8 (st.inn ++ [x]));rw [e];by_cases hr:(frM st.m (V8 (st.inn ++ [x]))).1=0
  · rw [A6 hr,A6 hr]
  · rw [A5 hr,A5 hr]
    exact D0V cs os _ _ _
theorem C9L(cs:List A0m)(os:List Int):∀ (b:List Int) (st:BS),M5 (pfS cs os st) b=pfS cs os (M5 st b)
  | [],st=>rfl
  | x::b,st=>by
    show M5 (A28 (pfS cs os st) x) b=pfS cs os (M5 (A28 st x) b);rw [E0a,C9L cs os b]
abbrev E2d(st:BS):BS:={st with m:={st.m with calls:= [],out:= []}}
theorem E0b(st:BS):pfS st.m.calls st.m.out (E2d st)=st:=by
  obtain ⟨p,i,d,g,e,s,l,cs,os⟩:=st;simp
def CI(cs:List A0m):Prop:=∀ c∈cs,c.2.2.1.length<=2000
theorem D6H{cs:List A0m}(h:CI cs){c:A0m}(hc:c.2.2.1.length<=2000):CI (cs ++ [c]):=fun x hx=>by
  rcases C8.1 hx with q | q
  · exact h x q
  · rcases B1.1 q with rfl;exact hc
theorem C9M{m:HM}(h:CI m.calls){s:A2n}(hs:s.2.2.2.length<=2000):CI (A4N m s).calls:=by
  unfold A4N;split
  · exact D6H h hs
  · exact h
theorem D2a{m:HM}(h:CI m.calls){i:Nat}(hs:(sAt m.strs i).2.2.2.length<=2000)(ev:Int):CI (A7S m i ev).2.calls:=by
  unfold A7S;split
  · exact h
  · split
    · exact h
    · exact C9M (m:=A66 m i _) h hs
theorem D7q{m:HM}(hi:HI m)(h:CI m.calls)(id:Int)(fin:Bool)(b:List Int):CI (B2b m id fin b).2.calls:=by
  unfold B2b;split
  · exact h
  · split
    · rename_i hh
      have hlt:=B6g hh;have hst:=(hi.strs.2.2 _ (G3 hlt.1)).2.2.2.2;rw [<- A83 hlt.1] at hst;exact D2a (m:={m with dec:=(Q9 m.dec 4096 b).2.1}) h hst _
    · unfold C6u
      split
      · exact h
      · split
        · exact h
        · split
          · exact D6H h (by simp)
          · exact C9M (m:={m with dec:=(Q9 m.dec 4096 b).2.1,last:=id,strs:=m.strs ++ [(id,(if fin then 2 else 1),(B9f (Q9 m.dec 4096 b).1).1,[])]}) h (by simp)
theorem E3P{m:HM}(hi:HI m)(h:CI m.calls){f:F3}(hf:FrI f):CI (frM m f).2.calls:=by
  have hu:CI (C4S m f).2.calls:=by unfold C4S;split<;>exact h
  have ha:∀ b,CI (C6v m f b).calls:=fun b=>by unfold C6v;cases B0j f 1<;>exact h
  have hr:=D6F f;unfold frM;by_cases c2:fcV f=2
  · rw [A6 c2];exact h
  rw [A5 c2];by_cases c3:fcV f=3
  · rw [A6 c3];exact h
  rw [A5 c3];have hc:fcV f=0:=by omega
  by_cases k:m.g.1≠0\/f.1=1\/f.1=9
  · rw [A6 k]
    have hok:=C6t hi.g hi.gb hf (by by_cases h1:f.1=1;exact .inl (D0R hc h1);exact .inr h1);unfold C4I;split
    · exact h
    · split
      · exact h
      · split
        · exact D7q (m:={m with g:=(A08 m.g f).1}) ⟨hi.strs,hi.last,hi.dec,hok.1,hok.2.1⟩ h _ _ _
        · exact h
  rw [A5 k];split
  · exact ha _
  · split
    · exact ha _
    · split
      · exact h
      · split
        · split<;>exact h
        · split
          · unfold C4J
            split
            · rename_i hh
              have hlt:=B6g hh;split
              · exact h
              · split
                · exact h
                · rename_i hq
                  refine D2a (m:=A66 m _ _) h ?_ _;simp only [A66];rw [A83 (by simpa using hlt.1),A2H];simp only [A4];omega
            · exact hu
          · split
            · unfold B8U
              split
              · exact h
              · exact hu
            · exact h
theorem E0c{st:BS}(h:BI st)(hc:CI st.m.calls){x:Int}(hx:0<=x/\x<256):CI (A28 st x).m.calls:=by
  unfold A28;split
  · exact hc
  · split
    · split<;>exact hc
    · rename_i hp
      by_cases c1:codeF (st.inn ++ [x])=1
      · rw [A6 c1];exact hc
      rw [A5 c1];by_cases c2:codeF (st.inn ++ [x])=2
      · rw [A6 c2];exact hc
      rw [A5 c2];have c0:codeF (st.inn ++ [x])=0:=by have:=B9R (st.inn ++ [x]);omega
      have:=E3P h.hi hc (C3A (D2S h.inb hx) c0);split<;>exact this
theorem C9N:∀ {b:List Int} {st:BS},BI st->Byt b->CI st.m.calls->CI (M5 st b).m.calls
  | [],st,h,_,hc=>hc
  | x::b,st,h,hb,hc=>by
    have hx:=hb x A9;have e:M5 st (x::b)=M5 (A28 st x) b:=rfl;rw [e];exact C9N (D2T h hx).1 (fun y hy=>hb y (B8 _ hy)) (E0c h hc hx)
def newB:BS:=⟨0,[],0,⟨(0,false,[]),(4096,[]),[],0,[],[]⟩⟩
def D2b:E3:=(4096,[])
theorem B6i:A1V D2b:=⟨by decide,by decide,by simp [D2b,szT]⟩
theorem C27:BI newB:=⟨by decide,⟨C9F _,by decide,B6i,.inl ⟨rfl,rfl,rfl⟩,fun x hx=>by cases hx⟩,(fun x hx=>by cases hx),rfl,fun _=>rfl,(fun e=>absurd rfl e),by decide⟩
theorem D0W:B3L=some (bsC D2b newB,()):=rfl
set_option maxRecDepth 100000
theorem exactSpoken(a:List Int):B6T a=some (true,()):=by
  simp only [B6T,B6S,C5E,D01,bO];by_cases hbig:(a.length:Int)>1048576
  · rw [A0 hbig];rfl
  rw [A8 hbig];obtain ⟨b,k,q1,hb,hl,k0,k1⟩:=D2W a (by omega);obtain ⟨n,rfl⟩:∃ n:Nat,k=(n:Int):=⟨k.toNat,by omega⟩;have hbt:Byt (b.take n):=B8K hb n;have hbd:Byt (b.drop n):=B2W hb n;have htl:(b.take n).length<=b.length:=by simp;omega
  have hdl:(b.drop n).length<=b.length:=by simp
  have e1:=B2d D2b B6i C27 rfl rfl hb (by omega);have e2:=B2d D2b B6i C27 rfl rfl hbt (by omega);obtain ⟨s1,s2,s3⟩:=B58 C27 hb;obtain ⟨t1,t2,t3⟩:=B58 C27 hbt;have c1:=C9N C27 hb (fun x hx=>by cases hx);simp only [A7,q1,bO,D0W,e1];rw [A0 (show (0:Int)<=(n:Int) by omega),A0 k1,E6,A0c,e2];simp only [B2,bO];obtain ⟨S,hS⟩:∃ S:BS,S=E2d (M5 newB (b.take n)):=⟨_,rfl⟩;have hSi:BI S:=by rw [hS];exact ⟨t1.pre,⟨t1.hi.strs,t1.hi.last,t1.hi.dec,t1.hi.g,t1.hi.gb⟩,t1.inb,t1.more,t1.emp,t1.gone,t1.dead⟩
  have hC:bsC D2b (M5 newB (b.take n))=bsC D2b S:=by rw [hS]
  have hP:M5 newB (b.take n)=pfS (M5 newB (b.take n)).m.calls (M5 newB (b.take n)).m.out S:=by
    rw [hS];exact (E0b _).symm
  have e3:=B2d D2b B6i hSi (by rw [hS]) (by rw [hS]) hbd (by omega);have hcalls:S.m.calls = []:=by rw [hS]
  have hout:S.m.out = []:=by rw [hS]
  obtain ⟨u1,u2,u3⟩:=B58 hSi hbd;have hall:M5 newB b=pfS (M5 newB (b.take n)).m.calls (M5 newB (b.take n)).m.out (M5 S (b.drop n)):=by
    rw [<- C9L,<- hP,<- C0j,K8]
  have k1':=B0E B6i s1;have k2':=B0E B6i t1;have k3':=B0E B6i u1;rw [hcalls] at u2;rw [hout] at u3;have n1:newB.m.calls.length=0:=rfl;have n2:newB.m.out.length=0:=rfl;rw [k1',k2'];rw [hC,A9n,e3];simp only [bO,G5];rw [D3v (by simp at u2 ⊢;omega),D3v (by simp at u2 ⊢;omega),hall];simp only [pfS,pfM];rw [hall] at s2 s3 c1;simp only [pfS,pfM] at s2 s3 c1;rw [C71 _ (by omega) fun c hc=>by have:=c1 c hc;omega];simp only [bO,B2];rw [gA (by simp at u3 ⊢;omega),gA (by simp at u3 ⊢;omega),B8W _ (by simp only [maxLen];omega)];simp only [bO,B2,A0B,k3']
end Go.Proofs.YthnfghmjipikhaaGreatDoor.Ev
