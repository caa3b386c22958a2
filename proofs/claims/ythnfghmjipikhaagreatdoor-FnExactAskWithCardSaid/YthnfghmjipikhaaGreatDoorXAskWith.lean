/- What the plain functions of the program and of the reference answer: laws of plain data. -/
import Derived.Test.YthnfghmjipikhaaGreatDoorPu
import Derived.Laws.Strings
import Derived.Lib.Split
import Derived.Lib.Atoi
import Derived.Laws.BitsLemmas
import Derived.Lib.ItoaNum
set_option linter.unusedVariables false
set_option linter.unusedSimpArgs false
set_option linter.unusedSectionVars false
namespace Go.Proofs.YthnfghmjipikhaaGreatDoor.Ev
open IntKind (i64 u8 u64 u32)
theorem w64{n:Int}(h0:-9223372036854775808<=n)(h1:n<9223372036854775808):i64.wrap n=n:=by
  simp only [IntKind.wrap,IntKind.bits,IntKind.signed,A2c];simp;split<;>omega
theorem B4m{α β:Type}(f:α->Option (α⊕β))(μ:α->Nat)(I:α->Prop)(Q:β->Prop)
    (h:∀ x,I x->(∃ y,f x=some (.inl y)/\I y/\μ y<μ x)\/∃ z,f x=some (.inr z)/\Q z):∀ x,I x->∃ z,G4 f x=some z/\Q z:=by
  intro x;generalize hn:μ x=n
  induction n using Nat.strongRecOn generalizing x with
  | ind n ih=>
    intro hx;rw [N8];rcases h x hx with ⟨y,e,hy,hl⟩ | ⟨z,e,hz⟩
    · rw [e];exact ih (μ y) (by omega) y rfl hy
    · rw [e];exact ⟨z,rfl,hz⟩
theorem C5d{α β:Type}(f:α->Option (α⊕β))(μ:α->Nat)(I:α->Prop)(z:β)
    (h:∀ x,I x->(∃ y,f x=some (.inl y)/\I y/\μ y<μ x)\/f x=some (.inr z)) (x:α) (hx:I x):G4 f x=some z:=by
  obtain ⟨z',h1,rfl⟩:=B4m f μ I (·=z) (fun x hx=>(h x hx).imp id fun h=>⟨_,h,rfl⟩) x hx;exact h1
theorem I2{α β:Type}(f:α->Option (α⊕β))(s:Nat->α)(n:Nat)(z:β)(h:∀ i,i<n->f (s i)=some (.inl (s (i+1))))(he:f (s n)=some (.inr z)):G4 f (s 0)=some z:=by
  have key:∀ k i,i+k=n->G4 f (s i)=some z:=by
    intro k
    induction k with
    | zero=>intro i hi;rw [N8,show i=n by omega,he]
    | succ k ih=>intro i hi;rw [N8,h i (by omega)];exact ih (i+1) (by omega)
  exact key n 0 (by omega)
theorem B7W{α β:Type}(f:α->Option (α⊕β))(s:Nat->α)(n:Nat)(z:Nat->β)(go:Nat->Bool)(h:∀ i,i<n->f (s i)=if go i then some (.inl (s (i+1))) else some (.inr (z i)))(he:f (s n)=some (.inr (z n))) :
    ∃ i,i<=n/\(∀ j,j<i->go j=true)/\(i<n->go i=false)/\G4 f (s 0)=some (z i):=by
  have key:∀ k i,i+k=n->(∀ j,j<i->go j=true)->∃ i',i'<=n/\(∀ j,j<i'->go j=true)/\(i'<n->go i' = false)/\G4 f (s i)=some (z i'):=by
    intro k
    induction k with
    | zero=>
      intro i hi hg;obtain rfl:i=n:=by omega
      exact ⟨i,C6 _,hg,fun h=>absurd h (by omega),by rw [N8,he]⟩
    | succ k ih=>
      intro i hi hg;cases hgo:go i with
      | true=>
        obtain ⟨i',h1,h2,h3,h4⟩:=ih (i+1) (by omega) (fun j hj=>by
          by_cases h:j<i
          · exact hg j h
          · rw [show j=i by omega];exact hgo)
        refine ⟨i',h1,h2,h3,?_⟩;rw [N8,h i (by omega),G0 hgo];exact h4
      | false=>
        refine ⟨i,by omega,hg,fun _=>hgo,?_⟩;rw [N8,h i (by omega),hgo];rfl
  exact key n 0 (by omega) (fun j hj=>by omega)
theorem C1F(s:X0)(i:Int):0<=bt s i:=by unfold bt;omega
theorem B5d(s:X0)(i:Int):bt s i<256:=by
  have:=(s.data.toList.getD i.toNat 0).toNat_lt;unfold bt;omega
theorem D0j(s:X0)(i:Int):i64.wrap (bt s i)=bt s i:=w64 (by have:=C1F s i;omega) (by have:=B5d s i;omega)
theorem A4O{k:K}{xs:List k.T}{i:Nat}(h:i<xs.length):rd k xs (i:Int)=xs[i]:=by
  unfold rd;rw [E7];simp [List.getD,h]
theorem D0k{U:IntKind}{n:Int}(h:Wf (.int U) n):U.min<=n/\n<=U.max:=by
  simp only [Wf,Lit.wf,B3,Q1] at h;exact h
theorem wf_u8{n:Int}(h:Wf (.int .u8) n):0<=n/\n<256:=by
  have:=D0k h;simp only [IntKind.min,IntKind.max,IntKind.signed,IntKind.bits] at this;simp at this;omega
def Byt(a:List Int):Prop:=∀ x∈a,0<=x/\x<256
theorem D1i{a:List Int}(h:∀ x∈a,Wf (.int .u8) x):Byt a:=fun x hx=>wf_u8 (h x hx)
theorem pe{α β:Type}(p:α×β):(p.1,p.2)=p:=rfl
theorem A4{p:Prop} [Decidable p] (h:p):decide p=true:=A0I h
theorem B7{p:Prop} [Decidable p] (h:¬ p):decide p=false:=Q5 h
def Sm(N:Nat):(k:K)->k.T->Prop
  | .int _,_=>True
  | .bool,_=>True
  | .fnc _,_=>True
  | .str,s=>s.size<=N
  | .sl _ k,xs=>xs.length<=N/\∀ x∈xs,Sm N k x
  | .rs _ k,xs=>xs.length<=N/\∀ x∈xs,Sm N k x
  | .pa _ _,_=>True
  | .pair a b,x=>Sm N a x.1/\Sm N b x.2
theorem sm_wf:∀ {k:K} {x:k.T},Wf k x->Sm maxLen k x
  | .int _,_,_=>trivial
  | .bool,_,_=>trivial
  | .fnc _,_,_=>trivial
  | .str,_,h=>h
  | .sl _ _,_,h=>⟨h.1,fun x hx=>sm_wf (h.2 x hx)⟩
  | .rs _ _,_,h=>⟨h.1,fun x hx=>sm_wf (h.2 x hx)⟩
  | .pa _ _,_,_=>trivial
  | .pair _ _,_,h=>⟨sm_wf h.1,sm_wf h.2⟩
theorem Sm.l{N:Nat}{a b:K}{x:(K.pair a b).T}(h:Sm N (.pair a b) x):Sm N a x.1:=h.1
theorem Sm.r{N:Nat}{a b:K}{x:(K.pair a b).T}(h:Sm N (.pair a b) x):Sm N b x.2:=h.2
theorem Sm.len{N e:Nat}{k:K}{xs:(K.sl e k).T}(h:Sm N (.sl e k) xs):List.length xs<=N:=h.1
theorem Sm.el{N e:Nat}{k:K}{xs:(K.sl e k).T}(h:Sm N (.sl e k) xs):∀ x,x∈(show List k.T from xs)->Sm N k x:=h.2
def C5e(P:Int->Option (Int×Unit))(S:Prop):Prop:=∀ l:Int,0<=l->l<=1048576->∃ r,P l=some (r,())/\r<=l/\(0<=r->S)
theorem C9V{T:Type}(f:T->Int->Option (Int×Unit))(S:T->Prop)(L:Int×Int×Unit->Option ((Int×Int×Unit)⊕(Int×Unit)))(a:List T)(hn:a.length<=maxLen)(hf:∀ x∈a,C5e (f x) (S x))
    (hs:∀ (i:Nat) (hi:i<a.length) (l:Int),L (l,(i:Int),())=B1 (f a[i] l) fun c=>bif decide (c.1<0) then some (.inr (-1,())) else some (.inl (c.1,i64.wrap ((i:Int)+1),())))
    (he:∀ l,L (l,(a.length:Int),())=some (.inr (l,()))):C5e (fun l=>G4 L (l,0,())) (∀ x∈a,S x):=by
  have key:∀ k i,i+k=a.length->∀ l:Int,0<=l->l<=1048576->∃ r,G4 L (l,(i:Int),())=some (r,())/\r<=l/\(0<=r->∀ j (hj:j<a.length),i<=j->S a[j]):=by
    intro k
    induction k with
    | zero=>
      intro i hi l h0 h1;obtain rfl:i=a.length:=by omega
      exact ⟨l,by rw [N8,he],A5e _,fun _ j hj hi=>by omega⟩
    | succ k ih=>
      intro i hi l h0 h1;have hlt:i<a.length:=by omega
      obtain ⟨r,e,h2,h3⟩:=hf a[i] (K7 hlt) l h0 h1;rw [N8,hs i hlt,e];simp only [B1];by_cases hr:r<0
      · rw [A4 hr]
        exact ⟨-1,rfl,by omega,fun h=>by omega⟩
      · rw [B7 hr]
        simp only [B0];rw [w64 (by omega) (by simp only [maxLen] at hn;omega)];obtain ⟨r',e',h4,h5⟩:=ih (i+1) (by omega) r (by omega) (by omega);refine ⟨r',by simpa using e',by omega,fun h j hj hij=>?_⟩;by_cases hji:j=i
        · subst hji;exact h3 (by omega)
        · exact h5 h j hj (by omega)
  intro l h0 h1;obtain ⟨r,e,h2,h3⟩:=key a.length 0 (by omega) l h0 h1;refine ⟨r,by simpa using e,h2,fun h x hx=>?_⟩;obtain ⟨j,hj,rfl⟩:=List.getElem_of_mem hx;exact h3 h j hj (by omega)
theorem C9W(L:Int×Unit->Option ((Int×Unit)⊕(Bool×Unit)))(n:Nat)(hn:n<=maxLen)(hs:∀ i:Nat,i<n->L ((i:Int),())=some (.inl (i64.wrap ((i:Int)+1),())))
    (he:L ((n:Int),())=some (.inr (true,()))):G4 L (0,())=some (true,()):=by
  refine I2 L (fun i=>((i:Int),())) n (true,()) (fun i hi=>?_) he;rw [hs i hi,w64 (by omega) (by simp only [maxLen] at hn;omega)];rfl
theorem C9a{T:Type}(L:Int×List T×Unit->Option ((Int×List T×Unit)⊕(List T×Unit)))(a:List T)(z:T)(hn:a.length<=maxLen)
    (hs:∀ (i:Nat) (hi:i<a.length) (b:List T),b.length=a.length->L ((i:Int),b,())=some (.inl (i64.wrap ((i:Int)+1),b.set i a[i],())))
    (he:∀ b,L ((a.length:Int),b,())=some (.inr (b,()))):G4 L (0,List.replicate a.length z,())=some (a,()):=by
  have key:=I2 L (fun i=>((i:Int),a.take i++List.replicate (a.length-i) z,())) a.length (a,()) (fun i hi=>?_) ?_
  · simpa using key
  · have hl:(a.take i++List.replicate (a.length-i) z).length=a.length:=by simp;omega
    rw [hs i hi _ hl,w64 (by omega) (by simp only [maxLen] at hn;omega)];have:(a.take i++List.replicate (a.length-i) z).set i a[i]=a.take (i+1)++List.replicate (a.length-(i+1)) z:=by
      rw [List.set_append_right _ _ (by simp;omega)];rw [Q2 hi,A7]
      congr 1
      rw [show (a.take i).length=i by simp;omega,Nat.sub_self,show a.length-i=(a.length-(i+1))+1 by omega,T1];rfl
    rw [this];rfl
  · rw [he]
    simp
def B1M(go:Nat->Bool):Nat->Nat->Nat
  | i,0=>i
  | i,k+1=>if go i then B1M go (i+1) k else i
theorem B5e{α β:Type}(f:α->Option (α⊕β))(s:Nat->α)(n:Nat)(z:Nat->β)(go:Nat->Bool)(h:∀ i,i<n->f (s i)=if go i then some (.inl (s (i+1))) else some (.inr (z i)))(he:f (s n)=some (.inr (z n))) :
    G4 f (s 0)=some (z (B1M go 0 n)):=by
  have key:∀ k i,i+k=n->G4 f (s i)=some (z (B1M go i k)):=by
    intro k
    induction k with
    | zero=>
      intro i hi;obtain rfl:i=n:=by omega
      rw [N8,he];rfl
    | succ k ih=>
      intro i hi;rw [N8,h i (by omega)];simp only [B1M];cases go i with
      | true=>simp only [Q7];exact ih (i+1) (by omega)
      | false=>rfl
  exact key n 0 (by omega)
theorem B43(a:List Int)(h:a.length<=maxLen):A5W a a=some (true,()):=by
  simp only [A5W,B1J];simp only [A3K,H4,B0];refine I2 (A53 a a) (fun i=>((i:Int),())) a.length (true,()) (fun i hi=>?_) ?_
  · have h1:((i:Int)<(a.length:Int)):=by omega
    have h2:(0:Int)<=(i:Int):=by omega
    simp only [A53,A4 h1,A4 h2,B6,A3K,H4,B0];rw [w64 (by omega) (by simp only [maxLen] at h;omega)];rfl
  · simp [A53]
theorem C3I(a:List Int)(h:a.length<=281474976710656):A5T a=some (a,()):=by
  simp only [A5T,B1G];have h1:(0:Int)<=(a.length:Int):=by omega
  rw [A4 h1,E7,A4 (show a.length<=9223372036854775807 by omega),A4 (show 1*a.length<=281474976710656 by omega)];simp only [B6];have key:=I2 (A4q a) (fun i=>((i:Int),a.take i++List.replicate (a.length-i) 0,())) a.length (a,()) (fun i hi=>?_) ?_
  · simpa using key
  · have h1:((i:Int)<(a.length:Int)):=by omega
    have h2:(0:Int)<=(i:Int):=by omega
    have hl:(a.take i++List.replicate (a.length-i) (0:Int)).length=a.length:=by simp;omega
    simp only [A4q,hl,A4 h1,A4 h2,B6];rw [w64 (by omega) (by omega),E7,A4O hi];have:(a.take i++List.replicate (a.length-i) (0:Int)).set i a[i]=a.take (i+1)++List.replicate (a.length-(i+1)) 0:=by
      rw [List.set_append_right _ _ (by simp;omega)];rw [Q2 hi,A7]
      congr 1
      rw [show (a.take i).length=i by simp;omega,Nat.sub_self,show a.length-i=(a.length-(i+1))+1 by omega,T1];rfl
    rw [this];rfl
  · simp [A4q]
abbrev C7m:=X0×List Int×Int×Int
def marked(m:Int)(n:Nat):List Int:=(List.range n).map fun j=>u8.wrap (m+(j:Nat))
theorem B44(a:List Int)(m:Int)(h0:0<=m)(h:m+a.length<9223372036854775808):A2K a m=some (m+a.length,marked m a.length,()):=by
  simp only [A2K,A8M];have key:=I2 A2m (fun i=>(m+(i:Int),(i:Int),marked m i++a.drop i,())) a.length (m+a.length,marked m a.length,()) (fun i hi=>?_) ?_
  · simpa [marked] using key
  · have h1:((i:Int)<(a.length:Int)):=by omega
    have h2:(0:Int)<=(i:Int):=by omega
    have hl:(marked m i++a.drop i).length=a.length:=by simp [marked];omega
    simp only [A2m,hl,A4 h1,A4 h2,B6];rw [w64 (by omega) (by omega),w64 (by omega) (by omega),E7];have:(marked m i++a.drop i).set i (u8.wrap (m+(i:Int)))=marked m (i+1)++a.drop (i+1):=by
      rw [List.set_append_right _ _ (by simp [marked])];rw [show (marked m i).length=i by simp [marked],Nat.sub_self,I0 hi,List.set_cons_zero];simp [marked,List.range_succ]
    rw [this];simp only [Int.natCast_add,Int.natCast_one,Int.add_assoc]
  · simp [A2m,marked]
theorem C08(n:Nat)(m:Int)(h0:0<=m)(h:m+n<9223372036854775808):A2L (marked m n) m=some (m+n,()):=by
  simp only [A2L,A8N];have hl:(marked m n).length=n:=by simp [marked]
  have key:=I2 (A2n (marked m n)) (fun i=>(m+(i:Int),(i:Int),())) n (m+n,()) (fun i hi=>?_) ?_
  · simpa [marked] using key
  · have h1:((i:Int)<(n:Int)):=by omega
    have h2:(0:Int)<=(i:Int):=by omega
    simp only [A2n,hl,A4 h1,A4 h2,B6];have hr:rd (.int .u8) (marked m n) (i:Int)=u8.wrap (m+(i:Int)):=by
      rw [A4O (by rw [hl];exact hi)];simp [marked]
    rw [hr,w64 (by omega) (by omega),w64 (by omega) (by omega)];simp only [A3K,H4,B0,Int.natCast_add,Int.natCast_one,Int.add_assoc]
  · simp [A2n,hl]
theorem C7n(a:A3L)(h:Sm maxLen A9g a):C5e (A91 a) (Sm 1048576 A9g a):=by
  intro l h0 h1;simp only [A91,B4h];have z1:a.2.1.size<=9223372036854775807:=(Sm.l (Sm.r h));rw [w64 (n:=l-(a.2.1.size:Int)) (by omega) (by omega)];by_cases n1:l-(a.2.1.size:Int)<0
  · rw [A4 n1];exact ⟨-1,rfl,by omega,fun h=>by omega⟩
  rw [B7 n1];simp only [B0];exact ⟨_,rfl,by omega,fun _=>⟨by simp [Sm],⟨by show a.2.1.size<=1048576;omega,by simp [Sm]⟩⟩⟩
theorem C3J(a:B8)(h:Sm maxLen C1 a):C5e (V8 a) (Sm 1048576 C1 a):=by
  intro l h0 h1;simp only [V8,A7N];have z1:a.1.size<=9223372036854775807:=(Sm.l h);rw [w64 (n:=l-(a.1.size:Int)) (by omega) (by omega)];by_cases n1:l-(a.1.size:Int)<0
  · rw [A4 n1];exact ⟨-1,rfl,by omega,fun h=>by omega⟩
  rw [B7 n1];simp only [B0];have z2:a.2.size<=9223372036854775807:=(Sm.r h);rw [w64 (n:=(l-(a.1.size:Int))-(a.2.size:Int)) (by omega) (by omega)];by_cases n2:(l-(a.1.size:Int))-(a.2.size:Int)<0
  · rw [A4 n2];exact ⟨-1,rfl,by omega,fun h=>by omega⟩
  rw [B7 n2];simp only [B0];exact ⟨_,rfl,by omega,fun _=>⟨by show a.1.size<=1048576;omega,by show a.2.size<=1048576;omega⟩⟩
theorem C1G(a:List B8)(h:Sm maxLen (.sl 161 C1) a):C5e (A3V a) (Sm 1048576 (.sl 161 C1) a):=by
  have hl:a.length<=9223372036854775807:=h.1;intro l h0 h1;simp only [A3V,A68];rw [w64 (by omega) (by omega)];by_cases hn:l-(a.length:Int)<0
  · rw [A4 hn];exact ⟨-1,rfl,by omega,fun h=>by omega⟩
  rw [B7 hn];simp only [B0];obtain ⟨r,e,h2,h3⟩:=C9V V8 (fun x=>Sm 1048576 C1 x) (U0 V8 a) a h.1 (fun x hx=>C3J x (h.2 x hx)) (by
    intro i hi l;have g1:((i:Int)<(a.length:Int)):=by omega
    have g2:(0:Int)<=(i:Int):=by omega
    simp only [U0,A4 g1,A4 g2,B6];rw [A4O (k:=C1) (xs:=a) hi]
    ) (fun l=>by simp [U0]) (l-(a.length:Int)) (by omega) (by omega)
  exact ⟨r,e,by omega,fun h=>⟨by omega,h3 h⟩⟩
theorem C3K(a:E0)(h:Sm maxLen B2D a):C5e (A18 a) (Sm 1048576 B2D a):=by
  intro l h0 h1;simp only [A18,A7P];obtain ⟨r1,e1,u1,v1⟩:=C1G a.2 (Sm.r h) l (by omega) (by omega);rw [e1];simp only [B1];by_cases n1:r1<0
  · rw [A4 n1];exact ⟨-1,rfl,by omega,fun h=>by omega⟩
  rw [B7 n1];simp only [B0];exact ⟨_,rfl,by omega,fun _=>⟨by simp [Sm],v1 (by omega)⟩⟩
theorem C7o(a:A3L)(h:Sm 1048576 A9g a):A9B a=some (a,()):=by
  simp only [A9B,B4k,B1]
theorem C3L(a:B8)(h:Sm 1048576 C1 a):A7b a=some (a,()):=by
  simp only [A7b,B1E,B1]
theorem C1H(a:List B8)(h:Sm 1048576 (.sl 161 C1) a):A6C a=some (a,()):=by
  have hl:a.length<=1048576:=h.1;simp only [A6C,A9p];rw [A4 (show (0:Int)<=(a.length:Int) by omega),E7,A4 (by omega),A4 (by omega)];simp only [B6];refine C9a _ a _ (by simp only [maxLen];omega) (fun i hi b hb=>?_) (fun b=>by simp [A6k]);have h1:((i:Int)<(a.length:Int)):=by omega
  have h2:(0:Int)<=(i:Int):=by omega
  simp only [A6k,hb,A4 h1,A4 h2,B6];rw [A4O (k:=C1) (xs:=a) hi];rw [C3L _ (h.2 _ (K7 hi))];rfl
theorem C3M(a:E0)(h:Sm 1048576 B2D a):A5S a=some (a,()):=by
  simp only [A5S,B1F,B1,C1H a.2 (Sm.r h)]
theorem C09(a:B8)(h:Sm maxLen C1 a):A7j a a=some (true,()):=by
  simp [A7j,B1K,B1]
theorem B8N(a:List B8)(h:Sm maxLen (.sl 150 C1) a):A6H a a=some (true,()):=by
  simp only [A6H,B04,A3K,H4,B0];refine C9W _ a.length h.1 (fun i hi=>?_) (by simp [A6n]);have h1:((i:Int)<(a.length:Int)):=by omega
  have h2:(0:Int)<=(i:Int):=by omega
  simp only [A6n,A4 h1,A4 h2,B6];rw [A4O (k:=C1) (xs:=a) hi,C09 _ (h.2 _ (K7 hi))];rfl
theorem B45(a:E0)(h:Sm maxLen A3R a):A5b a a=some (true,()):=by
  simp [A5b,B1L,B1,B8N a.2 (Sm.r h)]
theorem A1i(a b c:Int):A0E a b c=some (decide (b<=a/\a<=c),()):=by
  simp only [A0E,B7I];by_cases h:b<=a<;>by_cases h2:a<=c<;>simp [h,h2]
theorem B06(a b c:Int):A1A a b c=some (decide (b<=a/\a<=c),()):=A1i a b c
def C0A(s:X0)(i:Nat):Bool:=decide (97<=bt s i/\bt s i<=122)||decide (48<=bt s i/\bt s i<=57)
def idB(s:X0):Bool:=(List.range s.size).all (C0A s)&&decide (1<=(s.size:Int)/\(s.size:Int)<=8)
theorem C3N(s:X0)(h:s.size<=maxLen)(i:Nat)(hi:i<s.size):A7Q A0E s ((i:Int),())=if C0A s i then some (.inl (((i+1:Nat):Int),())) else some (.inr (.inr (false,()))):=by
  have h1:((i:Int)<(s.size:Int)):=by omega
  have h2:(0:Int)<=(i:Int):=by omega
  simp only [A7Q,A4 h1,A4 h2,B6,D0j,A1i,B1];rw [w64 (by omega) (by simp only [maxLen] at h;omega)];unfold C0A;cases decide (97<=bt s i/\bt s i<=122)<;>cases decide (48<=bt s i/\bt s i<=57)<;>simp
theorem C5f(s:X0)(h:s.size<=maxLen)(i:Nat)(hi:i<s.size):A9q s ((i:Int),())=if C0A s i then some (.inl (((i+1:Nat):Int),())) else some (.inr (.inr (false,()))):=by
  have h1:((i:Int)<(s.size:Int)):=by omega
  have h2:(0:Int)<=(i:Int):=by omega
  simp only [A9q,A4 h1,A4 h2,B6];rw [w64 (by omega) (by simp only [maxLen] at h;omega)];unfold C0A;by_cases a:bt s i>=97<;>by_cases b:bt s i<=122<;>by_cases c:bt s i>=48<;>by_cases d:bt s i<=57<;>simp [a,b,c,d]
theorem D09{s:X0}{f:Int×Unit->Option ((Int×Unit)⊕(Unit⊕(Bool×Unit)))}(hs:∀ i:Nat,i<s.size->f ((i:Int),())=if C0A s i then some (.inl (((i+1:Nat):Int),())) else some (.inr (.inr (false,()))))
    (he:f ((s.size:Int),())=some (.inr (.inl ()))) (g:Unit->Option (Bool×Unit)) (hg:g ()=some (decide (1<=(s.size:Int)/\(s.size:Int)<=8),())):V6 (G4 f (0,())) g=some (idB s,()):=by
  obtain ⟨i,h1,h2,h3,h4⟩:=B7W f (fun i=>((i:Int),())) s.size (fun i=>if i<s.size then .inr (false,()) else .inl ()) (C0A s) (fun i hi=>by
    simp only [G0 hi];exact hs i hi) (by simp only [Nat.lt_irrefl,A0J];exact he)
  have h4':G4 f (0,())=some (if i<s.size then .inr (false,()) else .inl ()):=h4;rw [h4'];unfold idB;by_cases hi:i<s.size
  · rw [G0 hi]
    have:(List.range s.size).all (C0A s)=false:=by
      rw [List.all_eq_false];exact ⟨i,List.mem_range.2 hi,by simp [h3 hi]⟩
    simp [V6,this]
  · rw [D6 hi]
    have:(List.range s.size).all (C0A s)=true:=by
      rw [C8];intro j hj;exact h2 j (by have:=List.mem_range.1 hj;omega)
    simp only [V6,this,hg,A2c]
theorem C7p(s:X0)(h:s.size<=maxLen):B2G s=some (idB s,()):=by
  simp only [B2G,B4i];exact D09 (C3N s h) (by simp [A7Q]) _ (by simp only [A1i,B1])
theorem C9b(s:X0)(h:s.size<=maxLen):B3u s=some (idB s,()):=by
  simp only [B3u,B7O];exact D09 (C5f s h) (by simp [A9q]) _ (by simp only [B06,B1])
def C7q(n:Int)(k j:Nat):Int:=u8.wrap (n.fdiv (2 ^ (8*(k-1-j))))
def big(n:Int)(k:Nat):List Int:=(List.range k).map (C7q n k)
theorem B46(n:Int)(k:Nat):(big n k).length=k:=by simp [big]
theorem D1j{n:Int}(h0:0<=n)(h1:n<18446744073709551616):u64.wrap n=n:=by
  simp only [IntKind.wrap,IntKind.bits,IntKind.signed];simp;omega
theorem C4c(v:Int)(b:List Int)(k:Nat)(hk:k<=8)(hb:b.length+8<=140737488355328):G4 (A0V (v,())) ((k:Int)-1,b,())=some (b++big v k,()):=by
  have key:=I2 (A0V (v,())) (fun j=>((k:Int)-1-(j:Int),b++(List.range j).map (C7q v k),())) k (b++big v k,()) (fun j hj=>?_) ?_
  · simpa using key
  · have h1:(k:Int)-1-(j:Int)>=0:=by omega
    have e1:(k:Int)-1-(j:Int)=((k-1-j:Nat):Int):=by omega
    have hs:u64.wrap (i64.wrap (8*((k:Int)-1-(j:Int))))=((8*(k-1-j):Nat):Int):=by
      rw [w64 (by omega) (by omega),D1j (by omega) (by omega)];omega
    have hm:min (8*(k-1-j)) i64.bits=8*(k-1-j):=P2 (by simp only [IntKind.bits];omega);simp only [A0V,A4 h1,B6,hs,E7,hm];rw [B7 (by omega)];simp only [B0];have hl:(b++(List.range j).map (C7q v k)).length=b.length+j:=by simp
    rw [A4 (by rw [hl];simp;omega),A4 (by rw [hl];simp;omega)];simp only [B6];rw [w64 (by omega) (by omega),List.range_succ,A5w,A7];have e2:(k:Int)-1-(j:Int)-1=(k:Int)-1-((j+1:Nat):Int):=by omega
    rw [e2];rfl
  · have h1:¬ ((k:Int)-1-(k:Int)>=0):=by omega
    simp only [A0V,B7 h1,B0];rfl
def A7l(n:Int):Int:=if n<0 then 0 else n
theorem B5f(b:List Int)(n:Int)(k:Nat)(h1:1<=k)(hk:k<=8)(hb:b.length+8<=140737488355328):A9m b n (k:Int)=some (b++big (A7l n) k,()):=by
  simp only [A9m,B36];rw [A4 (by simp;omega),A4 (by simp;omega)];have e:(bif decide (n<0) then some ((0:Int),()) else some (n,()))=some (A7l n,()):=by
    unfold A7l;by_cases h:n<0<;>simp [h]
  simp only [B6,e,B1,A1i];rw [A4 (by omega)];simp only [H4,B0,F6];rw [w64 (by omega) (by omega)];exact C4c _ b k hk hb
theorem B5g(b:List Int)(n:Int)(k:Nat)(hk:k<=8)(hb:b.length+8<=140737488355328):B01 b n (k:Int)=some (b++big (A7l n) k,()):=by
  simp only [B01,B38];have e:A9w n=A0V (A7l n,()):=by
    funext l
    have:(bif decide (0>n) then (0:Int) else n)=A7l n:=by
      unfold A7l;by_cases h:n<0<;>simp [h]
    simp only [A9w,A0V,this]
  rw [e,w64 (by omega) (by omega)];exact C4c _ b k hk hb
abbrev Frame:=Int×Int×Int×List Int
def Q8(f:Frame):Bool:=decide (0<=f.1/\f.1<=255)&&decide (0<=f.2.1/\f.2.1<=255)&&decide (0<=f.2.2.1/\f.2.2.1<=2147483647)&&decide ((f.2.2.2.length:Int)<=1000)
theorem C0B(f:Frame):A7a f=some (Q8 f,()):=by
  simp only [A7a,B1D,A1i,B1,Q8];cases decide (0<=f.1/\f.1<=255)<;>cases decide (0<=f.2.1/\f.2.1<=255)<;>cases decide (0<=f.2.2.1/\f.2.2.1<=2147483647)<;>simp
def A5q(f:Frame):List Int:=big (f.2.2.2.length:Int) 3 ++ [u8.wrap f.1,u8.wrap f.2.1]++big (A7l f.2.2.1) 4++f.2.2.2
theorem B2i(b:List Int)(f:Frame)(h:b.length+f.2.2.2.length+24<=140737488355328):P7 b f=some (b++A5q f,()):=by
  simp only [P7,B02];rw [show (3:Int)=((3:Nat):Int) from rfl,B5g b _ 3 (by omega) (by omega)];have hc:A7l (f.2.2.2.length:Int)=(f.2.2.2.length:Int):=by unfold A7l;rw [D6 (by omega)]
  simp only [B1,hc];have hl:=B46 (f.2.2.2.length:Int) 3;rw [A4 (by simp [hl];omega),A4 (by simp [hl];omega)];simp only [B6];rw [show (4:Int)=((4:Nat):Int) from rfl,B5g _ _ 4 (by omega) (by simp [hl];omega)];simp only [B1];have hl4:=B46 (A7l f.2.2.1) 4;rw [A4 (by simp [hl,hl4];omega),A4 (by simp [hl,hl4];omega)];simp [A5q]
theorem A8P(f:Frame)(h:f.2.2.2.length+24<=140737488355328):W4 f=some (if Q8 f then A5q f else [],()):=by
  simp only [W4,A9n,pe,C0B,B1];cases Q8 f with
  | false=>rfl
  | true=>
    simp only [H4,B0];rw [show (3:Int)=((3:Nat):Int) from rfl,B5f [] _ 3 (by omega) (by omega) (by simp)];have hc:A7l (f.2.2.2.length:Int)=(f.2.2.2.length:Int):=by unfold A7l;rw [D6 (by omega)]
    simp only [hc];have hl:=B46 (f.2.2.2.length:Int) 3;rw [A4 (by simp [hl]),A4 (by simp [hl])];simp only [B6];rw [show (4:Int)=((4:Nat):Int) from rfl,B5f _ _ 4 (by omega) (by omega) (by simp [hl])];have hl4:=B46 (A7l f.2.2.1) 4;simp only;rw [A4 (by simp [hl,hl4];omega),A4 (by simp [hl,hl4];omega)];simp [A5q]
theorem C7r{a:List Int}(h:Byt a)(i:Nat):Byt (a.take i):=fun x hx=>h x (A1M hx)
def far(c:C7m)(off:Int):C7m:=if 0<=off/\off<=(c.2.1.length:Int) then (if off=(c.2.1.length:Int) then (c.1,c.2.1,4,off) else (c.1,c.2.1,3,off)) else (c.1,c.2.1,6,c.2.2.2)
theorem C1I(t:E0)(h:t.2.length<=maxLen):∃ b,A2v t=some (b,()):=by
  obtain ⟨z,e,_⟩:=B4m (A1S A6j t) (fun l=>((t.2.length:Int)-l.2.1).toNat) (fun l=>0<=l.2.1) (fun _=>True) (fun l hl=>by
    simp only [A1S];by_cases hi:l.2.1<(t.2.length:Int)
    · simp only [A4 hi,A4 hl,B6,A6j,B3o,B1]
      rw [w64 (n:=l.2.1+1) (by omega) (by simp only [maxLen] at h;omega)];exact .inl ⟨_,rfl,by simp only;omega,by simp only;omega⟩
    · simp only [B7 hi,B0]
      exact .inr ⟨_,rfl,trivial⟩) (0,0,()) (by simp)
  exact ⟨z.1,e⟩
theorem C0C(t:E0)(h:t.2.length<=maxLen):∃ b,V9 t=some (b,()):=by
  obtain ⟨b,hb⟩:=C1I t h;simp only [V9,A5P,A1i,B1,hb];cases decide (0<=t.1/\t.1<=4096)<;>exact ⟨_,rfl⟩
theorem B39(xs:List Int):(strOf xs).size=xs.length:=strOfNums_size xs
theorem C7s(a b:X0):(a++b).size=a.size+b.size:=A0w
theorem C1J(k:Int)(h:k<4611686018427387904):∃ s,T2 k=some (s,()):=by
  simp only [T2,B05];by_cases h0:k<=0
  · rw [A4 h0];exact ⟨_,rfl⟩
  rw [B7 h0];obtain ⟨z,e,hz⟩:=B4m A6o (fun l=>l.1.toNat) (fun l=>0<=l.1/\(l.2.1.size:Int)+l.1<=k) (fun z=>(z.1.size:Int)<=k) (fun l hl=>by
    obtain ⟨n,out,u⟩:=l;simp only at hl ⊢;simp only [A6o];by_cases hp:n>0
    · refine .inl ⟨(n.tdiv 10,strOf [u8.wrap (i64.wrap (48+n.tmod 10))]++out,()),?_,?_,?_⟩
      · rw [A4 hp]
        simp only [B6];rw [B7 (by rw [B39];simp [IntKind.max,IntKind.signed,IntKind.bits];omega)];simp only [B0];rw [w64 (n:=n.tdiv 10) (by rw [N0 (by omega)];omega) (by rw [N0 (by omega)];omega)]
      · simp only
        rw [C7s,B39,N0 (by omega)];simp only [G5];omega
      · simp only
        rw [N0 (by omega)];omega
    · rw [B7 hp]
      exact .inr ⟨_,rfl,by simp only;omega⟩) (k,⟨#[]⟩,()) (by
      constructor
      · simp only;omega
      · show ((0:Nat):Int)+k<=k
        omega)
  rw [e];simp only [B1,B0];have h1:(⟨#[109]⟩:X0).size=1:=rfl;rw [B7 (by rw [h1];simp [IntKind.max,IntKind.signed,IntKind.bits];omega)];exact ⟨_,rfl⟩
noncomputable def mt(k:Int):X0:=match T2 k with
  | some (s,_)=>s
  | none=>⟨#[]⟩
theorem A7m(k:Int)(h:k<4611686018427387904):T2 k=some (mt k,()):=by
  obtain ⟨s,hs⟩:=C1J k h;unfold mt;rw [hs]
theorem wrap_u8(x:Int):0<=u8.wrap x/\u8.wrap x<256:=by
  simp only [IntKind.wrap,IntKind.bits,IntKind.signed];simp;omega
theorem A0W{a b:List Int}(ha:Byt a)(hb:Byt b):Byt (a++b):=fun x hx=>(C9.1 hx).elim (ha x) (hb x)
theorem C4d(n:Int)(k:Nat):Byt (big n k):=by
  intro x hx;obtain ⟨j,_,rfl⟩:=D0.1 hx;exact wrap_u8 _
theorem C1K(s:X0):Byt (bytesOf s):=by
  intro x hx;obtain ⟨b,_,rfl⟩:=D0.1 hx;have:=b.toNat_lt;omega
theorem C7t{a:List Int}(h:Byt a)(i:Nat):Byt (a.drop i):=fun x hx=>h x (R8 hx)
def B6K(op:Int):Int:=if op=1 then 1000000000 else if op=3 then 1000000000 else if op=4 then 4294967295 else 0
def A8Q(r:A3L):Bool:=decide (1<=r.1/\r.1<=6)&&idB r.2.1&&decide (0<=r.2.2/\r.2.2<=B6K r.1)
theorem B7a(r:A3L)(h:r.2.1.size<=maxLen):A92 r=some (A8Q r,()):=by
  simp only [A92,B4j,A1i,C7p _ h,B1,A8Q,B1A,B19,B6K];cases decide (1<=r.1/\r.1<=6)
  · rfl
  cases idB r.2.1
  · rfl
  simp only [H4,B0,V6,A2c];have hz:decide (0<=r.2.2/\r.2.2<=0)=decide (r.2.2=0):=by
    by_cases h0:r.2.2=0
    · rw [A4 h0,A4 (by omega)]
    · rw [B7 h0,B7 (by omega)]
  by_cases h1:r.1=1
  · simp [h1]
  by_cases h3:r.1=3
  · simp [h3]
  by_cases h4:r.1=4
  · simp [h4]
  simp [h1,h3,h4];rw [Bool.eq_iff_iff];simp;omega
theorem B7b(r:A3L)(h:r.2.1.size<=maxLen):A9C r=some (A8Q r,()):=by
  simp only [A9C,B4l,B06,C9b _ h,B1,A8Q,A0h,A5o,B6K];by_cases h1:r.1=1
  · simp [h1];cases idB r.2.1<;>simp
  by_cases h3:r.1=3
  · simp [h3];cases idB r.2.1<;>simp
  by_cases h4:r.1=4
  · simp [h4];cases idB r.2.1<;>simp
  simp only [B7 h1,B7 h3,B7 h4,D6 h1,D6 h3,D6 h4,B0];cases decide (1<=r.1/\r.1<=6)<;>cases idB r.2.1<;>simp
set_option maxRecDepth 100000
def lensT:List Int:= [13,23,28,28,28,28,28,28,28,24,30,28,28,30,28,28,28,28,28,28,28,28,30,28,28,28,28,28,28,28,28,28,6,10,10,12,13,6,8,11,10,10,8,11,8,6,6,6,5,5,5,6,6,6,6,6,6,6,7,8,15,6,12,10,13,6,7,7,7,7,7,7,7,7,7,7,7,7,7,7,7,7,7,7,7,7,7,7,8,7,8,13,19,13,14,6,15,5,6,5,6,5,6,6,6,5,7,7,6,6,6,5,6,7,6,5,5,6,7,7,7,7,7,15,11,14,13,28,20,22,20,20,22,22,22,23,22,23,23,23,23,23,24,23,24,24,22,23,24,23,23,23,23,21,22,23,22,23,23,24,22,21,20,22,22,23,23,21,23,22,22,24,21,22,23,23,21,21,22,21,23,22,23,23,20,22,22,22,23,22,22,23,26,26,20,19,22,23,22,25,26,26,26,27,27,26,24,25,19,21,26,27,27,26,27,24,21,21,26,26,28,27,27,27,20,24,20,21,22,21,21,23,22,22,25,25,24,24,26,23,26,27,26,26,27,27,27,27,27,28,27,27,27,27,27,26,30]
theorem B5h:A9i=some (lensT,()):=rfl
theorem R0:lensT.length=257:=by kernel_rfl
theorem C5g:(lensT.all fun x=>decide (5<=x)&&decide (x<=30))=true:=by kernel_rfl
theorem u64_nonneg(x:Int):¬ (u64.wrap x<0):=by
  simp only [IntKind.wrap,IntKind.bits,IntKind.signed,A76];simp;omega
def cst(n:Int)(st:Int×Int×List Int)(sym:Nat):Int×Int×List Int:=
  if (lensT.getD sym 0)=n then
    (let code:=if st.2.1>0 then i64.wrap ((i64.wrap (st.1+1))*2 ^ (min (u64.wrap (i64.wrap (n-st.2.1))).toNat i64.bits)) else st.1
     (code,n,st.2.2.set sym code)) else st
def B2Q(n:Int)(st:Int×Int×List Int):Nat->Int×Int×List Int
  | 0=>st
  | k+1=>cst n (B2Q n st k) k
def lvl(st:Int×Int×List Int):Nat->Int×Int×List Int
  | 0=>st
  | k+1=>B2Q ((k:Int)+1) (lvl st k) 257
def C7u(b:Int×Int×List Int):List Int:=(lvl b 30).2.2
theorem C1L(b:Int×Int×List Int):C7u b=(lvl b 30).2.2:=rfl
def codesT:List Int:=C7u (0,0,List.replicate 257 0)
theorem C9c(n:Int)(st:Int×Int×List Int)(sym:Nat):(cst n st sym).2.2.length=st.2.2.length:=by
  unfold cst;split<;>simp
theorem B7c(n:Int)(st:Int×Int×List Int):∀ k,(B2Q n st k).2.2.length=st.2.2.length
  | 0=>rfl
  | k+1=>by rw [B2Q,C9c,B7c n st k]
theorem C0D(st:Int×Int×List Int):∀ k,(lvl st k).2.2.length=st.2.2.length
  | 0=>rfl
  | k+1=>by rw [lvl,B7c,C0D st k]
theorem C9d{xs:List Int}{i:Nat}:rd (.int .i64) xs (i:Int)=xs.getD i 0:=by
  simp [rd,zd]
theorem C3O(c l s n:Int)(o:List Int)(ho:o.length=257)(hn:n<1000)(hn0:0<=n)(a b d:Int)(e:List Int) :
    G4 (A2C (lensT,()) (a,b,n,e,())) (c,l,0,o,())=some (.inl ((B2Q n (c,l,o) 257).1,(B2Q n (c,l,o) 257).2.1,n+1,(B2Q n (c,l,o) 257).2.2,())):=by
  have hl:∀ k,(B2Q n (c,l,o) k).2.2.length=257:=fun k=>by rw [B7c];exact ho
  refine I2 (A2C (lensT,()) (a,b,n,e,())) (fun k=>((B2Q n (c,l,o) k).1,(B2Q n (c,l,o) k).2.1,(k:Int),(B2Q n (c,l,o) k).2.2,())) 257 _ (fun k hk=>?_) ?_
  · have h1:(k:Int)<=256:=by omega
    have h2:(0:Int)<=(k:Int):=by omega
    have h3:(k:Int)<(lensT.length:Int):=by rw [R0];omega
    have h4:(k:Int)<((B2Q n (c,l,o) k).2.2.length:Int):=by rw [hl];omega
    have h5:i64.wrap ((k:Int)+1)=((k+1:Nat):Int):=by rw [w64 (by omega) (by omega)];omega
    simp only [A2C,A4 h1,A4 h2,A4 h3,A4 h4,B6,C9d,h5,B7 (u64_nonneg _),B0,E7,B1];have e1:B2Q n (c,l,o) (k+1)=cst n (B2Q n (c,l,o) k) k:=rfl;rw [e1];unfold cst;by_cases hq:lensT.getD k 0=n
    · simp only [hq,A3K,H4,B0,Q7]
      by_cases hg:(B2Q n (c,l,o) k).2.1>0
      · simp only [A4 hg,B6,G0 hg]
      · simp only [B7 hg,B0,D6 hg]
    · simp only [B7 hq,A77,B6,D6 hq]
  · have h1:¬ ((257:Nat):Int)<=256:=by omega
    simp only [A2C,B7 h1,B0];rw [w64 (by omega) (by omega)]
theorem C0E:A5Q=some (codesT,()):=by
  show A5Q=some (C7u (0,0,List.replicate 257 0),());rw [C1L];simp only [A5Q,B1B,B5h,B1];have hl:∀ k,(lvl (0,0,List.replicate 257 0) k).2.2.length=257:=fun k=>by rw [C0D];simp
  refine I2 (A4l (lensT,())) (fun k=>((lvl (0,0,List.replicate 257 0) k).1,(lvl (0,0,List.replicate 257 0) k).2.1,((k:Int)+1),(lvl (0,0,List.replicate 257 0) k).2.2,())) 30 _ (fun k hk=>?_) ?_
  · have h1:(k:Int)+1<=30:=by omega
    simp only [A4l,A4 h1,B6];rw [C3O _ _ 0 _ _ (hl k) (by omega) (by omega) _ _ 0 _];simp only [lvl]
    congr 4
  · have h1:¬ ((30:Nat):Int)+1<=30:=by omega
    simp only [A4l,B7 h1,B0]
theorem A32:codesT.length=257:=by
  show (C7u (0,0,List.replicate 257 0)).length=257;rw [C1L,C0D];simp
set_option maxRecDepth 100000
def lensS:X0:=⟨#[49,51,32,50,51,32,50,56,32,50,56,32,50,56,32,50,56,32,50,56,32,50,56,32,50,56,32,50,52,32,51,48,32,50,56,32,50,56,32,51,48,32,50,56,32,50,56,32,50,56,32,50,56,32,50,56,32,50,56,32,50,56,32,50,56,32,51,48,32,50,56,32,50,56,32,50,56,32,50,56,32,50,56,32,50,56,32,50,56,32,50,56,32,50,56,32,54,32,49,48,32,49,48,32,49,50,32,49,51,32,54,32,56,32,49,49,32,49,48,32,49,48,32,56,32,49,49,32,56,32,54,32,54,32,54,32,53,32,53,32,53,32,54,32,54,32,54,32,54,32,54,32,54,32,54,32,55,32,56,32,49,53,32,54,32,49,50,32,49,48,32,49,51,32,54,32,55,32,55,32,55,32,55,32,55,32,55,32,55,32,55,32,55,32,55,32,55,32,55,32,55,32,55,32,55,32,55,32,55,32,55,32,55,32,55,32,55,32,55,32,56,32,55,32,56,32,49,51,32,49,57,32,49,51,32,49,52,32,54,32,49,53,32,53,32,54,32,53,32,54,32,53,32,54,32,54,32,54,32,53,32,55,32,55,32,54,32,54,32,54,32,53,32,54,32,55,32,54,32,53,32,53,32,54,32,55,32,55,32,55,32,55,32,55,32,49,53,32,49,49,32,49,52,32,49,51,32,50,56,32,50,48,32,50,50,32,50,48,32,50,48,32,50,50,32,50,50,32,50,50,32,50,51,32,50,50,32,50,51,32,50,51,32,50,51,32,50,51,32,50,51,32,50,52,32,50,51,32,50,52,32,50,52,32,50,50,32,50,51,32,50,52,32,50,51,32,50,51,32,50,51,32,50,51,32,50,49,32,50,50,32,50,51,32,50,50,32,50,51,32,50,51,32,50,52,32,50,50,32,50,49,32,50,48,32,50,50,32,50,50,32,50,51,32,50,51,32,50,49,32,50,51,32,50,50,32,50,50,32,50,52,32,50,49,32,50,50,32,50,51,32,50,51,32,50,49,32,50,49,32,50,50,32,50,49,32,50,51,32,50,50,32,50,51,32,50,51,32,50,48,32,50,50,32,50,50,32,50,50,32,50,51,32,50,50,32,50,50,32,50,51,32,50,54,32,50,54,32,50,48,32,49,57,32,50,50,32,50,51,32,50,50,32,50,53,32,50,54,32,50,54,32,50,54,32,50,55,32,50,55,32,50,54,32,50,52,32,50,53,32,49,57,32,50,49,32,50,54,32,50,55,32,50,55,32,50,54,32,50,55,32,50,52,32,50,49,32,50,49,32,50,54,32,50,54,32,50,56,32,50,55,32,50,55,32,50,55,32,50,48,32,50,52,32,50,48,32,50,49,32,50,50,32,50,49,32,50,49,32,50,51,32,50,50,32,50,50,32,50,53,32,50,53,32,50,52,32,50,52,32,50,54,32,50,51,32,50,54,32,50,55,32,50,54,32,50,54,32,50,55,32,50,55,32,50,55,32,50,55,32,50,55,32,50,56,32,50,55,32,50,55,32,50,55,32,50,55,32,50,55,32,50,54,32,51,48]⟩
def lensP:List (List UInt8):=Lib.splitK [32] 0 (Lib.count lensS.data.toList [32]) lensS.data.toList
theorem C7v:(lensP.map Lib.atoi)=lensT.map some:=by kernel_rfl
theorem C7w:(lensP.all fun x=>Nat.ble x.length 18)=true:=by kernel_rfl
theorem C1M:(Lib.splitB ⟨#[32]⟩ 0 (Lib.countB lensS ⟨#[32]⟩) lensS).map (·.data.toList)=lensP:=by
  rw [Lib.splitB_data];rfl
theorem C5h(s:X0)(P:List (List UInt8))(hs:s.size<4294967281)(h0:(Lib.splitB ⟨#[32]⟩ 0 (Lib.countB s ⟨#[32]⟩) s).map (·.data.toList)=P)(hP:(P.map Lib.atoi)=lensT.map some)(hz:(P.all fun x=>Nat.ble x.length 18)=true) :
    ∃ c:List X0,A4h s ⟨#[32]⟩=some (c,())/\c.length=257/\∀ k (h:k<c.length),A9O c[k]=some (lensT.getD k 0,(),()):=by
  have h1:(decide (s.size<4294967281)&&decide (1<=(⟨#[32]⟩:X0).size))=true:=by
    rw [A4 hs];rfl
  refine ⟨_,by simp only [A4h,h1,B6];rfl,?_,fun k hk=>?_⟩
  · have:=Q9 List.length h0
    rw [N1] at this;rw [this];have h2:=Q9 List.length hP;rw [N1,N1,R0] at h2;exact h2
  · generalize hc:Lib.splitB ⟨#[32]⟩ 0 (Lib.countB s ⟨#[32]⟩) s=c at *
    have e:=h0;have hk2:k<P.length:=by rw [<- e,N1];exact hk
    have e1:(c[k]).data.toList=P[k]:=by
      have:(c.map (·.data.toList))[k]? = P[k]?:=by rw [e]
      rw [J8,C0 hk,C0 hk2] at this;simpa using this
    have e2:Lib.atoi P[k]=some (lensT.getD k 0):=by
      have:(P.map Lib.atoi)[k]? = (lensT.map some)[k]?:=by rw [hP]
      rw [J8,C0 hk2,J8] at this;cases hq:lensT[k]? with
      | none=>rw [hq] at this;cases this
      | some v=>
        rw [hq] at this;simp only [L7,H5] at this;rw [this,C2,hq];rfl
    have e3:(c[k]).size<=18:=by
      have h4:=C8.1 hz P[k] (K7 hk2);have h5:=D5 h4;rw [<- e1] at h5;exact h5
    simp only [A9O,A4 e3,B6,e1,e2]
theorem C80:lensS.size<4294967281:=by
  have:Nat.ble (lensS.size+1) 4294967281=true:=by kernel_rfl
  exact D5 this
theorem C81:∃ c:List X0,A4h lensS ⟨#[32]⟩=some (c,())/\c.length=257/\∀ k (h:k<c.length),A9O c[k]=some (lensT.getD k 0,(),()):=
  C5h lensS lensP C80 C1M C7v C7w
set_option maxRecDepth 100000
def szs(r:List (Int×Int)):Nat->List (Int×Int)
  | 0=>r
  | k+1=>(szs r k).set k (((szs r k).getD k (0,0)).1,lensT.getD k 0)
theorem C4e(r:List (Int×Int)):∀ k,(szs r k).length=r.length
  | 0=>rfl
  | k+1=>by rw [szs,V4,C4e r k]
theorem C9e:szs (List.replicate 257 (0,0)) 257=lensT.map fun n=>(0,n):=by kernel_rfl
def ist(n:Int)(st:Int×List (Int×Int))(sym:Nat):Int×List (Int×Int):=
  if (st.2.getD sym (0,0)).2=n then (i64.wrap (st.1+1),st.2.set sym (st.1,(st.2.getD sym (0,0)).2)) else st
def B4n(n:Int)(st:Int×List (Int×Int)):Nat->Int×List (Int×Int)
  | 0=>st
  | k+1=>ist n (B4n n st k) k
def B4o(st:Int×List (Int×Int)):Nat->Int×List (Int×Int)
  | 0=>st
  | k+1=>B4n ((k:Int)+1) (i64.wrap ((B4o st k).1*2),(B4o st k).2) 257
theorem C9f(n:Int)(st:Int×List (Int×Int))(sym:Nat):(ist n st sym).2.length=st.2.length:=by
  unfold ist;split<;>simp
theorem B7d(n:Int)(st:Int×List (Int×Int)):∀ k,(B4n n st k).2.length=st.2.length
  | 0=>rfl
  | k+1=>by rw [B4n,C9f,B7d n st k]
theorem C1N(st:Int×List (Int×Int)):∀ k,(B4o st k).2.length=st.2.length
  | 0=>rfl
  | k+1=>by rw [B4o,B7d,C1N st k]
def C1O(a:Int×List (Int×Int)):List (Int×Int):=(B4o a 30).2
theorem C5i(a:Int×List (Int×Int)):C1O a=(B4o a 30).2:=rfl
def D0l:List (Int×Int):=C1O (0,lensT.map fun n=>(0,n))
def C1P(n:Int)(a:Int×List (Int×Int))(b:Int×Int×List Int):Prop:=
  a.2=b.2.2.zip lensT/\b.2.2.length=257/\((b.2.1=0/\b.1=0/\a.1=0)\/(1<=b.2.1/\b.2.1<=n/\a.1=i64.wrap ((b.1+1)*2 ^ (n-b.2.1).toNat)))
theorem C1Q(x y:Int):i64.wrap (i64.wrap x*y)=i64.wrap (x*y):=by
  simp only [A9N];generalize hq:(x+9223372036854775808) / 18446744073709551616=q;have e:(x+9223372036854775808) % 18446744073709551616-9223372036854775808=x-18446744073709551616*q:=by omega
  rw [e,Int.sub_mul,Int.mul_assoc];generalize x*y=z;generalize q*y=r;omega
theorem C9g{xs ys:List Int}{k:Nat}{c:Int}(h:k<ys.length):(xs.zip ys).set k (c,ys.getD k 0)=(xs.set k c).zip ys:=by
  refine A4c (by simp) fun i h1 h2=>?_
  simp only [List.getElem_set,List.getElem_zip];split
  · rename_i e
    subst e;rw [C2,C0 h];rfl
  · rfl
theorem C9h{xs:List Int}{k:Nat}(hx:xs.length=257)(hk:k<257):((xs.zip lensT).getD k (0,0)).2=lensT.getD k 0:=by
  have h1:k<(xs.zip lensT).length:=by rw [A0j,hx,R0];omega
  have h2:k<lensT.length:=by rw [R0];exact hk
  rw [C2,C2,C0 h1,C0 h2];simp
theorem C82{n:Int}(hn:1<=n/\n<=30){a:Int×List (Int×Int)}{b:Int×Int×List Int}(h:C1P n a b){k:Nat}(hk:k<257):C1P n (ist n a k) (cst n b k):=by
  obtain ⟨c,tab⟩:=a;obtain ⟨code,p,codes⟩:=b;obtain ⟨h1,h2,h3⟩:=h;simp only at h1 h2 h3;subst h1;have hg:=C9h h2 hk;unfold ist cst;simp only [hg];by_cases hq:lensT.getD k 0=n
  case neg=>rw [D6 hq,D6 hq];exact ⟨rfl,h2,h3⟩
  rw [G0 hq,G0 hq];have hc:(if p>0 then i64.wrap (i64.wrap (code+1)*2 ^ (min (u64.wrap (i64.wrap (n-p))).toNat i64.bits)) else code)=c:=by
    rcases h3 with ⟨e1,e2,e3⟩ | ⟨e1,e2,e3⟩
    · rw [D6 (by omega),e2,e3]
    · rw [G0 (by omega),w64 (n:=n-p) (by omega) (by omega),C1Q,e3]
      have e4:min (u64.wrap (n-p)).toNat i64.bits=(n-p).toNat:=by
        simp only [IntKind.wrap,IntKind.bits,IntKind.signed,A76];simp;omega
      rw [e4]
  simp only [hc];refine ⟨?_,by simpa using h2,.inr ⟨hn.1,A5e _,by simp⟩⟩;rw [<- C9g (by rw [R0];exact hk),hq]
theorem C4f{n:Int}(hn:1<=n/\n<=30){a:Int×List (Int×Int)}{b:Int×Int×List Int}(h:C1P n a b):∀ k,k<=257->C1P n (B4n n a k) (B2Q n b k)
  | 0,_=>h
  | k+1,hk=>C82 hn (C4f hn h k (by omega)) (by omega)
theorem C4g{a:Int×List (Int×Int)}{b:Int×Int×List Int}(h:C1P 0 a b):∀ k:Nat,k<=30->C1P (k:Int) (B4o a k) (lvl b k)
  | 0,_=>h
  | k+1,hk=>by
    obtain ⟨h1,h2,h3⟩:=C4g h k (by omega);refine C4f (by omega) (a:=(i64.wrap ((B4o a k).1*2),(B4o a k).2)) ⟨h1,h2,?_⟩ 257 (C6 _);rcases h3 with ⟨e1,e2,e3⟩ | ⟨e1,e2,e3⟩
    · exact .inl ⟨e1,e2,by simp only [e3];rfl⟩
    · refine .inr ⟨e1,by omega,?_⟩
      simp only [e3];rw [C1Q,show (((k+1:Nat):Int)-(lvl b k).2.1).toNat=((k:Int)-(lvl b k).2.1).toNat+1 by omega,Int.pow_succ,Int.mul_assoc]
theorem C1R:∀ xs:List Int,(xs.map fun n=>((0:Int),n))=(List.replicate xs.length (0:Int)).zip xs
  | []=>rfl
  | x::xs=>by simp only [G3,G9,T1,List.zip_cons_cons,C1R xs]
theorem C5j{a:Int×List (Int×Int)}{b:Int×Int×List Int}(h:C1P 0 a b):C1O a=(C7u b).zip lensT:=(C4g h 30 (C6 _)).1
theorem D1k:C1P 0 (0,lensT.map fun n=>(0,n)) (0,0,List.replicate 257 0):=⟨by have h:=C1R lensT;rw [R0] at h;exact h,U7,.inl ⟨rfl,rfl,rfl⟩⟩
theorem C5k:D0l=codesT.zip lensT:=C5j D1k
theorem C1S{xs:List (Int×Int)}{i:Nat}:rd A16 xs (i:Int)=xs.getD i (0,0):=by
  simp [rd,zd]
theorem C3P(c n:Int)(o:List (Int×Int))(ho:o.length=257)(hn:n<1000)(hn0:0<=n)(a:Int)(e:List (Int×Int)) :
    G4 (A2F (a,n,e,())) (c,0,o,())=some (.inl ((B4n n (c,o) 257).1,n+1,(B4n n (c,o) 257).2,())):=by
  have hl:∀ k,(B4n n (c,o) k).2.length=257:=fun k=>by rw [B7d];exact ho
  refine I2 (A2F (a,n,e,())) (fun k=>((B4n n (c,o) k).1,(k:Int),(B4n n (c,o) k).2,())) 257 _ (fun k hk=>?_) ?_
  · have h1:(k:Int)<257:=by omega
    have h2:(0:Int)<=(k:Int):=by omega
    have h5:i64.wrap ((k:Int)+1)=((k+1:Nat):Int):=by rw [w64 (by omega) (by omega)];omega
    simp only [A2F,A4 h1,A4 h2,B6,C1S,h5,E7];have e1:B4n n (c,o) (k+1)=ist n (B4n n (c,o) k) k:=rfl;rw [e1];unfold ist;by_cases hq:((B4n n (c,o) k).2.getD k (0,0)).2=n
    · simp only [A4 hq,B6,G0 hq]
    · simp only [B7 hq,B0,D6 hq]
  · have h1:¬ ((257:Nat):Int)<257:=by omega
    simp only [A2F,B7 h1,B0];rw [w64 (by omega) (by omega)]
theorem C0F(a:Int×List (Int×Int))(ha:a.2.length=257):G4 (A0r) (a.1,1,a.2,())=some (C1O a,()):=by
  have hl:∀ k,(B4o a k).2.length=257:=fun k=>by rw [C1N,ha]
  rw [C5i];refine I2 A0r (fun k=>((B4o a k).1,((k:Int)+1),(B4o a k).2,())) 30 _ (fun k hk=>?_) ?_
  · have h1:(k:Int)+1<=30:=by omega
    simp only [A0r,A4 h1,B6];rw [C3P _ _ _ (hl k) (by omega) (by omega)];simp only [B4o]
    congr 4
  · have h1:¬ ((30:Nat):Int)+1<=30:=by omega
    simp only [A0r,B7 h1,B0]
theorem C0G:A5V=some (codesT.zip lensT,()):=by
  obtain ⟨c,hc,hcl,hca⟩:=C81;rw [<- C5k];show A5V=some (C1O (0,lensT.map fun n=>(0,n)),());have e0:A5V=B1 (B1 (A4h lensS ⟨#[32]⟩) fun c7=>G4 (A0q A9O c7) (0,(List.replicate 257 (0,0)),())) fun (m1:List A2A×Unit)=>G4 (A0r) (0,1,m1.1,()):=rfl
  rw [e0,hc];have f1:G4 (A0q A9O (c,())) (0,(List.replicate 257 (0,0)),())=some (lensT.map fun n=>(0,n),()):=by
    have hl:∀ k,(szs (List.replicate 257 (0,0)) k).length=257:=fun k=>by rw [C4e];simp
    refine I2 (A0q A9O (c,())) (fun k=>((k:Int),szs (List.replicate 257 (0,0)) k,())) 257 _ (fun k hk=>?_) ?_
    · have h1:(k:Int)<257:=by omega
      have h2:(0:Int)<=(k:Int):=by omega
      have h3:(k:Int)<(c.length:Int):=by rw [hcl];omega
      have h5:i64.wrap ((k:Int)+1)=((k+1:Nat):Int):=by rw [w64 (by omega) (by omega)];omega
      have h6:rd .str c (k:Int)=c[k]'(by omega):=A4O (k:=.str) (by omega);simp only [A0q,A4 h1,A4 h2,A4 h3,B6,h6,hca k (by omega),B1,C1S,h5,E7];rfl
    · have h1:¬ ((257:Nat):Int)<(c.length:Int):=by rw [hcl];omega
      simp only [A0q,B7 h1,B0,C9e]
  simp only [B1,f1];exact C0F (0,lensT.map fun n=>(0,n)) (by simp only [N1,R0])
set_option maxRecDepth 100000
theorem gA{R:Type}{n:Nat}{X:Option R}(h:n<=140737488355328):(bif decide (n<=9223372036854775807) then bif decide (n*1<=140737488355328) then X else none else none)=X:=by
  rw [A4 (by omega),A4 (by omega)];rfl
theorem C3Q{R:Type}{n:Nat}{X:Option R}(h:n<=1000000000000):(bif decide (n<=9223372036854775807) then bif decide (n*32<=140737488355328) then X else none else none)=X:=by
  rw [A4 (by omega),A4 (by omega)];rfl
theorem D0m{R:Type}{n:Nat}{X:Option R}(h:n<=1000000000000):(bif decide (n<=9223372036854775807) then bif decide (n*48<=140737488355328) then X else none else none)=X:=by
  rw [A4 (by omega),A4 (by omega)];rfl
theorem C83(k:IntKind)(x y:Int):bOr k x y=bOr k y x:=by
  unfold bOr;rw [BitVec.or_comm]
def more:Nat->Int->List Int
  | 0,v=> [u8.wrap v]
  | k+1,v=>if v>127 then u8.wrap (bOr .i64 (A6h .i64 v 127) 128)::more k (v.fdiv 128) else [u8.wrap v]
theorem C1T:∀ k v,(more k v).length<=k+1
  | 0,v=>by simp [more]
  | k+1,v=>by
    have:=C1T k (v.fdiv 128);simp only [more];split<;>simp<;>omega
theorem C1U:∀ k v,Byt (more k v)
  | 0,v=>fun x hx=>by rcases A6.1 hx with rfl;exact wrap_u8 _
  | k+1,v=>by
    have ih:=C1U k (v.fdiv 128);simp only [more];split
    · intro x hx
      rcases B4.1 hx with rfl | hx
      · exact wrap_u8 _
      · exact ih x hx
    · exact fun x hx=>by rcases A6.1 hx with rfl;exact wrap_u8 _
theorem B4p:∀ (k:Nat) (v:Int) (b:List Int),0<=v->v<128 ^ (k+1)->b.length+k+2<=140737488355328->
    ∃ v' ex,G4 S7 (v,b,())=some (v',b++ex,())/\ex ++ [u8.wrap v']=more k v/\ex.length<=k
  | 0,v,b,h0,h1,hb=>by
    have h1':v<128:=by simpa using h1
    have h2:¬ v>127:=by omega
    refine ⟨v,[],?_,rfl,by simp⟩;rw [N8];simp only [S7,B7 h2,B0,F4]
  | k+1,v,b,h0,h1,hb=>by
    by_cases h2:v>127
    · have h3:v.fdiv 128=v / 128:=Int.fdiv_eq_ediv_of_nonneg _ (by omega)
      obtain ⟨v',ex,e1,e2,e3⟩:=B4p k (v.fdiv 128) (b ++ [u8.wrap (bOr .i64 (A6h .i64 v 127) 128)]) (by omega) (by rw [h3];rw [Int.pow_succ] at h1;omega) (by simp;omega);refine ⟨v',u8.wrap (bOr .i64 (A6h .i64 v 127) 128)::ex,?_,?_,by simp;omega⟩
      · rw [N8]
        simp only [S7,A4 h2,B6];rw [gA (by simp;omega)];simp only [e1];simp
      · simp only [more,G0 h2,C7,e2]
    · refine ⟨v,[],?_,by simp only [more,D6 h2,F6],by simp⟩
      rw [N8];simp only [S7,B7 h2,B0,F4]
def pfx(M F v:Int):List Int:=if v<M then [u8.wrap (bOr .i64 F v)] else u8.wrap (bOr .i64 F M)::more 3 (v-M)
theorem A7n(M F v:Int):(pfx M F v).length<=5:=by
  unfold pfx;split
  · simp
  · have:=C1T 3 (v-M);simp;omega
theorem B6L(M F v:Int):Byt (pfx M F v):=by
  unfold pfx;split
  · exact fun x hx=>by rcases A6.1 hx with rfl;exact wrap_u8 _
  · intro x hx
    rcases B4.1 hx with rfl | hx
    · exact wrap_u8 _
    · exact C1U _ _ x hx
theorem C4h(n f M F v:Int)(b:List Int)(h1:¬ (u64.wrap n<0))(h2:i64.wrap (i64.wrap (1*2 ^ (min (u64.wrap n).toNat i64.bits))-1)=M)(h3:A10 .i64 f M=F)(h5:1<=n/\n<=8)(h6:0<=f/\f<=255)
    (hM:15<=M/\M<=127) (hv:0<=v/\v<=16777216) (hb:b.length+16<=140737488355328):A0n b n f v=some (b++pfx M F v,()):=by
  have a1:¬ v>16777216:=by omega
  have a2:¬ v<0:=by omega
  simp only [A0n,A89,A1i,A4 h5,A4 h6,B1,V6,H4,B0,B7 h1,h2,h3,B7 a1,B7 a2,F6];rw [gA (by simp;omega)];by_cases hq:v<M
  · rw [A4 hq,B6,gA (by simp;omega),pfx,G0 hq]
  · rw [B7 hq,B0,gA (by simp;omega),w64 (by omega) (by omega)]
    obtain ⟨v',ex,e1,e2,e3⟩:=B4p 3 (v-M) (b ++ [u8.wrap (bOr .i64 F M)]) (by omega) (by omega) (by simp;omega);rw [e1];simp only [B1];rw [gA (by simp;omega),pfx,D6 hq,<- e2];simp
theorem C4i(n f M F v:Int)(b:List Int)(h1:¬ (u64.wrap n<0))(h2:i64.wrap (i64.wrap (1*2 ^ (min (u64.wrap n).toNat i64.bits))-1)=M)(h3:A6h .i64 f (A10 .i64 255 M)=F)
    (hM:15<=M/\M<=127) (hv:0<=v/\v<=16777216) (hb:b.length+16<=140737488355328):A03 b n f v=some (b++pfx M F v,()):=by
  have a1:¬ 16777216<v:=by omega
  have a2:(bif decide (v>0) then v else 0)=v:=by
    by_cases h:v>0
    · rw [A4 h,B6]
    · rw [B7 h,B0];omega
  have e0:A5p=S7:=by
    funext l
    simp only [A5p,S7,C83 .i64 128]
  simp only [A03,A8G,B1,B7 h1,B0,h2,h3,B7 a1,a2,e0];by_cases hq:v<M
  · rw [A4 hq,B6,gA (by simp;omega),pfx,G0 hq]
  · rw [B7 hq,B0,gA (by simp;omega),w64 (by omega) (by omega)]
    obtain ⟨v',ex,e1,e2,e3⟩:=B4p 3 (v-M) (b ++ [u8.wrap (bOr .i64 F M)]) (by omega) (by omega) (by simp;omega);rw [e1];simp only [B1];rw [gA (by simp;omega),pfx,D6 hq,<- e2];simp
def Pf(n f M:Int):Prop:=∀ (v:Int) (b:List Int),0<=v->v<=16777216->b.length+16<=140737488355328->A0n b n f v=some (b++pfx M f v,())/\A03 b n f v=some (b++pfx M f v,())
theorem B47:Pf 7 128 127:=fun v b h0 h1 hb=>⟨C4h 7 128 127 128 v b (by decide) (by rfl) (by rfl) (by omega) (by omega) (by omega) ⟨h0,h1⟩ hb,C4i 7 128 127 128 v b (by decide) (by rfl) (by rfl) (by omega) ⟨h0,h1⟩ hb⟩
theorem C84:Pf 7 0 127:=fun v b h0 h1 hb=>⟨C4h 7 0 127 0 v b (by decide) (by rfl) (by rfl) (by omega) (by omega) (by omega) ⟨h0,h1⟩ hb,C4i 7 0 127 0 v b (by decide) (by rfl) (by rfl) (by omega) ⟨h0,h1⟩ hb⟩
theorem C9i:Pf 6 64 63:=fun v b h0 h1 hb=>⟨C4h 6 64 63 64 v b (by decide) (by rfl) (by rfl) (by omega) (by omega) (by omega) ⟨h0,h1⟩ hb,C4i 6 64 63 64 v b (by decide) (by rfl) (by rfl) (by omega) ⟨h0,h1⟩ hb⟩
theorem C9j:Pf 4 16 15:=fun v b h0 h1 hb=>⟨C4h 4 16 15 16 v b (by decide) (by rfl) (by rfl) (by omega) (by omega) (by omega) ⟨h0,h1⟩ hb,C4i 4 16 15 16 v b (by decide) (by rfl) (by rfl) (by omega) ⟨h0,h1⟩ hb⟩
set_option maxRecDepth 100000
def leA(s:X0)(k:Nat):Int:=lensT.getD (bt s k).toNat 0
def coA(s:X0)(k:Nat):Int:=codesT.getD (bt s k).toNat 0
theorem C3R(s:X0)(k:Int):(bt s k).toNat<257:=by have:=C1F s k;have:=B5d s k;omega
theorem B6M(s:X0)(k:Nat):5<=leA s k/\leA s k<=30:=by
  have h:=C8.1 C5g (leA s k) (by
    unfold leA;rw [C2,C0 (by rw [R0];exact C3R s k)];exact K7 _)
  simpa using h
theorem C85(s:X0)(k:Nat):rd (.int .i64) lensT (bt s k)=leA s k:=by
  simp [rd,zd,leA]
theorem C86(s:X0)(k:Nat):rd (.int .i64) codesT (bt s k)=coA s k:=by
  simp [rd,zd,coA]
theorem C4j(s:X0)(k:Nat)(xs:List (Int×Int))(hx:xs=codesT.zip lensT):rd A16 xs (bt s k)=(coA s k,leA s k):=by
  subst hx;have h1:(bt s k).toNat<codesT.length:=by rw [A32];exact C3R s k
  have h2:(bt s k).toNat<lensT.length:=by rw [R0];exact C3R s k
  have h3:(bt s k).toNat<(codesT.zip lensT).length:=by rw [A0j];omega
  unfold rd;rw [C2,C0 h3];simp [coA,leA,C2,C0 h1,C0 h2]
def dr:Nat->Int->Int->Int×Int×List Int
  | 0,v,n=>(v,n,[])
  | k+1,v,n=>if n>=8 then ((dr k (A6h .i64 v (i64.wrap ((i64.wrap (1*2 ^ (min (u64.wrap (n-8)).toNat i64.bits)))-1))) (n-8)).1,(dr k (A6h .i64 v (i64.wrap ((i64.wrap (1*2 ^ (min (u64.wrap (n-8)).toNat i64.bits)))-1))) (n-8)).2.1,
      u8.wrap (v.fdiv (2 ^ (min (u64.wrap (n-8)).toNat i64.bits)))::(dr k (A6h .i64 v (i64.wrap ((i64.wrap (1*2 ^ (min (u64.wrap (n-8)).toNat i64.bits)))-1))) (n-8)).2.2) else (v,n,[])
theorem D1E:∀ (k:Nat) (v n:Int),0<=n->n<8*(k+1)->(dr k v n).2.1=n % 8/\((dr k v n).2.2.length:Int)=n / 8
  | 0,v,n,h0,h1=>⟨by simp only [dr];omega,by simp only [dr,I1];omega⟩
  | k+1,v,n,h0,h1=>by
    by_cases h:n>=8
    · have:=D1E k (A6h .i64 v (i64.wrap ((i64.wrap (1*2 ^ (min (u64.wrap (n-8)).toNat i64.bits)))-1))) (n-8) (by omega) (by omega)
      simp only [dr,G0 h,G9];omega
    · simp only [dr,D6 h,I1]
      omega
theorem C4k(l0:Int×Int×Int×List Int×Unit):∀ (k:Nat) (v n:Int) (o:List Int),0<=n->n<8*(k+1)->n<1000->o.length+k+1<=140737488355328->
    G4 (A4E l0) (v,n,o,())=some (.inl ((dr k v n).1,(dr k v n).2.1,i64.wrap (l0.2.2.1+1),o++(dr k v n).2.2,()))
  | 0,v,n,o,h0,h1,h2,hb=>by
    have h:¬ n>=8:=by omega
    rw [N8];simp only [A4E,B7 h,B0,dr,F4]
  | k+1,v,n,o,h0,h1,h2,hb=>by
    rw [N8];by_cases h:n>=8
    · have e1:i64.wrap (n-8)=n-8:=w64 (by omega) (by omega)
      simp only [A4E,A4 h,B6,e1,B7 (u64_nonneg _),B0];rw [gA (by simp;omega)];simp only [];rw [C4k l0 k _ (n-8) _ (by omega) (by omega) (by omega) (by simp;omega)];simp only [dr,G0 h,A7,A0v,C7,F6]
    · simp only [A4E,B7 h,B0,dr,D6 h,F4]
theorem C87(l0:Int×Int×Int×List Int×Unit):B7T l0=A4E l0:=rfl
def hst(s:X0):Nat->Int×Int×List Int
  | 0=>(0,0,[])
  | k+1=>let d:=dr 5 (bOr .i64 (i64.wrap ((hst s k).1*2 ^ (min (u64.wrap (leA s k)).toNat i64.bits))) (coA s k)) ((hst s k).2.1+leA s k);(d.1,d.2.1,(hst s k).2.2++d.2.2)
def bits(s:X0):Nat->Int
  | 0=>0
  | k+1=>bits s k+leA s k
theorem A9D(s:X0):∀ k:Nat,0<=bits s k/\bits s k<=30*(k:Int)
  | 0=>⟨by simp [bits],by simp [bits]⟩
  | k+1=>by
    have:=A9D s k;have:=B6M s k;simp only [bits];omega
theorem C4l(s:X0):∀ k:Nat,(hst s k).2.1=bits s k % 8/\((hst s k).2.2.length:Int)=bits s k / 8
  | 0=>⟨by simp [hst,bits],by simp [hst,bits]⟩
  | k+1=>by
    have h1:=C4l s k;have h2:=B6M s k;have h3:=A9D s k;have h4:=D1E 5 (bOr .i64 (i64.wrap ((hst s k).1*2 ^ (min (u64.wrap (leA s k)).toNat i64.bits))) (coA s k)) ((hst s k).2.1+leA s k) (by omega) (by omega);simp only [hst,bits,A3];omega
theorem C4m(s:X0)(k:Nat)(h:k<=1000000000):(hst s k).2.2.length<=4000000000:=by
  have:=C4l s k;have:=A9D s k;omega
theorem C5l(s:X0)(a:List Int)(ha:a.length<=1000000000000)(hs:s.size<=1000000000)(k:Nat)(hk:k<s.size) :
    A02 s (lensT,()) (codesT,()) ((hst s k).1,(hst s k).2.1,(k:Int),a++(hst s k).2.2,())=some (.inl ((hst s (k+1)).1,(hst s (k+1)).2.1,((k+1:Nat):Int),a++(hst s (k+1)).2.2,())):=by
  have h1:(k:Int)<(s.size:Int):=by omega
  have h2:(0:Int)<=(k:Int):=by omega
  have h3:=C1F s k;have h4:bt s k<(lensT.length:Int):=by rw [R0];have:=B5d s k;omega
  have h5:bt s k<(codesT.length:Int):=by rw [A32];have:=B5d s k;omega
  have h6:=B6M s k;have h7:=C4l s k;have h8:=C4m s k (by omega);simp only [A02,A4 h1,A4 h2,A4 h3,A4 h4,A4 h5,B6,C85,C86,B7 (u64_nonneg _),B0];rw [w64 (n:=(hst s k).2.1+leA s k) (by omega) (by omega),C4k _ 5 _ _ _ (by omega) (by omega) (by omega) (by simp;omega),w64 (n:=(k:Int)+1) (by omega) (by omega)];simp only [hst,A7];rfl
theorem C3S(s:X0)(l:Int×Int×Int×List Int×Unit):A9t s (codesT.zip lensT) l=A02 s (lensT,()) (codesT,()) l:=by
  obtain ⟨v,n,k,o,u⟩:=l;simp only [A9t,A02];by_cases h1:k<(s.size:Int)
  · by_cases h2:0<=k
    · obtain ⟨k,rfl⟩:=Int.eq_ofNat_of_zero_le h2
      have h3:=C1F s k;have h4:bt s k<(lensT.length:Int):=by rw [R0];have:=B5d s k;omega
      have h5:bt s k<(codesT.length:Int):=by rw [A32];have:=B5d s k;omega
      have h6:bt s k<((codesT.zip lensT).length:Int):=by rw [A0j,A32,R0];have:=B5d s k;omega
      have h7:0<(codesT.zip lensT).length:=by rw [A0j,A32,R0];omega
      simp only [A4 h1,A4 h2,A4 h3,A4 h4,A4 h5,A4 h6,A4 h7,B6,C85,C86,C4j s k (codesT.zip lensT) rfl,C87]
    · simp only [B7 h2,B0]
  · simp only [B7 h1,B0]
def A12(s:X0):List Int:=
  if (hst s s.size).2.1>0 then (hst s s.size).2.2 ++ [u8.wrap (bOr .i64 (i64.wrap ((hst s s.size).1*2 ^ (min (u64.wrap (i64.wrap (8-(hst s s.size).2.1))).toNat i64.bits))) (i64.wrap ((i64.wrap (1*2 ^ (min (u64.wrap (i64.wrap (8-(hst s s.size).2.1))).toNat i64.bits)))-1)))] else (hst s s.size).2.2
theorem C5m(s:X0):((A12 s).length:Int)=(bits s s.size+7) / 8:=by
  have h:=C4l s s.size;have h2:=A9D s s.size;unfold A12;split
  · simp only [A3,G5]
    omega
  · omega
theorem C1V(s:X0)(a:List Int)(ha:a.length<=1000000000000)(hs:s.size<=1000000000) :
    (B1 (G4 (A02 s (lensT,()) (codesT,())) (0,0,0,a,())) fun (m2:Int×Int×List Int×Unit)=>bif (decide (m2.2.1>0)) then bif decide ((u64.wrap (i64.wrap (8-m2.2.1)))<0) then none else bif decide ((u64.wrap (i64.wrap (8-m2.2.1)))<0) then none else bif decide (m2.2.2.1.length+([(u8.wrap (bOr .i64 (i64.wrap (m2.1*2 ^ (min (u64.wrap (i64.wrap (8-m2.2.1))).toNat i64.bits))) (i64.wrap ((i64.wrap (1*2 ^ (min (u64.wrap (i64.wrap (8-m2.2.1))).toNat i64.bits)))-1))))]:List Int).length<=9223372036854775807) then bif decide ((m2.2.2.1.length+([(u8.wrap (bOr .i64 (i64.wrap (m2.1*2 ^ (min (u64.wrap (i64.wrap (8-m2.2.1))).toNat i64.bits))) (i64.wrap ((i64.wrap (1*2 ^ (min (u64.wrap (i64.wrap (8-m2.2.1))).toNat i64.bits)))-1))))]:List Int).length)*1<=140737488355328) then some ((m2.2.2.1 ++ [(u8.wrap (bOr .i64 (i64.wrap (m2.1*2 ^ (min (u64.wrap (i64.wrap (8-m2.2.1))).toNat i64.bits))) (i64.wrap ((i64.wrap (1*2 ^ (min (u64.wrap (i64.wrap (8-m2.2.1))).toNat i64.bits)))-1))))]),()) else none else none else some (m2.2.2.1,()))=some (a++A12 s,()):=by
  have h1:G4 (A02 s (lensT,()) (codesT,())) (0,0,0,a,())=some ((hst s s.size).1,(hst s s.size).2.1,a++(hst s s.size).2.2,()):=by
    have:=I2 (A02 s (lensT,()) (codesT,())) (fun k=>((hst s k).1,(hst s k).2.1,(k:Int),a++(hst s k).2.2,())) s.size ((hst s s.size).1,(hst s s.size).2.1,a++(hst s s.size).2.2,()) (fun k hk=>C5l s a ha hs k hk) (by
      have h:¬ ((s.size:Nat):Int)<(s.size:Int):=by omega
      simp only [A02,B7 h,B0])
    simpa [hst] using this
  have h8:=C4m s s.size (by omega);rw [h1];simp only [B1,B7 (u64_nonneg _),B0];by_cases h:(hst s s.size).2.1>0
  · rw [A4 h,B6,gA (by simp;omega),A12,G0 h]
    simp
  · rw [B7 h,B0,A12,D6 h]
theorem C5n(s:X0)(hs:s.size<=1000000000):B3q s=some (A12 s,()):=by
  have:=C1V s [] (by simp) hs;simp only [F6] at this;simp only [B3q,B7L,B5h,C0E,B1];exact this
theorem C5o(s:X0)(a:List Int)(ha:a.length<=1000000000000)(hs:s.size<=1000000000):B3w (codesT.zip lensT) a s=some (a++A12 s,()):=by
  simp only [B3w,B7U];rw [show A9t s (codesT.zip lensT)=A02 s (lensT,()) (codesT,()) from funext fun l=>C3S s l];exact C1V s a ha hs
theorem C0H(s:X0)(hs:s.size<=1000000000):A7g (codesT.zip lensT) s=some (((A12 s).length:Int),()):=by
  simp only [A7g,B1H];have h1:G4 (A2G s (codesT.zip lensT)) (0,0,())=some (bits s s.size,()):=by
    refine I2 (A2G s (codesT.zip lensT)) (fun k=>(bits s k,(k:Int),())) s.size _ (fun k hk=>?_) ?_
    · have h1:(k:Int)<(s.size:Int):=by omega
      have h2:(0:Int)<=(k:Int):=by omega
      have h3:=C1F s k;have h6:bt s k<((codesT.zip lensT).length:Int):=by rw [A0j,A32,R0];have:=B5d s k;omega
      have h7:0<(codesT.zip lensT).length:=by rw [A0j,A32,R0];omega
      have h8:=A9D s k;have h9:=B6M s k;simp only [A2G,A4 h1,A4 h2,A4 h3,A4 h6,A4 h7,B6,C4j s k (codesT.zip lensT) rfl];rw [w64 (by omega) (by omega),w64 (by omega) (by omega)];rfl
    · have h:¬ ((s.size:Nat):Int)<(s.size:Int):=by omega
      simp only [A2G,B7 h,B0]
  rw [h1];have h2:=A9D s s.size;simp only [B1];rw [w64 (n:=bits s s.size+7) (by omega) (by omega),C5m,N0 (by omega),w64 (by omega) (by omega)]
theorem C88:∀ (k:Nat) (v n:Int),Byt (dr k v n).2.2
  | 0,v,n=>fun x hx=>by simp [dr] at hx
  | k+1,v,n=>by
    by_cases h:n>=8
    · have ih:=C88 k (A6h .i64 v (i64.wrap ((i64.wrap (1*2 ^ (min (u64.wrap (n-8)).toNat i64.bits)))-1))) (n-8)
      simp only [dr,G0 h];intro x hx;rcases B4.1 hx with rfl | hx
      · exact wrap_u8 _
      · exact ih x hx
    · simp only [dr,D6 h]
      exact fun x hx=>by cases hx
theorem C0I(s:X0):∀ k,Byt (hst s k).2.2
  | 0=>fun x hx=>by simp [hst] at hx
  | k+1=>A0W (C0I s k) (C88 _ _ _)
theorem C5p(s:X0):Byt (A12 s):=by
  unfold A12;split
  · exact A0W (C0I s _) fun x hx=>by rcases A6.1 hx with rfl;exact wrap_u8 _
  · exact C0I s _
def B4q(s:X0):List Int:=if (A12 s).length<s.size then pfx 127 128 ((A12 s).length:Int)++A12 s else pfx 127 0 (s.size:Int)++bytesOf s
theorem C1W(s:X0):(B4q s).length<=s.size+5:=by
  unfold B4q;split
  · have:=A7n 127 128 ((A12 s).length:Int);simp only [A3];omega
  · have:=A7n 127 0 (s.size:Int);simp only [A3,bytesOf_length];omega
theorem B7e(s:X0):Byt (B4q s):=by
  unfold B4q;split
  · exact A0W (B6L _ _ _) (C5p s)
  · exact A0W (B6L _ _ _) (C1K s)
theorem B1N(s:X0)(a:List Int)(ha:a.length<=100000000000)(hs:s.size<=16777216):A2D a s=some (a++B4q s,()):=by
  simp only [A2D,A8A,C5n s (by omega),B1];by_cases h:(A12 s).length<s.size
  · have h':((A12 s).length:Int)<(s.size:Int):=by omega
    have hp:=A7n 127 128 ((A12 s).length:Int);rw [A4 h',B6,(B47 ((A12 s).length:Int) a (by omega) (by omega) (by omega)).1];simp only [];rw [gA (by simp only [A3];omega),B4q,G0 h,A7]
  · have h':¬ ((A12 s).length:Int)<(s.size:Int):=by omega
    have hp:=A7n 127 0 (s.size:Int);rw [B7 h',B0,(C84 (s.size:Int) a (by omega) (by omega) (by omega)).1];simp only [];rw [A4 (by simp only [A3];omega),B6,B4q,D6 h,A7]
theorem B1O(s:X0)(a:List Int)(ha:a.length<=100000000000)(hs:s.size<=16777216):A2H a s=some (a++B4q s,()):=by
  simp only [A2H,A8H,C0G,C0H s (by omega),B1];by_cases h:(A12 s).length<s.size
  · have h':((A12 s).length:Int)<(s.size:Int):=by omega
    have hp:=A7n 127 128 ((A12 s).length:Int);rw [A4 h',B6,(B47 ((A12 s).length:Int) a (by omega) (by omega) (by omega)).2];simp only [];rw [C5o s _ (by simp only [A3];omega) (by omega)];simp only [B4q,G0 h,A7]
  · have h':¬ ((A12 s).length:Int)<(s.size:Int):=by omega
    have hp:=A7n 127 0 (s.size:Int);rw [B7 h',B0,(C84 (s.size:Int) a (by omega) (by omega) (by omega)).2];simp only [];rw [A4 (by simp only [A3];omega),B6,B4q,D6 h,A7]
set_option maxRecDepth 100000
def fstS:X0:=⟨#[58,97,117,116,104,111,114,105,116,121,124,58,109,101,116,104,111,100,61,71,69,84,124,58,109,101,116,104,111,100,61,80,79,83,84,124,58,112,97,116,104,61,47,124,58,112,97,116,104,61,47,105,110,100,101,120,46,104,116,109,108,124,58,115,99,104,101,109,101,61,104,116,116,112,124,58,115,99,104,101,109,101,61,104,116,116,112,115,124,58,115,116,97,116,117,115,61,50,48,48,124,58,115,116,97,116,117,115,61,50,48,52,124,58,115,116,97,116,117,115,61,50,48,54,124,58,115,116,97,116,117,115,61,51,48,52,124,58,115,116,97,116,117,115,61,52,48,48,124,58,115,116,97,116,117,115,61,52,48,52,124,58,115,116,97,116,117,115,61,53,48,48,124,97,99,99,101,112,116,45,99,104,97,114,115,101,116,124,97,99,99,101,112,116,45,101,110,99,111,100,105,110,103,61,103,122,105,112,44,32,100,101,102,108,97,116,101,124,97,99,99,101,112,116,45,108,97,110,103,117,97,103,101,124,97,99,99,101,112,116,45,114,97,110,103,101,115,124,97,99,99,101,112,116,124,97,99,99,101,115,115,45,99,111,110,116,114,111,108,45,97,108,108,111,119,45,111,114,105,103,105,110,124,97,103,101,124,97,108,108,111,119,124,97,117,116,104,111,114,105,122,97,116,105,111,110,124,99,97,99,104,101,45,99,111,110,116,114,111,108,124,99,111,110,116,101,110,116,45,100,105,115,112,111,115,105,116,105,111,110,124,99,111,110,116,101,110,116,45,101,110,99,111,100,105,110,103,124,99,111,110,116,101,110,116,45,108,97,110,103,117,97,103,101,124,99,111,110,116,101,110,116,45,108,101,110,103,116,104,124,99,111,110,116,101,110,116,45,108,111,99,97,116,105,111,110,124,99,111,110,116,101,110,116,45,114,97,110,103,101,124,99,111,110,116,101,110,116,45,116,121,112,101,124,99,111,111,107,105,101,124,100,97,116,101,124,101,116,97,103,124,101,120,112,101,99,116,124,101,120,112,105,114,101,115,124,102,114,111,109,124,104,111,115,116,124,105,102,45,109,97,116,99,104,124,105,102,45,109,111,100,105,102,105,101,100,45,115,105,110,99,101,124,105,102,45,110,111,110,101,45,109,97,116,99,104,124,105,102,45,114,97,110,103,101,124,105,102,45,117,110,109,111,100,105,102,105,101,100,45,115,105,110,99,101,124,108,97,115,116,45,109,111,100,105,102,105,101,100,124,108,105,110,107,124,108,111,99,97,116,105,111,110,124,109,97,120,45,102,111,114,119,97,114,100,115,124,112,114,111,120,121,45,97,117,116,104,101,110,116,105,99,97,116,101,124,112,114,111,120,121,45,97,117,116,104,111,114,105,122,97,116,105,111,110,124,114,97,110,103,101,124,114,101,102,101,114,101,114,124,114,101,102,114,101,115,104,124,114,101,116,114,121,45,97,102,116,101,114,124,115,101,114,118,101,114,124,115,101,116,45,99,111,111,107,105,101,124,115,116,114,105,99,116,45,116,114,97,110,115,112,111,114,116,45,115,101,99,117,114,105,116,121,124,116,114,97,110,115,102,101,114,45,101,110,99,111,100,105,110,103,124,117,115,101,114,45,97,103,101,110,116,124,118,97,114,121,124,118,105,97,124,119,119,119,45,97,117,116,104,101,110,116,105,99,97,116,101]⟩
noncomputable def firstT:List B8:=match A7T with
  | some (x,_)=>x
  | none=> []
theorem C0J:A7T=some (firstT,()):=rfl
theorem B07:firstT.length=61:=rfl
def fstP:List (List UInt8):=Lib.splitK [124] 0 (Lib.count fstS.data.toList [124]) fstS.data.toList
theorem C89:(fstP.map fun x=>((Lib.cut x [61]).1,(Lib.cut x [61]).2.1))=firstT.map fun f=>(f.1.data.toList,f.2.data.toList):=by kernel_rfl
theorem C9k:(fstP.all fun x=>Nat.ble x.length 100)=true:=by kernel_rfl
theorem C3T:(Lib.splitB ⟨#[124]⟩ 0 (Lib.countB fstS ⟨#[124]⟩) fstS).map (·.data.toList)=fstP:=by
  rw [Lib.splitB_data];rfl
theorem C9l:fstS.size<4294967281:=by
  have:Nat.ble (fstS.size+1) 4294967281=true:=by kernel_rfl
  exact D5 this
theorem A3E{α β:Type}{f:α->Option (α⊕β)}{x y:α}(h:f x=some (.inl y)):G4 f x=G4 f y:=by rw [N8,h]
theorem D0A{l:List UInt8}{b:X0}(h:l=b.data.toList):(⟨l.toArray⟩:X0)=b:=by
  subst h;simp
theorem C5q(s:X0)(P:List (List UInt8))(F:List B8)(hs:s.size<4294967281)(h0:(Lib.splitB ⟨#[124]⟩ 0 (Lib.countB s ⟨#[124]⟩) s).map (·.data.toList)=P)
    (hP:(P.map fun x=>((Lib.cut x [61]).1,(Lib.cut x [61]).2.1))=F.map fun f=>(f.1.data.toList,f.2.data.toList)) (hz:(P.all fun x=>Nat.ble x.length 100)=true) :
    ∃ c:List X0,A4h s ⟨#[124]⟩=some (c,())/\c.length=F.length/\∀ k (h:k<c.length) (h2:k<F.length),∃ b,B6P c[k] ⟨#[61]⟩=some (F[k].1,F[k].2,b,()):=by
  have h1:(decide (s.size<4294967281)&&decide (1<=(⟨#[124]⟩:X0).size))=true:=by
    rw [A4 hs];rfl
  refine ⟨_,by simp only [A4h,h1,B6];rfl,?_,fun k hk hk3=>?_⟩
  · have:=Q9 List.length h0
    rw [N1] at this;rw [this];have h2:=Q9 List.length hP;rw [N1,N1] at h2;exact h2
  · generalize hc:Lib.splitB ⟨#[124]⟩ 0 (Lib.countB s ⟨#[124]⟩) s=c at *
    have e:=h0;have hk2:k<P.length:=by rw [<- e,N1];exact hk
    have e1:(c[k]).data.toList=P[k]:=by
      have:(c.map (·.data.toList))[k]? = P[k]?:=by rw [e]
      rw [J8,C0 hk,C0 hk2] at this;simpa using this
    have e2:((Lib.cut P[k] [61]).1,(Lib.cut P[k] [61]).2.1)=(F[k].1.data.toList,F[k].2.data.toList):=by
      have:(P.map fun x=>((Lib.cut x [61]).1,(Lib.cut x [61]).2.1))[k]? = (F.map fun f=>(f.1.data.toList,f.2.data.toList))[k]?:=by rw [hP]
      rw [J8,C0 hk2,J8,C0 hk3] at this;simpa only [L7,H5] using this
    have e3:(c[k]).size<=100:=by
      have h4:=C8.1 hz P[k] (K7 hk2);have h5:=D5 h4;rw [<- e1] at h5;exact h5
    refine ⟨(Lib.cut P[k] [61]).2.2,?_⟩;have e4:(c[k]).size<4294967281:=by omega
    have e5:(⟨#[61]⟩:X0).data.toList = [61]:=rfl;simp only [B6P,A4 e4,B6,e1,e5];rw [D0A (Q9 Prod.fst e2),D0A (Q9 Prod.snd e2)]
theorem B4r:A2k=some (firstT,()):=by
  obtain ⟨c,hc,hcl,hca⟩:=C5q fstS fstP firstT C9l C3T C89 C9k;have e0:A2k=B1 (A4h fstS ⟨#[124]⟩) fun c7=>G4 (W5 B6P c7) (0,[],()):=rfl
  rw [e0,hc];simp only [B1];have hF:=B07;generalize firstT=F at *
  refine (I2 (W5 B6P (c,())) (fun k=>((k:Int),F.take k,())) 61 (F,()) (fun k hk=>?_) ?_)
  · have h1:(k:Int)<(c.length:Int):=by omega
    have h2:(0:Int)<=(k:Int):=by omega
    obtain ⟨b,hb⟩:=hca k (by omega) (by omega);have h6:rd .str c (k:Int)=c[k]'(by omega):=A4O (k:=.str) (by omega);simp only [W5,A4 h1,A4 h2,B6,h6,hb,B1];rw [C3Q (by simp;omega),w64 (by omega) (by omega)];have e7:F.take (k+1)=F.take k ++ [(F[k]'(by omega))]:=by
      rw [Q2 (by omega)]
    rw [e7];rfl
  · have h1:¬ ((61:Nat):Int)<(c.length:Int):=by omega
    simp only [W5,B7 h1,B0];rw [E8 (by omega)]
theorem C1a(F T:List B8)(h1:F.length<=1000000000)(h2:T.length<=1000000000):K3 [F,T]=some (F++T,()):=by
  have r0:rd (.sl 150 C1) ([F,T]:List (List B8)) 0=F:=rfl;have r1:rd (.sl 150 C1) ([F,T]:List (List B8)) 1=T:=rfl;have hl:(([F,T]:List (List B8)).length:Int)=2:=rfl;have d0:decide ((0:Int)<2)=true:=rfl;have d1:decide ((0:Int)<=0)=true:=rfl;have d2:decide ((1:Int)<2)=true:=rfl;have d3:decide ((0:Int)<=1)=true:=rfl;have a1:G4 (J4 [F,T]) (0,0,())=some ((F.length:Int)+T.length,()):=by
    rw [A3E (y:=((F.length:Int),1,())) (by
      simp only [J4,hl,r0,d0,d1,B6,Int.zero_add];rw [w64 (n:=(F.length:Int)) (by omega) (by omega),B7 (p:=(F.length:Int)<0) (by omega)];rfl)]
    rw [A3E (y:=((F.length:Int)+T.length,2,())) (by
      simp only [J4,hl,r1,d2,d3,B6];rw [w64 (n:=(F.length:Int)+T.length) (by omega) (by omega),B7 (p:=(F.length:Int)+T.length<0) (by omega)];rfl)]
    rw [N8];rfl
  have a2:B4R ([]:List B8) ((F.length:Int)+T.length)=some ([],()):=by
    have:(([]:List B8).isEmpty&&decide (0<=(F.length:Int)+T.length)&&decide ((F.length:Int)+T.length<=1000000000000))=true:=by
      rw [A4 (by omega),A4 (by omega)];rfl
    simp only [B4R,this,B6]
  have a3:G4 (J5 [F,T]) (0,[],())=some (F++T,()):=by
    rw [A3E (y:=(1,F,())) (by
      simp only [J5,hl,r0,d0,d1,B6];rw [C3Q (by simp;omega)];rfl)]
    rw [A3E (y:=(2,F++T,())) (by
      simp only [J5,hl,r1,d2,d3,B6];rw [C3Q (by omega)];rfl)]
    rw [N8];rfl
  simp only [K3,N4,a1,B1];rw [show O3=B4R from rfl,a2];exact a3
def B08(all:List B8)(f:B8):Nat->Int
  | 0=>0
  | k+1=>if B08 all f k=0 then (if ((rd C1 all (k:Int)).1.toList == f.1.toList) then (k:Int)+1 else 0) else B08 all f k
theorem C1b(all:List B8)(f:B8):∀ k:Nat,0<=B08 all f k/\B08 all f k<=k
  | 0=>⟨A5e _,A5e _⟩
  | k+1=>by
    have:=C1b all f k;simp only [B08];split
    · split<;>omega
    · omega
def exa(all:List B8)(f:B8)(k:Nat):Bool:=!eqB [(rd C1 all (k:Int)).1,(rd C1 all (k:Int)).2] [f.1,f.2]
def fnd(all:List B8)(f:B8)(k:Nat):(Int×Unit)⊕(Int×Bool×Unit):=if k<all.length then .inr ((k:Int)+1,true,()) else .inl (B08 all f all.length,())
def A9E(all:List B8)(f:B8):Int×Bool:=
  if B1M (exa all f) 0 all.length<all.length then ((B1M (exa all f) 0 all.length:Int)+1,true) else (B08 all f all.length,false)
theorem C5r(all:List B8)(f:B8):0<=(A9E all f).1/\(A9E all f).1<=all.length:=by
  unfold A9E;split
  · exact ⟨by simp only [];omega,by simp only [];omega⟩
  · exact C1b all f all.length
theorem C1c(all:List B8)(f:B8)(hl:all.length<=1000000000)(k:Nat)(hk:k<all.length) :
    V3 (all,()) f (B08 all f k,(k:Int),())=if exa all f k then some (.inl (B08 all f (k+1),((k+1:Nat):Int),())) else some (.inr (fnd all f k)):=by
  have h1:(k:Int)<(all.length:Int):=by omega
  have h2:(0:Int)<=(k:Int):=by omega
  simp only [V3,A4 h1,A4 h2,B6];rw [w64 (by omega) (by omega)];unfold exa fnd;cases eqB [(rd C1 all (k:Int)).1,(rd C1 all (k:Int)).2] [f.1,f.2] with
  | true=>simp only [B6,H4,G0 hk];rfl
  | false=>
    simp only [B0,A77,Q7,B08];by_cases hb:B08 all f k=0
    · simp only [hb,A3K,B6,Q7]
      cases ((rd C1 all (k:Int)).1.toList == f.1.toList)<;>simp
    · simp only [B7 hb,B0,D6 hb]
      rfl
theorem C4n(all:List B8)(f:B8):(V6 (some (fnd all f (B1M (exa all f) 0 all.length))) fun (m1:Int×Unit)=>some (m1.1,false,()))=some ((A9E all f).1,(A9E all f).2,()):=by
  unfold A9E fnd;by_cases h:B1M (exa all f) 0 all.length<all.length
  · simp only [G0 h,V6]
  · simp only [D6 h,V6]
theorem C3U(all:List B8)(f:B8)(hl:all.length<=1000000000):(V6 (G4 (V3 (all,()) f) (0,0,())) fun (m1:Int×Unit)=>some (m1.1,false,()))=some ((A9E all f).1,(A9E all f).2,()):=by
  have:=B5e (V3 (all,()) f) (fun k=>(B08 all f k,(k:Int),())) all.length (fnd all f) (exa all f) (fun k hk=>C1c all f hl k hk) (by
    have h1:¬ ((all.length:Nat):Int)<(all.length:Int):=by omega
    have h2:¬ all.length<all.length:=by omega
    simp only [V3,B7 h1,B0,fnd,D6 h2])
  rw [show ((0:Int),(0:Int),())=(fun k:Nat=>(B08 all f k,(k:Int),())) 0 from rfl,this];exact C4n all f
theorem B7f(t:E0)(f:B8)(h:t.2.length<=900000000):A4u t f=some ((A9E (firstT++t.2) f).1,(A9E (firstT++t.2) f).2,()):=by
  have hF:=B07;have:=C3U (firstT++t.2) f (by rw [A3];omega);simp only [A4u,A8F,B4r,B1,C1a firstT t.2 (by omega) (by omega)];exact this
theorem C9m{F T:List B8}{k:Nat}(h:k<F.length):rd C1 (F++T) (k:Int)=rd C1 F (k:Int):=by
  unfold rd;simp only [E7,C2];rw [E3 h]
theorem C9n{F T:List B8}{k:Nat}{i:Int}(h:F.length<=k)(hi:i=(k:Int)-F.length):rd C1 (F++T) (k:Int)=rd C1 T i:=by
  subst hi;unfold rd;rw [show ((k:Int)-F.length).toNat=k-F.length by omega];simp only [E7,C2];rw [E5 h]
theorem C1d(t:E0)(F:List B8)(hF:F.length=61)(f:B8)(hl:t.2.length<=900000000)(k:Nat)(hk:k<(F++t.2).length) :
    A0g t (F,()) f (B08 (F++t.2) f k,(k:Int)+1,())=if exa (F++t.2) f k then some (.inl (B08 (F++t.2) f (k+1),((k+1:Nat):Int)+1,())) else some (.inr (fnd (F++t.2) f k)):=by
  have hk':=hk;rw [A3,hF] at hk';have h0:i64.wrap (61+(t.2.length:Int))=61+t.2.length:=w64 (by omega) (by omega);have h1:(k:Int)+1<=61+t.2.length:=by omega
  have hm:(bif (decide ((k:Int)+1<=61)) then bif decide (0<=(i64.wrap ((k:Int)+1-1))) then bif decide ((i64.wrap ((k:Int)+1-1))<(F.length:Int)) then some ((rd C1 F (i64.wrap ((k:Int)+1-1))).1,(rd C1 F (i64.wrap ((k:Int)+1-1))).2,()) else none else none else bif decide (0<=(i64.wrap ((k:Int)+1-62))) then bif decide ((i64.wrap ((k:Int)+1-62))<(t.2.length:Int)) then some ((rd C1 t.2 (i64.wrap ((k:Int)+1-62))).1,(rd C1 t.2 (i64.wrap ((k:Int)+1-62))).2,()) else none else none)
      = some ((rd C1 (F++t.2) (k:Int)).1,(rd C1 (F++t.2) (k:Int)).2,()):=by
    by_cases h2:(k:Int)+1<=61
    · have e1:i64.wrap ((k:Int)+1-1)=(k:Int):=by rw [w64 (by omega) (by omega)];omega
      rw [A4 h2,B6,e1,A4 (by omega),A4 (by omega),C9m (by omega)];rfl
    · have e1:i64.wrap ((k:Int)+1-62)=(k:Int)-61:=by rw [w64 (by omega) (by omega)];omega
      rw [B7 h2,B0,e1,A4 (by omega),A4 (by omega),C9n (T:=t.2) (i:=(k:Int)-61) (by omega) (by omega)];rfl
  simp only [A0g,h0,A4 h1,B6];rw [hm];simp only [B1];rw [w64 (by omega) (by omega)];unfold exa fnd;cases eqB [(rd C1 (F++t.2) (k:Int)).1,(rd C1 (F++t.2) (k:Int)).2] [f.1,f.2] with
  | true=>simp only [B6,H4,G0 hk];rfl
  | false=>
    simp only [B0,A77,Q7,B08];by_cases hb:B08 (F++t.2) f k=0
    · simp only [hb,A3K,B6,Q7]
      cases ((rd C1 (F++t.2) (k:Int)).1.toList == f.1.toList)<;>simp
    · simp only [B7 hb,B0,D6 hb]
      rfl
theorem B7g(t:E0)(f:B8)(h:t.2.length<=900000000):A4k t f=some ((A9E (firstT++t.2) f).1,(A9E (firstT++t.2) f).2,()):=by
  have hF:=B07;simp only [A4k,A88,C0J,B1];generalize firstT=F at *
  have:=B5e (A0g t (F,()) f) (fun k=>(B08 (F++t.2) f k,(k:Int)+1,())) (F++t.2).length (fnd (F++t.2) f) (exa (F++t.2) f) (fun k hk=>C1d t F hF f h k hk) (by
    have h0:i64.wrap (61+(t.2.length:Int))=61+t.2.length:=w64 (by omega) (by omega);have h1:¬ (((F++t.2).length:Nat):Int)+1<=61+t.2.length:=by rw [A3];omega
    have h2:¬ (F++t.2).length<(F++t.2).length:=by omega
    simp only [A0g,h0,B7 h1,B0,fnd,D6 h2])
  rw [show ((0:Int),(1:Int),())=(fun k:Nat=>(B08 (F++t.2) f k,(k:Int)+1,())) 0 from rfl,this];exact C4n (F++t.2) f
set_option maxRecDepth 100000
def ofF(f:B8):Int:=(f.1.size:Int)+f.2.size+32
def szT:List B8->Int
  | []=>0
  | f::fs=>ofF f+szT fs
theorem B48(f:B8):32<=ofF f:=by unfold ofF;omega
theorem A1j:∀ fs:List B8,32*(fs.length:Int)<=szT fs
  | []=>by simp [szT]
  | f::fs=>by
    have:=A1j fs;have:=B48 f;simp only [szT,G9];omega
theorem C0K:∀ a b:List B8,szT (a++b)=szT a+szT b
  | [],b=>by simp [szT]
  | f::a,b=>by simp only [C7,szT,C0K a b];omega
theorem C0L(fs:List B8)(i:Nat):szT (fs.take i)<=szT fs:=by
  have h:=C0K (fs.take i) (fs.drop i);rw [M2] at h;have:=A1j (fs.drop i);omega
theorem C1e(fs:List B8){i j:Nat}(h:i<=j):szT (fs.take i)<=szT (fs.take j):=by
  have:=C0L (fs.take j) i;rw [M9,P2 h] at this;exact this
theorem C1f(fs:List B8){i:Nat}(h:i<fs.length):szT (fs.take (i+1))=szT (fs.take i)+ofF fs[i]:=by
  rw [Q2 h,C0K];simp [szT]
theorem C4o(f:B8)(h:ofF f<=10000000000000):A6j f=some (ofF f,()):=by
  unfold ofF at *
  simp only [A6j,B3o];rw [w64 (n:=(f.1.size:Int)+f.2.size) (by omega) (by omega),w64 (by omega) (by omega)]
theorem C1g(f:B8)(h:ofF f<=10000000000000):A6l f=some (ofF f,()):=C4o f h
theorem B09(m:Int)(fs:List B8)(h:szT fs<=10000000000000):A2v (m,fs)=some (szT fs,()):=by
  have hl:=A1j fs;simp only [A2v,B32];refine I2 (A1S A6j (m,fs)) (fun i=>(szT (fs.take i),(i:Int),())) fs.length _ (fun i hi=>?_) ?_
  · have h1:(i:Int)<(fs.length:Int):=by omega
    have h2:(0:Int)<=(i:Int):=by omega
    have h3:=C1f fs hi;have h4:=C0L fs (i+1);have h5:=A1j (fs.take i);have h6:rd C1 fs (i:Int)=fs[i]:=A4O (k:=C1) hi;have h7:=B48 fs[i];simp only [A1S,A4 h1,A4 h2,B6,h6];rw [C4o _ (by omega)];simp only [B1];rw [w64 (n:=szT (fs.take i)+ofF fs[i]) (by omega) (by omega),w64 (by omega) (by omega),h3];rfl
  · have h1:¬ ((fs.length:Nat):Int)<(fs.length:Int):=by omega
    simp only [A1S,B7 h1,B0];rw [E8 (by omega)]
theorem C1h(xs:List B8)(h:xs.length<=1000000000):H6 xs=some (xs,()):=by
  simp only [H6,O0];rw [C3Q (by simp;omega)];by_cases h0:0<xs.length
  · rw [A4 h0,B6];rfl
  · rw [B7 h0,B0]
    have:xs = []:=A0M.1 (by omega);subst this;simp [eqO]
theorem B4s(t:E0)(h:t.2.length<=1000000000):A4C t=some (t,()):=by
  simp only [A4C,B33];rw [C3Q (by simp;omega)];rfl
theorem B49(t:E0)(h:t.2.length<=1000000000):A2E t=some (t,()):=by
  simp only [A2E,A8D,C1h t.2 h,B1]
theorem D1F(m:Int)(fs:List B8)(hm:0<=m)(hm2:m<=1000000)(hs:szT fs<=1000000000) :
    ∃ k,k<=fs.length/\(k<fs.length->decide (0<=m-szT (fs.take (k+1)))=false)/\A1C (m,fs)=some ((m,fs.take k),())/\szT (fs.take k)<=m:=by
  have hl:=A1j fs;obtain ⟨k,hk,ht,hf,he⟩:=B7W (A1f A6l H6 (m,fs)) (fun i=>(m-szT (fs.take i),(i:Int),())) fs.length (fun i=>((m,fs.take i),())) (fun i=>decide (0<=m-szT (fs.take (i+1)))) (fun i hi=>by
    have h1:(i:Int)<(fs.length:Int):=by omega
    have h2:(0:Int)<=(i:Int):=by omega
    have h22:(i:Int)<=(fs.length:Int):=by omega
    have h3:=C1f fs hi;have h4:=C0L fs (i+1);have h5:=A1j (fs.take i);have h6:rd C1 fs (i:Int)=fs[i]:=A4O (k:=C1) hi;have h7:=B48 fs[i];have h8:=A1j (fs.take (i+1));simp only [A1f,A4 h1,A4 h2,A4 h22,B6,h6,U5,E7];rw [C1g _ (by omega),C1h _ (by simp;omega)];simp only [B1];rw [w64 (n:=m-szT (fs.take i)-ofF fs[i]) (by omega) (by omega),w64 (n:=(i:Int)+1) (by omega) (by omega)];by_cases hq:0<=m-szT (fs.take (i+1))
    · rw [B7 (by omega),B0,A4 hq,G0 rfl,h3]
      rw [show m-szT (fs.take i)-ofF fs[i]=m-(szT (fs.take i)+ofF fs[i]) by omega];rfl
    · rw [A4 (by omega),B6,B7 hq]
      rfl) (by
    have h1:¬ ((fs.length:Nat):Int)<(fs.length:Int):=by omega
    simp only [A1f,B7 h1,B0];rw [E8 (by omega)])
  have hkm:szT (fs.take k)<=m:=by
    cases k with
    | zero=>simp [szT];omega
    | succ k=>have:=A8 (ht k (by omega));omega
  refine ⟨k,hk,hf,?_,hkm⟩;simp only [A1C,A6m];have e0:(m,(0:Int),())=(fun i:Nat=>(m-szT (fs.take i),(i:Int),())) 0:=by simp [szT]
  rw [e0];exact he
theorem D0n(m:Int)(fs:List B8)(hm:0<=m)(hm2:m<=1000000)(hs:szT fs<=1000000000) :
    ∃ k,A1C (m,fs)=some ((m,fs.take k),())/\A2f (m,fs)=some ((m,fs.take k),())/\szT (fs.take k)<=m:=by
  have hl:=A1j fs;obtain ⟨k,hk,hf,hi,hkm⟩:=D1F m fs hm hm2 hs;refine ⟨k,hi,?_,hkm⟩
  · simp only [A2f,A5m]
    refine C5d (A3W A2v) (fun x=>x.2.1.length) (fun x=>x.1=m/\∃ j,k<=j/\j<=fs.length/\x.2.1=fs.take j) _ (fun x hx=>?_) (m,fs,()) ⟨rfl,fs.length,hk,C6 _,by rw [E8 (by omega)]⟩;obtain ⟨a,b,u⟩:=x;obtain ⟨e1,j,hj1,hj2,e2⟩:=hx;simp only at e1 e2;subst e1 e2;have h4:=C0L fs j;have hjl:(fs.take j).length=j:=by rw [B2];omega
    simp only [A3W];rw [B09 _ _ (by omega)];simp only [B1];by_cases hq:szT (fs.take j)>a
    · left
      have hjk:k<j:=by
        rcases Nat.lt_or_ge k j with h | h
        · exact h
        · have:=C1e fs h;omega
      have e3:i64.wrap (((fs.take j).length:Int)-1)=((j-1:Nat):Int):=by rw [w64 (by omega) (by omega)];omega
      rw [A4 hq,B6,e3,A4 (by omega),A4 (by omega)];refine ⟨(a,fs.take (j-1),()),?_,⟨rfl,j-1,by omega,by omega,rfl⟩,by simp only [B2];omega⟩;simp only [B6,E7,U5,M9];rw [P2 (by omega)]
    · right
      rw [B7 hq,B0];have hjk:j=k:=by
        rcases Nat.lt_or_ge k j with h | h
        · have h5:=A74 (hf (by omega))
          have:=C1e fs (i:=k+1) (j:=j) (by omega);omega
        · omega
      rw [hjk]
theorem D0o(t:E0)(f:B8)(hm:0<=t.1)(hm2:t.1<=1000000)(hs:szT t.2+ofF f<=1000000000) :
    ∃ T,A4s t f=some ((t.1,T),())/\A2h t f=some ((t.1,T),())/\szT T<=t.1:=by
  obtain ⟨m,fs⟩:=t;have hl:=A1j fs;have hf:=B48 f;simp only at hm hm2 hs;obtain ⟨k,h1,h2,h3⟩:=D0n m (f::fs) hm hm2 (by simp only [szT];omega);refine ⟨(f::fs).take k,?_,?_,h3⟩
  · have e:B9S fs 0 [f]=some (f::fs,()):=by
      simp only [B9S];rw [A4 (by omega),A4 (by omega),A4 (by simp),A4 (by simp;omega)];rfl
    simp only [A4s,A8E,show N3=B9S from rfl,e,B1,h1]
  · simp only [A2h,A5n]
    rw [C3Q (by simp;omega)];simp only [A0v,C7,F6,h2,B1]
def B5i(t:E0):Prop:=0<=t.1/\t.1<=4096/\szT t.2<=t.1
theorem C4p{t:E0}(h:B5i t):t.2.length<=128:=by
  have:=A1j t.2;obtain ⟨h0,h1,h2⟩:=h;omega
theorem C8A{t:E0}(h:B5i t):V9 t=some (true,()):=by
  obtain ⟨h0,h1,h2⟩:=h;obtain ⟨m,fs⟩:=t;simp only at h0 h1 h2;simp only [V9,A5P,A1i,B1,B09 m fs (by omega)];rw [A4 ⟨h0,h1⟩,A4 h2];rfl
theorem D0p{t:E0}(hs:szT t.2<=10000000000000)(h:V9 t=some (true,())):B5i t:=by
  obtain ⟨m,fs⟩:=t;simp only at hs;simp only [V9,A5P,A1i,B1,B09 m fs hs] at h;by_cases h1:0<=m/\m<=4096
  · rw [A4 h1,B6] at h
    simp only [H5,B2o,Q1,and_true] at h;exact ⟨h1.1,h1.2,h⟩
  · rw [B7 h1,B0] at h
    simp at h
theorem bO{A B:Type}(x:A)(f:A->Option B):B1 (some x) f=f x:=rfl
theorem bSl{A B:Type}(x:A)(f:A->Option B):V6 (some (Sum.inl x)) f=f x:=rfl
theorem bSr{A B:Type}(y:B)(f:A->Option B):V6 (some (Sum.inr y)) f=some y:=rfl
theorem put_eq(t:E0)(f:B8)(q:Int)(hq:q=1\/q=3)(ht:B5i t)(h1:f.1.size<=10000)(h2:f.2.size<=10000)(b:List Int)(hb:b.length<=1000000000) :
    ∃ r T,P4 t f q=some (r,(t.1,T),())/\A04 t b f q=some (b++r,(t.1,T),())/\B5i (t.1,T)/\r.length<=30000/\Byt r:=by
  have hl:=C4p ht;have hr:=C5r (firstT++t.2) f;have hF:=B07;rw [A3] at hr;obtain ⟨ht0,ht1,ht2⟩:=ht;have hcp:=B4s t (by omega);have hok:=C8A ⟨ht0,ht1,ht2⟩;have hfs:=B7g t f (by omega);have hfi:=B7f t f (by omega);generalize A9E (firstT++t.2) f=w at *
  obtain ⟨j,found⟩:=w;simp only at hr hfs hfi;have hq13:1<=q/\q<=3:=by omega
  have hcase:(found=true/\¬ q=3)\/¬ (found=true/\¬ q=3):=Classical.em _;simp only [P4,A2w,A04,A8I,hcp,hok,hfs,hfi,A1i,A4 hq13,bO,bSl,bSr,H4,B0];rcases hcase with ⟨hf,hq3⟩ | hnf
  · subst hf
    have hj:¬ (j:Int)<0:=by omega
    simp only [B7 hq3,B6,A77];rw [(B47 j [] (by omega) (by omega) (by simp)).1,(B47 j b (by omega) (by omega) (by omega)).2];have:=A7n 127 128 j;exact ⟨pfx 127 128 j,t.2,rfl,rfl,⟨ht0,ht1,ht2⟩,by omega,B6L _ _ _⟩
  · -- in full
    have e1:(bif found then some ((!decide (q=3)),()) else some (false,()))=some (false,()):=by
      cases found with
      | false=>rfl
      | true=>
        have:q=3:=by
          rcases Classical.em (q=3) with h | h
          · exact h
          · exact absurd ⟨rfl,h⟩ hnf
        rw [this];rfl
    have e2:(bif found then bif (!decide (q=3)) then (B1 (A03 b 7 128 j) fun c28=>some (.inr (c28.1,t,()))) else some (.inl ()) else some (.inl ()))=some (Sum.inl (β:=List Int×E0×Unit) ()):=by
      cases found with
      | false=>rfl
      | true=>
        have:q=3:=by
          rcases Classical.em (q=3) with h | h
          · exact h
          · exact absurd ⟨rfl,h⟩ hnf
        rw [this];rfl
    rw [e1];simp only [B0,bO,bSl,bSr];rw [e2];simp only [bO,bSl,bSr];obtain ⟨n,fl,M,hP,hM1,hM2⟩:∃ n fl M,Pf n fl M/\B34 q=some (n,fl,())/\B37 q=some (n,fl,()):=by
      rcases hq with rfl | rfl
      · exact ⟨6,64,63,C9i,rfl,rfl⟩
      · exact ⟨4,16,15,C9j,rfl,rfl⟩
    rw [hM1,hM2];simp only [bO,bSl,bSr];have p1:=(hP j [] (by omega) (by omega) (by simp)).1;have p2:=(hP j b (by omega) (by omega) (by omega)).2;rw [p1,p2];have hpl:=A7n M fl j;have hpb:=B6L M fl j;generalize pfx M fl j=p at *
    simp only [F6,bO];obtain ⟨p',hp1,hp2,hp3,hp4⟩:∃ p',(bif (decide (j=0)) then (B1 (A2D p f.1) fun c56=>some (c56.1,())) else some (p,()))=some (p',())/\(bif (decide (j=0)) then (B1 (A2H (b++p) f.1) fun c56=>some (c56.1,())) else some (b++p,()))=some (b++p',())/\p'.length<=10020/\Byt p':=by
      by_cases hj:j=0
      · refine ⟨p++B4q f.1,?_,?_,?_,A0W hpb (B7e _)⟩
        · rw [A4 hj,B6,B1N _ _ (by omega) (by omega),bO]
        · rw [A4 hj,B6,B1O _ _ (by simp only [A3];omega) (by omega),bO]
          simp only [A7]
        · have:=C1W f.1
          simp only [A3];omega
      · exact ⟨p,by rw [B7 hj,B0],by rw [B7 hj,B0],by omega,hpb⟩
    rw [hp1,hp2];simp only [bO,bSl,bSr];rw [B1N _ _ (by omega) (by omega),B1O _ _ (by simp only [A3];omega) (by omega)];have hsl:=C1W f.2;simp only [bO,bSl,bSr];rcases hq with rfl | rfl
    · obtain ⟨T,a1,a2,a3⟩:=D0o t f ht0 (by omega) (by unfold ofF;omega)
      rw [a1,a2];exact ⟨p'++B4q f.2,T,rfl,by simp only [A7];rfl,⟨ht0,ht1,a3⟩,by simp only [A3];omega,A0W hp4 (B7e _)⟩
    · exact ⟨p'++B4q f.2,t.2,rfl,by simp only [A7];rfl,⟨ht0,ht1,ht2⟩,by simp only [A3];omega,A0W hp4 (B7e _)⟩
set_option maxRecDepth 100000
def itB(n:Int):X0:=⟨(Lib.itoa n).toArray⟩
theorem B9T{n:Int}(h0:0<=n)(h1:n<10):itB n=strOf [u8.wrap (i64.wrap (48+n))]:=by
  have h2:u8.wrap (48+n)=48+n:=by
    simp only [IntKind.wrap,IntKind.bits,IntKind.signed,A76];simp;omega
  rw [w64 (by omega) (by omega),h2];unfold itB strOf strOfNums Lib.itoa;rw [D6 (by omega),Lib.decDigits_one (by omega)];simp only [G3,A6R];rw [show (48+n).toNat=48+n.toNat by omega]
theorem C4q{n:Int}(h1:¬ n<10):itB n=itB (n / 10)++strOf [u8.wrap (i64.wrap (48+n % 10))]:=by
  have h2:u8.wrap (48+n % 10)=48+n % 10:=by
    simp only [IntKind.wrap,IntKind.bits,IntKind.signed,A76];simp;omega
  rw [w64 (by omega) (by omega),h2];apply ByteArray.ext;rw [ByteArray.data_append];unfold itB strOf strOfNums Lib.itoa;rw [D6 (by omega),D6 (by omega),Lib.decDigits,dif_neg (by omega)];simp only [G3,A6R];rw [show (48+n % 10).toNat=48+n.toNat % 10 by omega,show (n / 10).toNat=n.toNat / 10 by omega];simp
theorem B1P(x:Int):(strOf [x]).size=1:=by rw [B39];rfl
theorem A2N(f:Int->Option (X0×Unit))(N:Int)(s:Nat)(hs:s<=1000)(hN:N<=1000000000000)(hf:∀ n,1<=n->n<N->f n=some (itB n,())/\(itB n).size<=s)(n:Int)(h0:0<=n)(h1:n<10*N) :
    A0F f n=some (itB n,())/\(itB n).size<=s+1:=by
  by_cases h:n<10
  · refine ⟨?_,?_⟩
    · simp only [A0F,A4 h,B6]
      rw [<- B9T h0 h]
    · rw [B9T h0 h,B1P];omega
  · obtain ⟨e,hl⟩:=hf (n / 10) (by omega) (by omega)
    have e1:n.tdiv 10=n / 10:=N0 h0;have e2:n.tmod 10=n % 10:=Int.tmod_eq_emod_of_nonneg h0;refine ⟨?_,by rw [C4q h,A0w,B1P];omega⟩;simp only [A0F,B7 h,B0,e1,e2];rw [w64 (n:=n / 10) (by omega) (by omega),e];simp only [B1,B1P];rw [B7 (by simp only [IntKind.max,IntKind.signed,IntKind.bits];simp;omega),B0,<- C4q h]
theorem C9o(n:Int)(h0:0<=n)(h1:n<=4294967295):B35 n=some (itB n,())/\(itB n).size<=10:=by
  have a1:=A2N A6i 1 0 (by omega) (by omega) (fun n h h'=>by omega);have a2:=A2N A4F 10 1 (by omega) (by omega) (fun n h h'=>a1 n (by omega) (by omega));have a3:=A2N A4G 100 2 (by omega) (by omega) (fun n h h'=>a2 n (by omega) (by omega));have a4:=A2N A4H 1000 3 (by omega) (by omega) (fun n h h'=>a3 n (by omega) (by omega));have a5:=A2N A4I 10000 4 (by omega) (by omega) (fun n h h'=>a4 n (by omega) (by omega));have a6:=A2N A4J 100000 5 (by omega) (by omega) (fun n h h'=>a5 n (by omega) (by omega));have a7:=A2N A4K 1000000 6 (by omega) (by omega) (fun n h h'=>a6 n (by omega) (by omega));have a8:=A2N A4L 10000000 7 (by omega) (by omega) (fun n h h'=>a7 n (by omega) (by omega));have a9:=A2N A4M 100000000 8 (by omega) (by omega) (fun n h h'=>a8 n (by omega) (by omega));have a10:=A2N A4N 1000000000 9 (by omega) (by omega) (fun n h h'=>a9 n (by omega) (by omega));exact a10 n h0 (by omega)
theorem C9p(n:Int)(h0:0<=n)(h1:n<=4294967295):A3U n=some (itB n,()):=by
  have e:(decide (-9223372036854775808<=n)&&decide (n<=9223372036854775807))=true:=by
    rw [A4 (by omega),A4 (by omega)];rfl
  rw [show A3U n=B6Q n from rfl];simp only [B6Q,e,B6];rfl
theorem C1i{r:A3L}(h:A8Q r=true):(1<=r.1/\r.1<=6)/\r.2.1.size<=8/\0<=r.2.2/\r.2.2<=4294967295:=by
  simp only [A8Q,idB,B3,Q1] at h;refine ⟨h.1.1,by omega,h.2.1,?_⟩;have:=h.2.2;unfold B6K at this;split at this
  · omega
  · split at this
    · omega
    · split at this<;>omega
theorem C1j(r:A3L)(h:A8Q r=true):∃ fs,A6A r=some (fs,())/\A6F r=some (fs,())/\fs.length<=4/\∀ f∈fs,f.1.size<=10000/\f.2.size<=10000:=by
  obtain ⟨hr,hs,hn0,hn1⟩:=C1i h;have hsz:r.2.1.size<=maxLen:=by simp only [maxLen];omega
  obtain ⟨me,nm,mo,e1,e2,e3,e4,hme,hnm⟩:∃ me nm mo,A8B r.1=some (me,())/\A9u r.1=some (me,())/\B1C r.1=some (nm,())/\A0h r.1=some (nm,mo,())/\me.size<=10/\nm.size<=20:=by
    have:r.1=1\/r.1=2\/r.1=3\/r.1=4\/r.1=5\/r.1=6:=by omega
    rcases this with e | e | e | e | e | e<;>rw [e]<;>exact ⟨_,_,_,rfl,rfl,rfl,rfl,by decide,by decide⟩
  obtain ⟨t1,t2⟩:=C9o r.2.2 hn0 hn1;have hpl:(⟨#[47,117,112,47]⟩:X0).size=4:=rfl;have hmax:¬ ((((⟨#[47,117,112,47]⟩:X0).size+r.2.1.size:Nat):Int)>i64.max):=by
    simp only [IntKind.max,IntKind.signed,IntKind.bits,hpl];simp;omega
  simp only [A6A,A9k,A6F,A9v,B7a r hsz,B7b r hsz,h,bO,H4,B0,e1,e2,e3,e4,B7 hmax];cases hb:(!(nm.toList == (⟨#[]⟩:X0).toList)) with
  | true=>
    simp only [B6,t1,C9p r.2.2 hn0 hn1,bO];rw [C3Q (by simp)];refine ⟨_,rfl,rfl,by simp,fun f hf=>?_⟩;simp only [C7,F6,B4,N7,A3q] at hf;have p1:(⟨#[58,109,101,116,104,111,100]⟩:X0).size=7:=rfl;have p2:(⟨#[58,115,99,104,101,109,101]⟩:X0).size=7:=rfl;have p3:(⟨#[58,112,97,116,104]⟩:X0).size=5:=rfl;have p4:(⟨#[104,116,116,112,115]⟩:X0).size=5:=rfl;rcases hf with rfl | rfl | rfl | rfl
    · exact ⟨by simp only [p1];omega,by simp only [];omega⟩
    · exact ⟨by simp only [p2];omega,by simp only [p4];omega⟩
    · exact ⟨by simp only [p3];omega,by simp only [A0w,hpl];omega⟩
    · exact ⟨by simp only [];omega,by simp only [];omega⟩
  | false=>
    simp only [B0];refine ⟨_,rfl,rfl,by simp,fun f hf=>?_⟩;simp only [B4,N7,A3q] at hf;have p1:(⟨#[58,109,101,116,104,111,100]⟩:X0).size=7:=rfl;have p2:(⟨#[58,115,99,104,101,109,101]⟩:X0).size=7:=rfl;have p3:(⟨#[58,112,97,116,104]⟩:X0).size=5:=rfl;have p4:(⟨#[104,116,116,112,115]⟩:X0).size=5:=rfl;rcases hf with rfl | rfl | rfl
    · exact ⟨by simp only [p1];omega,by simp only [];omega⟩
    · exact ⟨by simp only [p2];omega,by simp only [p4];omega⟩
    · exact ⟨by simp only [p3];omega,by simp only [A0w,hpl];omega⟩
theorem C0M(t:E0)(fs:List B8)(ht:B5i t)(hl:fs.length<=1000)(hf:∀ f∈fs,f.1.size<=10000/\f.2.size<=10000) :
    ∃ r T,A0A t fs=some (r,(t.1,T),())/\A50 t fs=some (r,(t.1,T),())/\B5i (t.1,T)/\r.length<=30000*fs.length/\Byt r:=by
  have htl:=C4p ht;have key:∀ k,k<=fs.length->∃ T r,B5i (t.1,T)/\(r.length<=30000*k/\Byt r)/\G4 (M1 P4 fs) (0,t.1,t.2,[],())=G4 (M1 P4 fs) ((k:Int),t.1,T,r,())
      /\G4 (S8 A04 fs) (0,t.1,t.2,[],())=G4 (S8 A04 fs) ((k:Int),t.1,T,r,()):=by
    intro k
    induction k with
    | zero=>intro _;exact ⟨t.2,[],ht,⟨by simp,fun x hx=>by cases hx⟩,rfl,rfl⟩
    | succ k ih=>
      intro hk;obtain ⟨T,r,h1,⟨h2,h5⟩,h3,h4⟩:=ih (by omega);have hlt:k<fs.length:=by omega
      have a1:(k:Int)<(fs.length:Int):=by omega
      have a2:(0:Int)<=(k:Int):=by omega
      have a3:rd C1 fs (k:Int)=fs[k]:=A4O (k:=C1) hlt;have a4:=hf fs[k] (K7 hlt);cases hq:(fs[k].1.toList == (⟨#[97,117,116,104,111,114,105,122,97,116,105,111,110]⟩:X0).toList) with
      | true=>
        obtain ⟨r',T',b1,b2,b3,b4,b5⟩:=put_eq (t.1,T) fs[k] 3 (Or.inr rfl) h1 a4.1 a4.2 r (by omega);refine ⟨T',r++r',b3,⟨by simp only [A3];omega,A0W h5 b5⟩,?_,?_⟩
        · rw [h3]
          refine A3E ?_;simp only [M1,A4 a1,A4 a2,B6,a3,hq,bO,b1];rw [gA (by omega),w64 (by omega) (by omega)];rfl
        · rw [h4]
          refine A3E ?_;simp only [S8,A4 a1,A4 a2,B6,a3,hq,bO,b2];rw [w64 (by omega) (by omega)];rfl
      | false=>
        obtain ⟨r',T',b1,b2,b3,b4,b5⟩:=put_eq (t.1,T) fs[k] 1 (Or.inl rfl) h1 a4.1 a4.2 r (by omega);refine ⟨T',r++r',b3,⟨by simp only [A3];omega,A0W h5 b5⟩,?_,?_⟩
        · rw [h3]
          refine A3E ?_;simp only [M1,A4 a1,A4 a2,B6,B0,a3,hq,bO,b1];rw [gA (by omega),w64 (by omega) (by omega)];rfl
        · rw [h4]
          refine A3E ?_;simp only [S8,A4 a1,A4 a2,B6,B0,a3,hq,bO,b2];rw [w64 (by omega) (by omega)];rfl
  obtain ⟨T,r,h1,⟨h2,h5⟩,h3,h4⟩:=key fs.length (C6 _);have e1:¬ ((fs.length:Nat):Int)<(fs.length:Int):=by omega
  have f1:G4 (M1 P4 fs) ((fs.length:Int),t.1,T,r,())=some (t.1,T,r,()):=by
    rw [N8];simp only [M1,B7 e1,B0]
  have f2:G4 (S8 A04 fs) ((fs.length:Int),t.1,T,r,())=some (t.1,T,r,()):=by
    rw [N8];simp only [S8,B7 e1,B0]
  refine ⟨r,T,?_,?_,h1,h2,h5⟩
  · simp only [A0A,A25,B4s t (by omega),bO]
    rw [h3,f1];rfl
  · have hok:A5U t=some (true,()):=C8A ht
    simp only [A50,A8J,B49 t (by omega),hok,bO,H4,B0];rw [h4,f2];rfl
set_option maxRecDepth 100000
theorem C5s{α β:Type}{f:α->Option (α⊕β)}{x:α}{y:β}(h:f x=some (.inr y)):G4 f x=some y:=by rw [N8,h]
def czN(a:Int):Nat:=if a<1 then 1 else if a>1000 then 1000 else a.toNat
theorem B4A(a:Int):1<=czN a/\czN a<=1000:=by
  unfold czN;split
  · omega
  · split<;>omega
theorem D1G(a:Int):(B1 (bif (decide (a<1)) then some ((1:Int),()) else some (a,())) fun (m0:Int×Unit)=>(bif (decide (m0.1>1000)) then some ((1000:Int),()) else some (m0.1,())))=some ((czN a:Int),()):=by
  unfold czN;by_cases h:a<1
  · rw [A4 h,B6,bO,G0 h];rfl
  · rw [B7 h,B0,bO,D6 h]
    by_cases h2:a>1000
    · rw [A4 h2,B6,G0 h2];rfl
    · rw [B7 h2,B0,D6 h2]
      rw [show ((a.toNat:Nat):Int)=a by omega]
theorem C8B(a:Int):(bif decide ((bif decide (1000<a) then 1000 else a)>1) then (bif decide (1000<a) then 1000 else a) else 1)=(czN a:Int):=by
  unfold czN;by_cases h2:1000<a
  · rw [A4 h2,B6,D6 (by omega),G0 (by omega)];rfl
  · rw [B7 h2,B0]
    by_cases h:a>1
    · rw [A4 h,B6,D6 (by omega),D6 (by omega)];omega
    · rw [B7 h,B0]
      by_cases h3:a<1
      · rw [G0 h3];rfl
      · rw [D6 h3,D6 (by omega)];omega
theorem C3V(a:Int):czN ((czN a:Nat):Int)=czN a:=by
  have:=B4A a;generalize czN a=n at *
  unfold czN;rw [D6 (by omega),D6 (by omega)];omega
def ceN(n L:Nat):Nat:=(L+n-1) / n
theorem B1Q{n L j:Nat}(hn:0<n):j<ceN n L↔j*n<L:=by
  unfold ceN;rw [Nat.lt_iff_add_one_le,A43 hn,G2];omega
theorem C0N{n L:Nat}(hn:0<n):L<=ceN n L*n:=by
  have h:¬ ceN n L<ceN n L:=Nat.lt_irrefl _;rw [B1Q hn] at h;omega
theorem B3A{n L:Nat}(hn:0<n):ceN n L<=L:=by
  have h:¬ L<ceN n L:=by
    rw [B1Q hn];have:=A9J L hn;omega
  omega
def frx(id fl:Int)(n:Nat)(xs:List Int)(j:Nat):H0:=(if j=0 then 1 else 9,if j=0 then fl else 0,id,Q6 n xs j)
def frs(id fl:Int)(n:Nat)(xs:List Int):Nat->List H0
  | 0=> []
  | j+1=>frs id fl n xs j ++ [frx id fl n xs j]
theorem B2I(id fl:Int)(n:Nat)(xs:List Int):∀ j,(frs id fl n xs j).length=j
  | 0=>rfl
  | j+1=>by simp only [frs,A3,B2I id fl n xs j,G5]
def C3W(f:H0):H0:=(f.1,bOr .i64 f.2.1 4,f.2.2)
def B2j(id fl:Int)(n:Nat)(xs:List Int):List H0:=frs id fl n xs (max 1 (ceN n xs.length)-1) ++ [C3W (frx id fl n xs (max 1 (ceN n xs.length)-1))]
theorem C0O{A:List H0}{x:H0}:rd M8 (A ++ [x]) (A.length:Int)=x:=by
  simp [rd]
theorem C1k{A:List H0}{x y:H0}:(A ++ [x]).set A.length y=A ++ [y]:=by
  simp [List.set_append_right]
theorem C5t(xs:List Int)(h:xs.length<=1000000000):O6 xs=some (xs,()):=by
  simp only [O6,A05];rw [gA (by simp;omega)];by_cases h0:0<xs.length
  · rw [A4 h0,B6];rfl
  · rw [B7 h0,B0]
    have:xs = []:=A0M.1 (by omega);subst this;simp [eqO]
theorem A3F(n:Nat)(xs:List Int)(j:Nat):(Q6 n xs j).length=min (j*n+n) xs.length-j*n:=by
  simp [Q6]
theorem B7h{X Y:Type}(G:X->Y->Option Y):∀ (xs:List X) (x:X) (y:Y),B0U G (xs ++ [x]) y=B1 (B0U G xs y) (G x)
  | [],x,y=>by
    simp only [F6,B0U,bO];cases G x y<;>rfl
  | z::xs,x,y=>by
    simp only [C7,B0U];cases G z y with
    | none=>rfl
    | some y'=>exact B7h G xs x y'
theorem C5u(id:Int)(a1:Bool)(xs:List Int)(a3:Int)(hid:1<=id/\id<=2147483647)(hx:xs.length<=100000000) :
    B3s id a1 xs a3=some (B2j id (if a1 then 1 else 0) (czN a3) xs,()):=by
  have hn:=B4A a3;have e0:=D1G a3;simp only [B3s,B7N,A1i,A4 hid,bO,H4,B0];have e1:∀ (K:Int×Unit->Option (List H0×Unit)),(B1 (bif (decide (a3<1)) then some ((1:Int),()) else some (a3,())) fun (m0:Int×Unit)=>B1 (bif (decide (m0.1>1000)) then some ((1000:Int),()) else some (m0.1,())) K)=K ((czN a3:Int),()):=by
    intro K;rw [show K ((czN a3:Int),())=B1 (some ((czN a3:Int),())) K from rfl,<- e0];cases (bif (decide (a3<1)) then some ((1:Int),()) else some (a3,()))<;>rfl
  rw [e1];generalize czN a3=n at *
  have hn0:0<n:=by omega
  have hN1:1<=max 1 (ceN n xs.length):=Nat.le_max_left _ _;have hN2:max 1 (ceN n xs.length)<=100000000:=by have:=B3A (n:=n) (L:=xs.length) hn0;omega
  have hlt:∀ j,j<max 1 (ceN n xs.length)->j=0\/j*n<xs.length:=by
    intro j hj;rcases A78 j with h | h
    · exact Or.inl h
    · exact Or.inr ((B1Q hn0).1 (by omega))
  have hlast:∀ j,j<max 1 (ceN n xs.length)->(xs.length<=j*n+n↔j=max 1 (ceN n xs.length)-1):=by
    intro j hj;have h1:=B1Q (n:=n) (L:=xs.length) (j:=j+1) hn0;rw [G2] at h1;omega
  have hge:xs.length<=max 1 (ceN n xs.length)*n:=by
    have h1:=C0N (n:=n) (L:=xs.length) hn0;have h2:=E1 n (Nat.le_max_right 1 (ceN n xs.length));omega
  have hbig:∀ j,j<max 1 (ceN n xs.length)->j*n<=100000000:=by
    intro j hj;rcases hlt j hj with h | h
    · subst h;omega
    · omega
  unfold B2j;generalize max 1 (ceN n xs.length)=N at *
  have hfl:∀ (K:Int×Int×Int×Unit->Option ((Int×List H0×Unit)⊕(List H0×Unit))) (j:Nat),j*n<=100000000->(B1 (bif (decide (((j*n:Nat):Int)=0)) then bif a1 then some ((1:Int),(1:Int),id,()) else some (1,0,id,()) else some (9,0,id,())) K)=K ((if j=0 then 1 else 9),(if j=0 then (if a1 then 1 else 0) else 0),id,()):=by
    intro K j hj;rcases A78 j with h | h
    · subst h
      rw [show (((0*n:Nat):Int))=0 by simp];cases a1<;>rfl
    · have h2:0<j*n:=B5m h hn0
      rw [B7 (p:=((j*n:Nat):Int)=0) (by omega),B0,D6 (by omega),D6 (by omega)];rfl
  have hX:∀ l k f q,([(l,(k,(f,q)))]:List H0).length=1:=fun _ _ _ _=>rfl
  refine (I2 (A9o xs a1 id ((n:Int),())) (fun j=>(((j*n:Nat):Int),(if j<N then frs id (if a1 then 1 else 0) n xs j else frs id (if a1 then 1 else 0) n xs (N-1) ++ [C3W (frx id (if a1 then 1 else 0) n xs (N-1))]),())) N _ (fun j hj=>?_) ?_ |> fun h=>by
    rw [show ((0:Int),([]:List H0),())=(fun j:Nat=>(((j*n:Nat):Int),(if j<N then frs id (if a1 then 1 else 0) n xs j else frs id (if a1 then 1 else 0) n xs (N-1) ++ [C3W (frx id (if a1 then 1 else 0) n xs (N-1))]),())) 0 by
      simp only [A0d,G0 (show 0<N by omega)];rfl]
    exact h)
  · have b1:=hlt j hj
    have b2:=hlast j hj;have b3:=hbig j hj;have b4:=B2I id (if a1 then 1 else 0) n xs j;have b5:j*n<=xs.length:=by
      rcases b1 with h | h
      · subst h;simp
      · omega
    have c1:(bif (decide (((j*n:Nat):Int)=0)) then some (Sum.inl ()) else bif (decide (((j*n:Nat):Int)<(xs.length:Int))) then some (Sum.inl ()) else some (Sum.inr (Sum.inr ((if j<N then frs id (if a1 then 1 else 0) n xs j else frs id (if a1 then 1 else 0) n xs (N-1) ++ [C3W (frx id (if a1 then 1 else 0) n xs (N-1))]),()))))=some (Sum.inl (β:=(Int×List H0×Unit)⊕(List H0×Unit)) ()):=by
      rcases b1 with h | h
      · subst h
        rw [show (((0*n:Nat):Int))=0 by simp];rfl
      · rw [A4 (p:=((j*n:Nat):Int)<(xs.length:Int)) (by omega)]
        cases decide (((j*n:Nat):Int)=0)<;>rfl
    simp only [A9o];rw [c1,bSl,hfl _ j b3];simp only [G0 hj];rw [w64 (n:=((j*n:Nat):Int)+(n:Int)) (by omega) (by omega)];by_cases hL:xs.length<=j*n+n
    · have hjN:j=N-1:=b2.1 hL
      have hp:(xs.take xs.length).drop (j*n)=Q6 n xs j:=by
        unfold Q6;rw [E8 (C6 _),E8 hL]
      have hpl:=A3F n xs j;rw [A4 (by omega),B6,bO];simp only [E7,hp];rw [A4 (by omega),A4 (by omega),A4 (by omega)];simp only [B6,F6];rw [gA (by simp only [I1];omega),D0m (by rw [b4,hX];omega)];rw [D6 (show ¬ j+1<N by omega),hjN.symm,G2];simp only [C3W,frx]
      congr 4
    · have hjN:¬ j=N-1:=fun h=>hL (b2.2 h)
      have hp:(xs.take (((j*n:Nat):Int)+(n:Int)).toNat).drop (j*n)=Q6 n xs j:=by
        unfold Q6;rw [show (((j*n:Nat):Int)+(n:Int)).toNat=j*n+n by omega]
      have hpl:=A3F n xs j;rw [B7 (by omega),B0,bO];simp only [E7,hp];rw [A4 (by omega),A4 (by omega),A4 (by omega)];simp only [B6,F6];rw [gA (by simp only [I1];omega),D0m (by rw [b4,hX];omega)];rw [G0 (show j+1<N by omega),G2];simp only [frs,frx]
      congr 4
  · have h2:0<N*n:=B5m (by omega) hn0
    have c1:decide (((N*n:Nat):Int)=0)=false:=B7 (by omega);have c2:decide (((N*n:Nat):Int)<(xs.length:Int))=false:=B7 (by omega);simp only [A9o,c1,c2,B0,bSr,D6 (show ¬ N<N by omega)]
theorem C1l(id fl:Int)(n:Nat)(xs:List Int)(hn:0<n)(hx:xs.length<=100000000):∀ j,j<=ceN n xs.length->
    B0U (B03 O6 id) ((List.range j).map (Q6 n xs)) ([(1,(fl,(id,[])))],())=some (if j=0 then [(1,(fl,(id,[])))] else frs id fl n xs j,()):=by
  have hC:=B3A (n:=n) (L:=xs.length) hn;intro j
  induction j with
  | zero=>intro _;rfl
  | succ j ih=>
    intro hj;have hlt:=(B1Q (n:=n) (L:=xs.length) (j:=j) hn).1 (by omega);have hpl:=A3F n xs j;rw [List.range_succ,A5w,G3,A6R,B7h,ih (by omega),bO,D6 (Nat.succ_ne_zero j)];have hcl:=C5t (Q6 n xs j) (by omega);cases j with
    | zero=>
      simp only [Q7,B03,G5];rw [show i64.wrap (((1:Nat):Int)-1)=0 from rfl];have r0:rd M8 ([(1,(fl,(id,[])))]:List H0) 0=(1,(fl,(id,[]))):=rfl;rw [A4 (by omega),A4 (by omega),r0];simp only [B6,I1];rw [B7 (by omega),B0,hcl];rfl
    | succ j=>
      have hpl':=A3F n xs j;have hlt':=(B1Q (n:=n) (L:=xs.length) (j:=j) hn).1 (by omega);rw [D6 (Nat.succ_ne_zero j)];have hfl:=B2I id fl n xs j;have e1:frs id fl n xs (j+1)=frs id fl n xs j ++ [frx id fl n xs j]:=rfl;have hl2:=B2I id fl n xs (j+1);have w1:i64.wrap (((frs id fl n xs (j+1)).length:Int)-1)=((frs id fl n xs j).length:Int):=by rw [hl2,hfl,w64 (by omega) (by omega)];omega
      have hl3:∀ y:H0,(frs id fl n xs (j+1) ++ [y]).length=j+2:=fun y=>by rw [A3,hl2];rfl
      have w2:∀ y:H0,i64.wrap (((frs id fl n xs (j+1) ++ [y]).length:Int)-1)=((frs id fl n xs (j+1)).length:Int):=fun y=>by rw [hl3,hl2,w64 (by omega) (by omega)];omega
      have hq:((rd M8 (frs id fl n xs (j+1)) ((frs id fl n xs j).length:Int)).2.2.2.length:Int)>0:=by
        rw [e1,C0O];simp only [frx];rw [hpl'];have:=G2 j n;omega
      simp only [B03,w1,w2];rw [A4 (by omega),A4 (by rw [hfl,hl2];omega)];simp only [B6];rw [A4 hq,B6,D0m (by rw [hl2];simp;omega),A4 (by omega),A4 (by rw [hl2,hl3];omega),hcl];simp only [B6,bO,E7,C0O,C1k];rfl
theorem C5v(id:Int)(a1:Bool)(xs:List Int)(a3:Int)(hid:1<=id/\id<=2147483647)(hx:xs.length<=100000000) :
    B42 id a1 xs a3=some (B2j id (if a1 then 1 else 0) (czN a3) xs,()):=by
  have hn:=B4A a3;have hn0:0<czN a3:=by omega
  have hC:=B3A (n:=czN a3) (L:=xs.length) hn0;have e1:(bif a1 then bif decide (0<(([(1,(0,(id,[])))]:List H0).length:Int)) then B1 (some (([(1,(0,(id,[])))]).set 0 ((rd M8 ([(1,(0,(id,[])))]) 0).1,(1,(rd M8 ([(1,(0,(id,[])))]) 0).2.2)))) fun (c9002:List H0)=>some (c9002,()) else none else some ([(1,(0,(id,[])))],()))=some (([(1,((if a1 then 1 else 0),(id,[])))]:List H0),()):=by
    cases a1<;>rfl
  simp only [bO] at e1;simp only [B42,B7V,B06,A4 hid,bO,H4,B0,C8B];rw [e1];simp only [bO];have f1:=C1l id (if a1 then 1 else 0) (czN a3) xs hn0 hx (ceN (czN a3) xs.length) (C6 _);generalize (if a1 then (1:Int) else 0)=fl at *
  unfold B2j;generalize czN a3=n at *
  have hpc:pieces n xs=(List.range (ceN n xs.length)).map (Q6 n xs):=rfl;rw [A4 (by omega),A4 (by omega),A4 (by omega)];simp only [B6,E7];rw [hpc,f1];simp only [bO];have e2:(if ceN n xs.length=0 then ([(1,(fl,(id,[])))]:List H0) else frs id fl n xs (ceN n xs.length))=frs id fl n xs (max 1 (ceN n xs.length)-1) ++ [frx id fl n xs (max 1 (ceN n xs.length)-1)]:=by
    by_cases h:ceN n xs.length=0
    · rw [G0 h,h]
      have hx0:xs = []:=by
        have:=C0N (n:=n) (L:=xs.length) hn0;rw [h] at this;exact A0M.1 (by omega)
      subst hx0;simp [frs,frx,Q6]
    · rw [D6 h,show max 1 (ceN n xs.length)=(max 1 (ceN n xs.length)-1)+1 by omega]
      have:ceN n xs.length=(max 1 (ceN n xs.length)-1)+1:=by omega
      conv=>lhs;rw [this]
      rfl
  have hl:=B2I id fl n xs (max 1 (ceN n xs.length)-1);rw [e2];generalize frs id fl n xs (max 1 (ceN n xs.length)-1)=A at *
  generalize frx id fl n xs (max 1 (ceN n xs.length)-1)=x at *
  have hl1:(A ++ [x]).length=A.length+1:=by simp
  have w1:i64.wrap (((A ++ [x]).length:Int)-1)=(A.length:Int):=by rw [hl1,w64 (by omega) (by omega)];omega
  simp only [w1,C0O,C1k,E7];rw [A4 (by omega),A4 (by omega)];rfl
theorem fok(k fl id:Int)(q:List Int)(h1:0<=k/\k<=255)(h2:0<=fl/\fl<=255)(h3:0<=id/\id<=2147483647)(h4:(q.length:Int)<=1000):Q8 (k,fl,id,q)=true:=by
  simp only [Q8,A4 h1,A4 h2,A4 h3,A4 h4];rfl
theorem C8C(id:Int)(a1:Bool)(n:Nat)(xs:List Int)(hid:1<=id/\id<=2147483647)(hn:n<=1000)(j:Nat) :
    Q8 (frx id (if a1 then 1 else 0) n xs j)=true/\Q8 (C3W (frx id (if a1 then 1 else 0) n xs j))=true:=by
  have hpl:=A3F n xs j;have h1:((Q6 n xs j).length:Int)<=1000:=by omega
  have h2:0<=id/\id<=2147483647:=by omega
  have b0:bOr .i64 0 4=4:=rfl;have b1:bOr .i64 1 4=5:=rfl;unfold C3W frx;rcases A78 j with h | h
  · subst h
    cases a1
    · exact ⟨fok 1 0 id _ (by omega) (by omega) h2 h1,fok 1 (bOr .i64 0 4) id _ (by omega) (by rw [b0];omega) h2 h1⟩
    · exact ⟨fok 1 1 id _ (by omega) (by omega) h2 h1,fok 1 (bOr .i64 1 4) id _ (by omega) (by rw [b1];omega) h2 h1⟩
  · simp only [D6 (show ¬ j=0 by omega)]
    exact ⟨fok 9 0 id _ (by omega) (by omega) h2 h1,fok 9 (bOr .i64 0 4) id _ (by omega) (by rw [b0];omega) h2 h1⟩
theorem C8D(id:Int)(a1:Bool)(n:Nat)(xs:List Int)(hid:1<=id/\id<=2147483647)(hn:n<=1000):∀ j,∀ f∈frs id (if a1 then 1 else 0) n xs j,Q8 f=true
  | 0,f,hf=>by simp [frs] at hf
  | j+1,f,hf=>by
    simp only [frs,C9,A6] at hf;rcases hf with h | h
    · exact C8D id a1 n xs hid hn j f h
    · subst h;exact (C8C id a1 n xs hid hn j).1
theorem C8E(id:Int)(a1:Bool)(n:Nat)(xs:List Int)(hid:1<=id/\id<=2147483647)(hn:n<=1000):∀ f∈B2j id (if a1 then 1 else 0) n xs,Q8 f=true:=by
  intro f hf;simp only [B2j,C9,A6] at hf;rcases hf with h | h
  · exact C8D id a1 n xs hid hn _ f h
  · subst h;exact (C8C id a1 n xs hid hn _).2
theorem C5w(id fl:Int)(n:Nat)(xs:List Int)(hn:0<n):(B2j id fl n xs).length<=xs.length+1:=by
  have:=B3A (n:=n) (L:=xs.length) hn;simp only [B2j,A3,B2I,G5];omega
def B7i(fs:List H0):Nat->List Int
  | 0=> []
  | k+1=>B7i fs k++A5q (fs.getD k (0,0,0,[]))
theorem A6s(f:H0)(h:Q8 f=true):(A5q f).length<=1009:=by
  simp only [Q8,B3,Q1] at h;simp only [A5q,A3,B46,G9,I1];omega
theorem B3B{f:H0}(h:Byt f.2.2.2):Byt (A5q f):=by
  unfold A5q;refine A0W (A0W (A0W (C4d _ _) fun x hx=>?_) (C4d _ _)) h;simp only [B4,N7,A3q] at hx;rcases hx with rfl | rfl<;>exact wrap_u8 _
theorem B4t{xs:List Int}(h:Byt xs)(n j:Nat):Byt (Q6 n xs j):=C7t (C7r h _) _
theorem C4r{id fl:Int}{n:Nat}{xs:List Int}(h:Byt xs):∀ j,∀ f∈frs id fl n xs j,Byt f.2.2.2
  | 0,f,hf=>by cases hf
  | j+1,f,hf=>by
    rcases C9.1 hf with hf | hf
    · exact C4r h j f hf
    · rcases A6.1 hf with rfl;exact B4t h n j
theorem C60{id fl:Int}{n:Nat}{xs:List Int}(h:Byt xs):∀ f∈B2j id fl n xs,Byt f.2.2.2:=fun f hf=>by
  rcases C9.1 hf with hf | hf
  · exact C4r h _ f hf
  · rcases A6.1 hf with rfl;exact B4t h n _
theorem C1m{fs:List H0}(h:∀ f∈fs,Byt f.2.2.2):∀ k,Byt (B7i fs k)
  | 0=>fun x hx=>by cases hx
  | k+1=>by
    refine A0W (C1m h k) ?_;by_cases hk:k<fs.length
    · rw [C2,C0 hk]
      exact B3B (h _ (K7 hk))
    · rw [C2,List.getElem?_eq_none (by omega)]
      exact B3B fun x hx=>by cases hx
theorem B4B(fs:List H0)(h:∀ f∈fs,Q8 f=true):∀ k,k<=fs.length->(B7i fs k).length<=1009*k
  | 0,_=>by simp [B7i]
  | k+1,hk=>by
    have h1:=B4B fs h k (by omega);have h2:fs.getD k (0,0,0,[])=fs[k]:=by rw [C2,C0 (by omega)];rfl
    have h3:=A6s fs[k] (h _ (K7 (by omega)));simp only [B7i,A3,h2];omega
theorem B5j{f:H0}(h:Q8 f=true):f.2.2.2.length<=1000:=by
  simp only [Q8,B3,Q1] at h;omega
theorem B7j(fs:List H0)(h:∀ f∈fs,Q8 f=true)(hl:fs.length<=1000000000):A52 [] fs=some (B7i fs fs.length,()):=by
  simp only [A52,A8K];refine I2 (A2l P7 fs) (fun k=>((k:Int),B7i fs k,())) fs.length _ (fun k hk=>?_) ?_
  · have h1:(k:Int)<(fs.length:Int):=by omega
    have h2:(0:Int)<=(k:Int):=by omega
    have h3:rd M8 fs (k:Int)=fs[k]:=A4O (k:=M8) hk;have h4:fs.getD k (0,0,0,[])=fs[k]:=by rw [C2,C0 (by omega)];rfl
    have h5:=B4B fs h k (by omega);have h6:=B5j (h _ (K7 hk));simp only [A2l,A4 h1,A4 h2,B6,h3];rw [B2i _ _ (by omega),bO,w64 (by omega) (by omega)];simp only [B7i,h4];rfl
  · have h1:¬ ((fs.length:Nat):Int)<(fs.length:Int):=by omega
    simp only [A2l,B7 h1,B0]
theorem C1n(fs:List H0)(h:∀ f∈fs,Q8 f=true)(hl:fs.length<=1000000000):A4p fs=some (B7i fs fs.length,()):=by
  simp only [A4p,A8C];refine I2 (A2i W4 fs) (fun k=>((k:Int),B7i fs k,())) fs.length _ (fun k hk=>?_) ?_
  · have h1:(k:Int)<(fs.length:Int):=by omega
    have h2:(0:Int)<=(k:Int):=by omega
    have h3:rd M8 fs (k:Int)=fs[k]:=A4O (k:=M8) hk;have h4:fs.getD k (0,0,0,[])=fs[k]:=by rw [C2,C0 (by omega)];rfl
    have h5:=B4B fs h k (by omega);have hk2:=h _ (K7 hk);have h6:=B5j hk2;have h7:=A6s _ hk2;simp only [A2i,A4 h1,A4 h2,B6,h3];rw [A8P _ (by omega),G0 hk2,bO,gA (by simp only [];omega),w64 (by omega) (by omega)];simp only [B7i,h4];rfl
  · have h1:¬ ((fs.length:Nat):Int)<(fs.length:Int):=by omega
    simp only [A2i,B7 h1,B0]
set_option maxRecDepth 100000
def A2O(id:Int)(n:Nat)(xs:List Int):Nat->List Int
  | 0=> []
  | j+1=>A2O id n xs j++A5q (0,(if xs.length<=j*n+n then 1 else 0),id,Q6 n xs j)
theorem C0P(id:Int)(n:Nat)(xs:List Int)(hid:1<=id/\id<=2147483647)(hn:n<=1000)(j:Nat):Q8 (0,(if xs.length<=j*n+n then 1 else 0),id,Q6 n xs j)=true:=by
  have hpl:=A3F n xs j;refine fok _ _ _ _ (by omega) ?_ (by omega) (by omega);split<;>omega
theorem B4C(id:Int)(n:Nat)(xs:List Int)(hid:1<=id/\id<=2147483647)(hn:n<=1000):∀ j,(A2O id n xs j).length<=1009*j
  | 0=>by simp [A2O]
  | j+1=>by
    have h1:=B4C id n xs hid hn j;have h2:=A6s _ (C0P id n xs hid hn j);simp only [A2O,A3];omega
theorem D0q(id:Int)(n:Nat)(xs o:List Int)(hid:1<=id/\id<=2147483647)(hn:1<=n/\n<=1000)(hx:xs.length<=100000000)(ho:o.length<=1000000000000) :
    G4 (S9 W4 xs ((n:Int),()) id) (0,o,())=some (o++A2O id n xs (ceN n xs.length),()):=by
  have hn0:0<n:=by omega
  have hC:=B3A (n:=n) (L:=xs.length) hn0;refine (I2 (S9 W4 xs ((n:Int),()) id) (fun j=>(((j*n:Nat):Int),o++A2O id n xs j,())) (ceN n xs.length) _ (fun j hj=>?_) ?_ |> fun h=>by
    rw [show ((0:Int),o,())=(fun j:Nat=>(((j*n:Nat):Int),o++A2O id n xs j,())) 0 by simp [A2O]];exact h)
  · have hlt:=(B1Q (n:=n) (L:=xs.length) (j:=j) hn0).1 hj
    have hpl:=A3F n xs j;have hok:=C0P id n xs hid hn.2 j;have hbl:=B4C id n xs hid hn.2 j;have hfl:=A6s _ hok;have hol:(o++A2O id n xs j).length<=1000000000000+1009*j:=by rw [A3];omega
    have e1:(A2O id n xs (j+1))=A2O id n xs j++A5q (0,(if xs.length<=j*n+n then 1 else 0),id,Q6 n xs j):=rfl;simp only [S9];rw [A4 (p:=((j*n:Nat):Int)<(xs.length:Int)) (by omega),B6,w64 (n:=((j*n:Nat):Int)+(n:Int)) (by omega) (by omega)];by_cases hL:xs.length<=j*n+n
    · have hp:(xs.take xs.length).drop (j*n)=Q6 n xs j:=by
        unfold Q6;rw [E8 (C6 _),E8 hL]
      rw [A4 (by omega),B6,bO];simp only [E7,hp];rw [A4 (by omega),A4 (by omega),A4 (by omega)];simp only [B6,F6];rw [gA (by simp only [I1];omega)];rw [G0 hL] at hok e1 hfl;rw [A8P _ (by simp only [];omega),G0 hok,bO,gA (by simp only [];omega),e1,G2,A7];rfl
    · have hp:(xs.take (((j*n:Nat):Int)+(n:Int)).toNat).drop (j*n)=Q6 n xs j:=by
        unfold Q6;rw [show (((j*n:Nat):Int)+(n:Int)).toNat=j*n+n by omega]
      rw [B7 (by omega),B0,bO];simp only [E7,hp];rw [A4 (by omega),A4 (by omega),A4 (by omega)];simp only [B6,F6];rw [gA (by simp only [I1];omega)];rw [D6 hL] at hok e1 hfl;rw [A8P _ (by simp only [];omega),G0 hok,bO,gA (by simp only [];omega),e1,G2,A7];rfl
  · have h:=C0N (n:=n) (L:=xs.length) hn0
    have h1:¬ ((ceN n xs.length*n:Nat):Int)<(xs.length:Int):=by omega
    simp only [S9,B7 h1,B0]
theorem D0r(id:Int)(a4:Int)(xs o:List Int)(hid:1<=id/\id<=2147483647)(hx:xs.length<=100000000)(ho:o.length<=1000000000000) :
    G4 (T5 P7 a4 id) (xs,o,())=some (o++A2O id (czN a4) xs (ceN (czN a4) xs.length),()):=by
  have hn:=B4A a4;have hcz:=C8B a4;have hn0:0<czN a4:=by omega
  have hC:=B3A (n:=czN a4) (L:=xs.length) hn0;have hstep:∀ l,T5 P7 a4 id l=T5 P7 ((czN a4:Nat):Int) id l:=by
    intro l;have h2:=C8B ((czN a4:Nat):Int);rw [C3V] at h2;simp only [T5,hcz,h2]
  rw [funext hstep];generalize hnn:czN a4=n at *
  have hcz2:=C8B ((n:Nat):Int);rw [<- hnn,C3V,hnn] at hcz2;refine (I2 (T5 P7 (n:Int) id) (fun j=>(xs.drop (j*n),o++A2O id n xs j,())) (ceN n xs.length) _ (fun j hj=>?_) ?_ |> fun h=>by
    rw [show (xs,o,())=(fun j:Nat=>(xs.drop (j*n),o++A2O id n xs j,())) 0 by simp [A2O]];exact h)
  · have hlt:=(B1Q (n:=n) (L:=xs.length) (j:=j) hn0).1 hj
    have hpl:=A3F n xs j;have hok:=C0P id n xs hid hn.2 j;have hbl:=B4C id n xs hid hn.2 j;have hfl:=A6s _ hok;have hol:(o++A2O id n xs j).length<=1000000000000+1009*j:=by rw [A3];omega
    have e1:(A2O id n xs (j+1))=A2O id n xs j++A5q (0,(if xs.length<=j*n+n then 1 else 0),id,Q6 n xs j):=rfl;have hdl:(xs.drop (j*n)).length=xs.length-j*n:=C5;have hm:(bif decide (((xs.drop (j*n)).length:Int)<(n:Int)) then ((xs.drop (j*n)).length:Int) else (n:Int))=((min (xs.length-j*n) n:Nat):Int):=by
      by_cases h:((xs.drop (j*n)).length:Int)<(n:Int)
      · rw [A4 h,B6,hdl];omega
      · rw [B7 h,B0];omega
    have hp:(xs.drop (j*n)).take (min (xs.length-j*n) n)=Q6 n xs j:=by
      unfold Q6;rw [A0K];by_cases h:xs.length-j*n<=n
      · rw [P2 h,E8 (by omega),E8 (by omega)]
      · rw [Nat.min_eq_right (by omega),show j*n+n-j*n=n by omega]
    have hd:((xs.drop (j*n)).take (xs.drop (j*n)).length).drop (min (xs.length-j*n) n)=xs.drop ((j+1)*n):=by
      rw [E8 (C6 _),L6];by_cases h:xs.length-j*n<=n
      · rw [G2,I5 (by omega),I5 (by omega)]
      · rw [Nat.min_eq_right (by omega),G2]
    have hd2:(xs.drop ((j+1)*n)).length=xs.length-(j*n+n):=by rw [C5,G2]
    have hpf:∀ fl:Int,fl=(if xs.length<=j*n+n then 1 else 0)->P7 (o++A2O id n xs j) (0,(fl,(id,Q6 n xs j)))=some (o++A2O id n xs (j+1),()):=by
      intro fl hfl2;subst hfl2;rw [B2i _ _ (by simp only [];omega),e1,A7]
    simp only [T5,hcz2,hm];rw [A4 (p:=((xs.drop (j*n)).length:Int)>0) (by omega),A4 (p:=(0:Int)<=((min (xs.length-j*n) n:Nat):Int)) (by omega),A4 (p:=((min (xs.length-j*n) n:Nat):Int)<=((xs.drop (j*n)).length:Int)) (by omega)];simp only [B6,E7,U5,hp,hd];by_cases hL:xs.length<=j*n+n
    · rw [A4 (by omega),B6,hpf 1 (by rw [G0 hL])]
      rfl
    · rw [B7 (by omega),B0,hpf 0 (by rw [D6 hL])]
      rfl
  · have h:=C0N (n:=n) (L:=xs.length) hn0
    have hdl:(xs.drop (ceN n xs.length*n)).length=xs.length-ceN n xs.length*n:=C5;have h1:¬ ((xs.drop (ceN n xs.length*n)).length:Int)>0:=by omega
    simp only [T5,B7 h1,B0]
theorem B9U{id:Int}{n:Nat}{xs:List Int}(h:Byt xs):∀ j,Byt (A2O id n xs j)
  | 0=>fun x hx=>by cases hx
  | j+1=>A0W (B9U h j) (B3B (B4t h n j))
theorem C1o(t:E0)(id:Int)(r:A3L)(xs:List Int)(a4:Int)(ht:szT t.2<=1000000000)(hr:r.2.1.size<=1000000000)(hx:xs.length<=100000000) :
    ∃ o T,S0 t id r xs a4=some (o,(t.1,T),())/\A3D t id r xs a4=some (o,(t.1,T),())/\o.length<=1009*(120001+xs.length)/\szT T<=1000000000/\(Byt xs->Byt o):=by
  have htl:=A1j t.2;have hsz:r.2.1.size<=maxLen:=by simp only [maxLen];omega
  obtain ⟨b,hb⟩:=C0C t (by simp only [maxLen];omega);have hbi:A5U t=some (b,()):=hb;have hcp:=B4s t (by omega);have hci:=B49 t (by omega);simp only [S0,A3f,A3D,B1I,hb,hbi,B7a r hsz,B7b r hsz,A1i,B06,bO,hcp,hci];by_cases hall:b=true/\A8Q r=true/\(1<=id/\id<=2147483647)
  · obtain ⟨rfl,h2,h3⟩:=hall
    simp only [h2,A4 h3,H4,B0,bO,bSl];have htok:=D0p (by omega) hb;obtain ⟨fs,f1,f2,f3,f4⟩:=C1j r h2;obtain ⟨h,T,g1,g2,g3,g4,g5⟩:=C0M t fs htok (by omega) f4;have hn:=B4A a4;have hp1:=C5u id (decide ((xs.length:Int)=0)) h a4 h3 (by omega);have hp2:=C5v id (decide ((xs.length:Int)=0)) h ((czN a4:Nat):Int) h3 (by omega);rw [C3V] at hp2;have hpo:=C8E id (decide ((xs.length:Int)=0)) (czN a4) h h3 hn.2;have hpl:=C5w id (if decide ((xs.length:Int)=0)=true then 1 else 0) (czN a4) h (by omega);have e0:=D1G a4;simp only [f1,f2,g1,g2,bO,C8B,hp1,hp2];rw [C1n _ hpo (by omega),B7j _ hpo (by omega)];have hcl:=B4B _ hpo _ (C6 _);have hcb:=C1m (C60 (id:=id) (fl:=(if decide ((xs.length:Int)=0)=true then 1 else 0)) (n:=czN a4) g5);generalize B2j id (if decide ((xs.length:Int)=0)=true then 1 else 0) (czN a4) h=F at *
    have e1:∀ (K:Int×Unit->Option (List Int×E0×Unit)),(B1 (bif (decide (a4<1)) then some ((1:Int),()) else some (a4,())) fun (m0:Int×Unit)=>B1 (bif (decide (m0.1>1000)) then some ((1000:Int),()) else some (m0.1,())) K)=K ((czN a4:Int),()):=by
      intro K;rw [show K ((czN a4:Int),())=B1 (some ((czN a4:Int),())) K from rfl,<- e0];cases (bif (decide (a4<1)) then some ((1:Int),()) else some (a4,()))<;>rfl
    have hbl:=B4C id (czN a4) xs h3 hn.2 (ceN (czN a4) xs.length);have hC:=B3A (n:=czN a4) (L:=xs.length) (by omega);simp only [bO];rw [e1,D0q id (czN a4) xs _ h3 hn hx (by omega),D0r id a4 xs _ h3 hx (by omega)];obtain ⟨k1,k2,k3⟩:=g3;exact ⟨_,T,rfl,rfl,by rw [A3];omega,by simp only at k1 k2 k3;omega,fun hxb=>A0W (hcb _) (B9U hxb _)⟩
  · refine ⟨[],t.2,?_,?_,by simp,ht,fun _ x hx=>by cases hx⟩
    · cases b with
      | false=>rfl
      | true=>
        cases hq:A8Q r with
        | false=>rfl
        | true=>
          have:¬ (1<=id/\id<=2147483647):=fun h=>hall ⟨rfl,hq,h⟩
          rw [B7 this];rfl
    · by_cases h3:1<=id/\id<=2147483647
      · rw [A4 h3]
        cases hq:A8Q r with
        | false=>rfl
        | true=>
          cases b with
          | false=>rfl
          | true=>exact absurd ⟨rfl,hq,h3⟩ hall
      · rw [B7 h3]
        rfl
theorem C3a(t:E0)(id:Int)(r:A3L)(xs:List Int)(a4:Int)(ht:szT t.2<=1000000000)(hr:r.2.1.size<=1000000000)(hx:xs.length<=100000000) :
    ∃ o T,S0 t id r xs a4=some (o,(t.1,T),())/\A3D t id r xs a4=some (o,(t.1,T),())/\o.length<=500000000000/\szT T<=1000000000:=by
  obtain ⟨o,T,h1,h2,h3,h4,h5⟩:=C1o t id r xs a4 ht hr hx;exact ⟨o,T,h1,h2,by omega,h4⟩
set_option maxRecDepth 100000
set_option maxRecDepth 100000
noncomputable def mfs(m:Int)(n:Nat):List B8:=(List.range n).map fun j=>(mt (m+2*(j:Nat)),mt (m+2*(j:Nat)+1))
theorem A3g(m:Int)(n:Nat):(mfs m n).length=n:=by simp [mfs]
theorem C8F(m:Int)(n:Nat):mfs m (n+1)=mfs m n ++ [(mt (m+2*(n:Nat)),mt (m+2*(n:Nat)+1))]:=by
  simp [mfs,List.range_succ]
theorem B4D(t:E0)(m:Int)(h0:0<=m)(h1:m<=1000000000000)(h2:t.2.length<=1000000000):A2J t m=some (m+2*t.2.length,(t.1,mfs m t.2.length),()):=by
  have key:A3c t.2 m=some (m+2*t.2.length,mfs m t.2.length,()):=by
    obtain ⟨mm,fs⟩:=t;simp only at h2 ⊢;simp only [A3c,A6p];have:=I2 (A1g T2) (fun k=>(m+2*(k:Nat),(k:Int),mfs m k++fs.drop k,())) fs.length (m+2*fs.length,mfs m fs.length,()) (fun k hk=>by
      have hl:(mfs m k++fs.drop k).length=fs.length:=by rw [A3,A3g,C5];omega
      have a1:(k:Int)<((mfs m k++fs.drop k).length:Int):=by omega
      have a2:(0:Int)<=(k:Int):=by omega
      have e1:fs.drop k=fs[k]::fs.drop (k+1):=I0 hk;have hs:∀ x:B8,(mfs m k++fs.drop k).set k x=mfs m k++x::fs.drop (k+1):=by
        intro x;rw [e1,List.set_append_right _ _ (by rw [A3g];omega),A3g,Nat.sub_self];rfl
      have hr:∀ x:B8,rd C1 (mfs m k++x::fs.drop (k+1)) (k:Int)=x:=by
        intro x;unfold rd;rw [E7,C2,E5 (by rw [A3g];omega),A3g,Nat.sub_self];rfl
      have hs2:∀ x y:B8,(mfs m k++x::fs.drop (k+1)).set k y=mfs m k++y::fs.drop (k+1):=by
        intro x y;rw [List.set_append_right _ _ (by rw [A3g];omega),A3g,Nat.sub_self];rfl
      have hl2:∀ x:B8,(mfs m k++x::fs.drop (k+1)).length=fs.length:=by
        intro x;rw [A3,A3g,G9,C5];omega
      simp only [A1g,A4 a1,A4 a2,B6];rw [A7m _ (by omega),w64 (n:=m+2*(k:Int)+1) (by omega) (by omega),A7m _ (by omega)];simp only [B1,E7,hs,hr,hs2,hl2];rw [A4 (by omega),B6,w64 (by omega) (by omega),w64 (by omega) (by omega),C8F];simp only [A7,A0v,C7,F6];rw [show m+2*(k:Int)+1+1=m+2*((k+1:Nat):Int) by omega];rfl) (by
      have a1:¬ ((fs.length:Nat):Int)<((mfs m fs.length).length:Int):=by rw [A3g];omega
      simp only [A1g,List.drop_length,F4,B7 a1,B0])
    simpa [mfs] using this
  simp only [A2J,A8L,key,B1]
theorem C0Q(x:Int)(n:Nat)(m:Int)(h0:0<=m)(h1:m<=1000000000000)(h2:n<=1000000000):A2M (x,mfs m n) m=some (m+2*n,()):=by
  have key:A3e (mfs m n) m=some (m+2*n,()):=by
    simp only [A3e,A6q];have:=I2 (A1h T2 (mfs m n)) (fun k=>(m+2*(k:Nat),(k:Int),())) n (m+2*n,()) (fun k hk=>by
      have a1:(k:Int)<((mfs m n).length:Int):=by rw [A3g];omega
      have a2:(0:Int)<=(k:Int):=by omega
      have hr:rd C1 (mfs m n) (k:Int)=(mt (m+2*(k:Nat)),mt (m+2*(k:Nat)+1)):=by
        unfold rd mfs;simp [C2,hk]
      simp only [A1h,A4 a1,A4 a2,B6,hr];rw [A7m _ (by omega),w64 (n:=m+2*(k:Int)+1) (by omega) (by omega),A7m _ (by omega)];simp only [B1,beq_self_eq_true,H4,B0];rw [w64 (by omega) (by omega),w64 (by omega) (by omega),show m+2*(k:Int)+1+1=m+2*((k+1:Nat):Int) by omega];rfl) (by
      have a1:¬ ((n:Nat):Int)<((mfs m n).length:Int):=by rw [A3g];omega
      simp only [A1h,B7 a1,B0])
    simpa using this
  simp only [A2M,A8O,key,B1];rw [B7 (by omega)];rfl
theorem D0s(f:B8)(l:Int)(h0:0<=l)(h1:l<=1048576)(h2:f.1.size<=maxLen)(h3:f.2.size<=maxLen) :
    ∃ r,V8 f l=some (r,())/\r<=l/\(0<=r->r=l-f.1.size-f.2.size):=by
  simp only [maxLen] at h2 h3;simp only [V8,A7N];rw [w64 (n:=l-(f.1.size:Int)) (by omega) (by omega)];by_cases h:l-(f.1.size:Int)<0
  · rw [A4 h,B6];exact ⟨-1,rfl,by omega,fun h=>by omega⟩
  · rw [B7 h,B0,w64 (n:=l-(f.1.size:Int)-f.2.size) (by omega) (by omega)]
    by_cases h':l-(f.1.size:Int)-f.2.size<0
    · rw [A4 h',B6];exact ⟨-1,rfl,by omega,fun h=>by omega⟩
    · rw [B7 h',B0];exact ⟨_,rfl,by omega,fun h=>rfl⟩
theorem C8G(t:E0)(l:Int)(h0:0<=l)(h1:l<=1048576)(h2:t.2.length<=maxLen)(h3:∀ x∈t.2,Sm maxLen C1 x) :
    ∃ r,A18 t l=some (r,())/\r<=l/\(0<=r->szT t.2<=40000000/\t.2.length<=1048576):=by
  obtain ⟨m,fs⟩:=t;simp only at h2 h3 ⊢;have hlen:=h2;simp only [maxLen] at hlen;have key:∀ k i,i+k=fs.length->∀ l:Int,0<=l->l<=1048576->∃ r,G4 (U0 V8 fs) (l,(i:Int),())=some (r,())/\r<=l/\(0<=r->szT (fs.drop i)<=l-r+32*(k:Int)):=by
    intro k
    induction k with
    | zero=>
      intro i hi l h0 h1;have a1:¬ (i:Int)<(fs.length:Int):=by omega
      refine ⟨l,?_,A5e _,fun _=>?_⟩
      · refine C5s ?_
        simp only [U0,B7 a1,B0]
      · rw [I5 (by omega)]
        simp [szT]
    | succ k ih=>
      intro i hi l h0 h1;have hlt:i<fs.length:=by omega
      have a1:(i:Int)<(fs.length:Int):=by omega
      have a2:(0:Int)<=(i:Int):=by omega
      have a3:rd C1 fs (i:Int)=fs[i]:=A4O (k:=C1) hlt;have hx:=h3 fs[i] (K7 hlt);obtain ⟨c,e,b1,b2⟩:=D0s fs[i] l h0 h1 hx.l hx.r;rw [N8];simp only [U0,A4 a1,A4 a2,B6,a3,e,B1];by_cases hc:c<0
      · rw [A4 hc]
        exact ⟨-1,rfl,by omega,fun h=>by omega⟩
      · rw [B7 hc]
        simp only [B0];rw [w64 (by omega) (by omega)];obtain ⟨r,e',c1,c2⟩:=ih (i+1) (by omega) c (by omega) (by omega);refine ⟨r,by simpa using e',by omega,fun h=>?_⟩;have c3:=c2 h;have c4:=b2 (by omega);rw [I0 hlt];simp only [szT,ofF];omega
  simp only [A18,A7P,A3V,A68];rw [w64 (n:=l-(fs.length:Int)) (by omega) (by omega)];by_cases h:l-(fs.length:Int)<0
  · rw [A4 h,B6];exact ⟨-1,rfl,by omega,fun h=>by omega⟩
  · rw [B7 h,B0]
    obtain ⟨r,e,c1,c2⟩:=key fs.length 0 (by omega) (l-(fs.length:Int)) (by omega) (by omega);simp only [U5] at c2;rw [show (0:Int)=((0:Nat):Int) from rfl,e];simp only [B1];by_cases hr:r<((0:Nat):Int)
    · rw [A4 hr,B6];exact ⟨-1,rfl,by omega,fun h=>by omega⟩
    · rw [B7 hr,B0]
      exact ⟨r,rfl,by omega,fun h=>by have:=c2 (by omega);omega⟩
theorem C3b:∀ fs:List B8,szT fs<=1000000000->∀ x∈fs,Sm maxLen C1 x
  | [],_,x,hx=>by simp at hx
  | f::fs,h,x,hx=>by
    have hp:=A1j fs;have hf:=B48 f;simp only [szT] at h;rcases B4.1 hx with e | e
    · subst e
      have:ofF x<=1000000000:=by omega
      unfold ofF at this;exact ⟨show x.1.size<=maxLen by simp only [maxLen];omega,show x.2.size<=maxLen by simp only [maxLen];omega⟩
    · exact C3b fs (by omega) x e
theorem exactAskWith(t:E0)(id:Int)(r:A3L)(xs:List Int)(a4:Int)(ht:Sm maxLen B2D t)(hr:r.2.1.size<=maxLen)(hx:xs.length<=maxLen):A31 t id r xs a4=some (true,()):=by
  simp only [A31,A30];simp only [maxLen] at hr hx;by_cases h1:(xs.length:Int)>1048576
  · rw [A4 h1];rfl
  · rw [B7 h1]
    obtain ⟨l,e1,h2,h3⟩:=C8G t 1048576 (by omega) (by omega) ht.r.1 ht.r.2;obtain ⟨l',e1',h2',h3'⟩:=C3K t ht 1048576 (by omega) (by omega);rw [e1] at e1';obtain rfl:l=l':=by injection e1' with e1';injection e1'
    simp only [B0,e1,bO];by_cases h4:l<0
    · rw [A4 h4];rfl
    · obtain ⟨b1,b2⟩:=h3 (by omega)
      have b3:=h3' (by omega);obtain ⟨l2,e2,h5,h6⟩:=C7n r ⟨trivial,(show r.2.1.size<=maxLen by simp only [maxLen];omega),trivial⟩ l (by omega) (by omega);rw [B7 h4];simp only [B0,e2,bO];by_cases h7:l2<0
      · rw [A4 h7];rfl
      · have b4:=h6 (by omega)
        have b5:r.2.1.size<=1048576:=b4.2.1;obtain ⟨o,T,g1,g2,g3,g4⟩:=C3a t id r xs a4 (by omega) (by omega) (by omega);have hT:=A1j T;have sT:Sm maxLen A3R (t.1,T):=⟨trivial,show T.length<=maxLen by simp only [maxLen];omega,C3b T g4⟩;have sE:Sm maxLen A3R t:=⟨trivial,show t.2.length<=maxLen by simp only [maxLen];omega,C3b t.2 (by omega)⟩;have q1:=B45 (t.1,T) sT;have q2:=B45 t sE;have q3:=B43 o (by simp only [maxLen];omega);have q4:=B43 xs (by simp only [maxLen];omega);have k1:=B4D t 1 (by omega) (by omega) (by omega);have k2:=B44 xs (1+2*(t.2.length:Int)) (by omega) (by omega);have k3:=B44 o 1 (by omega) (by omega);have k4:=B4D (t.1,T) (1+(o.length:Int)) (by omega) (by omega) (show T.length<=1000000000 by omega);have k5:=C08 o.length 1 (by omega) (by omega);have k6:=C0Q t.1 T.length (1+(o.length:Int)) (by omega) (by omega) (by omega);rw [B7 h7];simp only [B0,C3M t b3,C7o r b4,C3I xs (by omega),bO,g1,g2,q1,q2,q3,q4,H4,bSl,k1,k2];rw [B7 (p:=1+2*(t.2.length:Int)+(xs.length:Int)<0) (by omega)];simp only [B0,bSl,k3,bO,k4,k5];rw [B7 (p:=1+(o.length:Int)<0) (by omega)];simp only [B0,k6,bO];rw [B7 (p:=1+(o.length:Int)+2*(T.length:Int)<0) (by omega)];simp
end Go.Proofs.YthnfghmjipikhaaGreatDoor.Ev
