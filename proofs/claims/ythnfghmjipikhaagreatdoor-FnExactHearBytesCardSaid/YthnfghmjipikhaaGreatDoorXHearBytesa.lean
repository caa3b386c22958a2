/- What the plain functions of the program and of the reference answer: laws of plain data. -/
import Derived.Test.YthnfghmjipikhaaGreatDoorPu
import Derived.Laws.Strings
import Derived.Lib.Split
import Derived.Lib.Atoi
import Derived.Laws.BitsLemmas
import Derived.Lib.ItoaNum
set_option linter.unusedVariables false
set_option linter.unusedSimpArgs false
set_option linter.unusedSectionVars false
namespace Go.Proofs.YthnfghmjipikhaaGreatDoor.Ev
open IntKind (i64 u8 u64 u32)
theorem w64{n:Int}(h0:-9223372036854775808<=n)(h1:n<9223372036854775808):i64.wrap n=n:=by
  simp only [IntKind.wrap,IntKind.bits,IntKind.signed,K2];simp;split<;>omega
theorem C90{α β:Type}(f:α->Option (α⊕β))(μ:α->Nat)(I:α->Prop)(Q:β->Prop)
    (h:∀ x,I x->(∃ y,f x=some (.inl y)/\I y/\μ y<μ x)\/∃ z,f x=some (.inr z)/\Q z):∀ x,I x->∃ z,F4 f x=some z/\Q z:=by
  intro x;generalize hn:μ x=n
  induction n using Nat.strongRecOn generalizing x with
  | ind n ih=>
    intro hx;rw [G8];rcases h x hx with ⟨y,e,hy,hl⟩ | ⟨z,e,hz⟩
    · rw [e];exact ih (μ y) (by omega) y rfl hy
    · rw [e];exact ⟨z,rfl,hz⟩
theorem E4t{α β:Type}(f:α->Option (α⊕β))(μ:α->Nat)(I:α->Prop)(z:β)
    (h:∀ x,I x->(∃ y,f x=some (.inl y)/\I y/\μ y<μ x)\/f x=some (.inr z)) (x:α) (hx:I x):F4 f x=some z:=by
  obtain ⟨z',h1,rfl⟩:=C90 f μ I (·=z) (fun x hx=>(h x hx).imp id fun h=>⟨_,h,rfl⟩) x hx;exact h1
theorem L3{α β:Type}(f:α->Option (α⊕β))(s:Nat->α)(n:Nat)(z:β)(h:∀ i,i<n->f (s i)=some (.inl (s (i+1))))(he:f (s n)=some (.inr z)):F4 f (s 0)=some z:=by
  have key:∀ k i,i+k=n->F4 f (s i)=some z:=by
    intro k
    induction k with
    | zero=>intro i hi;rw [G8,show i=n by omega,he]
    | succ k ih=>intro i hi;rw [G8,h i (by omega)];exact ih (i+1) (by omega)
  exact key n 0 (by omega)
theorem A3e{α β:Type}(f:α->Option (α⊕β))(s:Nat->α)(n:Nat)(z:Nat->β)(go:Nat->Bool)(h:∀ i,i<n->f (s i)=if go i then some (.inl (s (i+1))) else some (.inr (z i)))(he:f (s n)=some (.inr (z n))) :
    ∃ i,i<=n/\(∀ j,j<i->go j=true)/\(i<n->go i=false)/\F4 f (s 0)=some (z i):=by
  have key:∀ k i,i+k=n->(∀ j,j<i->go j=true)->∃ i',i'<=n/\(∀ j,j<i'->go j=true)/\(i'<n->go i' = false)/\F4 f (s i)=some (z i'):=by
    intro k
    induction k with
    | zero=>
      intro i hi hg;obtain rfl:i=n:=by omega
      exact ⟨i,C1 _,hg,fun h=>absurd h (by omega),by rw [G8,he]⟩
    | succ k ih=>
      intro i hi hg;cases hgo:go i with
      | true=>
        obtain ⟨i',h1,h2,h3,h4⟩:=ih (i+1) (by omega) (fun j hj=>by
          by_cases h:j<i
          · exact hg j h
          · rw [show j=i by omega];exact hgo)
        refine ⟨i',h1,h2,h3,?_⟩;rw [G8,h i (by omega),A6 hgo];exact h4
      | false=>
        refine ⟨i,by omega,hg,fun _=>hgo,?_⟩;rw [G8,h i (by omega),hgo];rfl
  exact key n 0 (by omega) (fun j hj=>by omega)
theorem D5K(s:X0)(i:Int):0<=bt s i:=by unfold bt;omega
theorem C52(s:X0)(i:Int):bt s i<256:=by
  have:=(s.data.toList.getD i.toNat 0).toNat_lt;unfold bt;omega
theorem E1A(s:X0)(i:Int):i64.wrap (bt s i)=bt s i:=w64 (by have:=D5K s i;omega) (by have:=C52 s i;omega)
theorem A15{k:K}{xs:List k.T}{i:Nat}(h:i<xs.length):rd k xs (i:Int)=xs[i]:=by
  unfold rd;rw [D5];simp [List.getD,h]
theorem C2u{U:IntKind}{xs:List Int}{i:Nat}(h:i<xs.length):rd (.int U) xs (i:Int)=xs[i]:=A15 (k:=.int U) h
def Byt(a:List Int):Prop:=∀ x∈a,0<=x/\x<256
theorem pe{α β:Type}(p:α×β):(p.1,p.2)=p:=rfl
theorem A0{p:Prop} [Decidable p] (h:p):decide p=true:=A1c h
theorem A1{p:Prop} [Decidable p] (h:¬ p):decide p=false:=A86 h
def Sm(N:Nat):(k:K)->k.T->Prop
  | .int _,_=>True
  | .bool,_=>True
  | .fnc _,_=>True
  | .str,s=>s.size<=N
  | .sl _ k,xs=>xs.length<=N/\∀ x∈xs,Sm N k x
  | .rs _ k,xs=>xs.length<=N/\∀ x∈xs,Sm N k x
  | .pa _ _,_=>True
  | .pair a b,x=>Sm N a x.1/\Sm N b x.2
theorem Sm.l{N:Nat}{a b:K}{x:(K.pair a b).T}(h:Sm N (.pair a b) x):Sm N a x.1:=h.1
theorem Sm.r{N:Nat}{a b:K}{x:(K.pair a b).T}(h:Sm N (.pair a b) x):Sm N b x.2:=h.2
theorem Sm.len{N e:Nat}{k:K}{xs:(K.sl e k).T}(h:Sm N (.sl e k) xs):List.length xs<=N:=h.1
theorem Sm.el{N e:Nat}{k:K}{xs:(K.sl e k).T}(h:Sm N (.sl e k) xs):∀ x,x∈(show List k.T from xs)->Sm N k x:=h.2
def D2H(P:Int->Option (Int×Unit))(S:Prop):Prop:=∀ l:Int,0<=l->l<=1048576->∃ r,P l=some (r,())/\r<=l/\(0<=r->S)
theorem E3V{T:Type}(f:T->Int->Option (Int×Unit))(S:T->Prop)(L:Int×Int×Unit->Option ((Int×Int×Unit)⊕(Int×Unit)))(a:List T)(hn:a.length<=maxLen)(hf:∀ x∈a,D2H (f x) (S x))
    (hs:∀ (i:Nat) (hi:i<a.length) (l:Int),L (l,(i:Int),())=A5 (f a[i] l) fun c=>bif decide (c.1<0) then some (.inr (-1,())) else some (.inl (c.1,i64.wrap ((i:Int)+1),())))
    (he:∀ l,L (l,(a.length:Int),())=some (.inr (l,()))):D2H (fun l=>F4 L (l,0,())) (∀ x∈a,S x):=by
  have key:∀ k i,i+k=a.length->∀ l:Int,0<=l->l<=1048576->∃ r,F4 L (l,(i:Int),())=some (r,())/\r<=l/\(0<=r->∀ j (hj:j<a.length),i<=j->S a[j]):=by
    intro k
    induction k with
    | zero=>
      intro i hi l h0 h1;obtain rfl:i=a.length:=by omega
      exact ⟨l,by rw [G8,he],B74 _,fun _ j hj hi=>by omega⟩
    | succ k ih=>
      intro i hi l h0 h1;have hlt:i<a.length:=by omega
      obtain ⟨r,e,h2,h3⟩:=hf a[i] (F3 hlt) l h0 h1;rw [G8,hs i hlt,e];simp only [A5];by_cases hr:r<0
      · rw [A0 hr]
        exact ⟨-1,rfl,by omega,fun h=>by omega⟩
      · rw [A1 hr]
        simp only [A3];rw [w64 (by omega) (by simp only [maxLen] at hn;omega)];obtain ⟨r',e',h4,h5⟩:=ih (i+1) (by omega) r (by omega) (by omega);refine ⟨r',by simpa using e',by omega,fun h j hj hij=>?_⟩;by_cases hji:j=i
        · subst hji;exact h3 (by omega)
        · exact h5 h j hj (by omega)
  intro l h0 h1;obtain ⟨r,e,h2,h3⟩:=key a.length 0 (by omega) l h0 h1;refine ⟨r,by simpa using e,h2,fun h x hx=>?_⟩;obtain ⟨j,hj,rfl⟩:=List.getElem_of_mem hx;exact h3 h j hj (by omega)
theorem D6S(L:Int×Unit->Option ((Int×Unit)⊕(Bool×Unit)))(n:Nat)(hn:n<=maxLen)(hs:∀ i:Nat,i<n->L ((i:Int),())=some (.inl (i64.wrap ((i:Int)+1),())))
    (he:L ((n:Int),())=some (.inr (true,()))):F4 L (0,())=some (true,()):=by
  refine L3 L (fun i=>((i:Int),())) n (true,()) (fun i hi=>?_) he;rw [hs i hi,w64 (by omega) (by simp only [maxLen] at hn;omega)];rfl
theorem E3W{T:Type}(L:Int×List T×Unit->Option ((Int×List T×Unit)⊕(List T×Unit)))(a:List T)(z:T)(hn:a.length<=maxLen)
    (hs:∀ (i:Nat) (hi:i<a.length) (b:List T),b.length=a.length->L ((i:Int),b,())=some (.inl (i64.wrap ((i:Int)+1),b.set i a[i],())))
    (he:∀ b,L ((a.length:Int),b,())=some (.inr (b,()))):F4 L (0,List.replicate a.length z,())=some (a,()):=by
  have key:=L3 L (fun i=>((i:Int),a.take i++List.replicate (a.length-i) z,())) a.length (a,()) (fun i hi=>?_) ?_
  · simpa using key
  · have hl:(a.take i++List.replicate (a.length-i) z).length=a.length:=by simp;omega
    rw [hs i hi _ hl,w64 (by omega) (by simp only [maxLen] at hn;omega)];have:(a.take i++List.replicate (a.length-i) z).set i a[i]=a.take (i+1)++List.replicate (a.length-(i+1)) z:=by
      rw [List.set_append_right _ _ (by simp;omega)];rw [H5 hi,B3]
      congr 1
      rw [show (a.take i).length=i by simp;omega,Nat.sub_self,show a.length-i=(a.length-(i+1))+1 by omega,A0w];rfl
    rw [this];rfl
  · rw [he]
    simp
def A3f(go:Nat->Bool):Nat->Nat->Nat
  | i,0=>i
  | i,k+1=>if go i then A3f go (i+1) k else i
theorem D5L(go:Nat->Bool):∀ k i,A3f go i k<=i+k
  | 0,i=>C1 _
  | k+1,i=>by
    simp only [A3f];split
    · have:=D5L go k (i+1);omega
    · omega
theorem C7c(go:Nat->Bool):∀ k i,A3f go i k<i+k->go (A3f go i k)=false
  | 0,i,h=>by simp [A3f] at h
  | k+1,i,h=>by
    simp only [A3f] at h ⊢;split
    · rename_i hg
      rw [A6 hg] at h;exact C7c go k (i+1) (by omega)
    · rename_i hg
      simpa using hg
theorem D8R{α β:Type}(f:α->Option (α⊕β))(s:Nat->α)(n:Nat)(z:Nat->β)(go:Nat->Bool)(h:∀ i,i<n->f (s i)=if go i then some (.inl (s (i+1))) else some (.inr (z i)))(he:f (s n)=some (.inr (z n))) :
    F4 f (s 0)=some (z (A3f go 0 n)):=by
  have key:∀ k i,i+k=n->F4 f (s i)=some (z (A3f go i k)):=by
    intro k
    induction k with
    | zero=>
      intro i hi;obtain rfl:i=n:=by omega
      rw [G8,he];rfl
    | succ k ih=>
      intro i hi;rw [G8,h i (by omega)];simp only [A3f];cases go i with
      | true=>simp only [M0];exact ih (i+1) (by omega)
      | false=>rfl
  exact key n 0 (by omega)
theorem A6i(a:List Int)(h:a.length<=maxLen):A3C a a=some (true,()):=by
  simp only [A3C,C2T];simp only [R1,C3,A3];refine L3 (B1K a a) (fun i=>((i:Int),())) a.length (true,()) (fun i hi=>?_) ?_
  · have h1:((i:Int)<(a.length:Int)):=by omega
    have h2:(0:Int)<=(i:Int):=by omega
    simp only [B1K,A0 h1,A0 h2,A8,R1,C3,A3];rw [w64 (by omega) (by simp only [maxLen] at h;omega)];rfl
  · simp [B1K]
theorem D2I(a:List Int)(h:a.length<=281474976710656):A3B a=some (a,()):=by
  simp only [A3B,C2S];have h1:(0:Int)<=(a.length:Int):=by omega
  rw [A0 h1,D5,A0 (show a.length<=9223372036854775807 by omega),A0 (show 1*a.length<=281474976710656 by omega)];simp only [A8];have key:=L3 (B1J a) (fun i=>((i:Int),a.take i++List.replicate (a.length-i) 0,())) a.length (a,()) (fun i hi=>?_) ?_
  · simpa using key
  · have h1:((i:Int)<(a.length:Int)):=by omega
    have h2:(0:Int)<=(i:Int):=by omega
    have hl:(a.take i++List.replicate (a.length-i) (0:Int)).length=a.length:=by simp;omega
    simp only [B1J,hl,A0 h1,A0 h2,A8];rw [w64 (by omega) (by omega),D5,A15 hi];have:(a.take i++List.replicate (a.length-i) (0:Int)).set i a[i]=a.take (i+1)++List.replicate (a.length-(i+1)) 0:=by
      rw [List.set_append_right _ _ (by simp;omega)];rw [H5 hi,B3]
      congr 1
      rw [show (a.take i).length=i by simp;omega,Nat.sub_self,show a.length-i=(a.length-(i+1))+1 by omega,A0w];rfl
    rw [this];rfl
  · simp [B1J]
abbrev D6T:=X0×List Int×Int×Int
theorem E1B(a:List Int)(l:Int)(h0:l<=1048576)(h1:0<=l)(h:a.length<=maxLen):A5i a l=some (if (a.length:Int)<=l then (l-a.length:Int) else -1,()):=by
  simp only [A5i,C2W,maxLen] at *
  rw [w64 (by omega) (by omega)];split
  · rw [A1 (by omega)];rfl
  · rw [A0 (by omega)];rfl
def marked(m:Int)(n:Nat):List Int:=(List.range n).map fun j=>u8.wrap (m+(j:Nat))
theorem D6U(a:List Int)(m:Int)(h0:0<=m)(h:m+a.length<9223372036854775808):V9 a m=some (m+a.length,marked m a.length,()):=by
  simp only [V9,B7H];have key:=L3 A7i (fun i=>(m+(i:Int),(i:Int),marked m i++a.drop i,())) a.length (m+a.length,marked m a.length,()) (fun i hi=>?_) ?_
  · simpa [marked] using key
  · have h1:((i:Int)<(a.length:Int)):=by omega
    have h2:(0:Int)<=(i:Int):=by omega
    have hl:(marked m i++a.drop i).length=a.length:=by simp [marked];omega
    simp only [A7i,hl,A0 h1,A0 h2,A8];rw [w64 (by omega) (by omega),w64 (by omega) (by omega),D5];have:(marked m i++a.drop i).set i (u8.wrap (m+(i:Int)))=marked m (i+1)++a.drop (i+1):=by
      rw [List.set_append_right _ _ (by simp [marked])];rw [show (marked m i).length=i by simp [marked],Nat.sub_self,I5 hi,List.set_cons_zero];simp [marked,List.range_succ]
    rw [this];simp only [Int.natCast_add,Int.natCast_one,Int.add_assoc]
  · simp [A7i,marked]
theorem D6V(n:Nat)(m:Int)(h0:0<=m)(h:m+n<9223372036854775808):W3 (marked m n) m=some (m+n,()):=by
  simp only [W3,B7I];have hl:(marked m n).length=n:=by simp [marked]
  have key:=L3 (A7j (marked m n)) (fun i=>(m+(i:Int),(i:Int),())) n (m+n,()) (fun i hi=>?_) ?_
  · simpa [marked] using key
  · have h1:((i:Int)<(n:Int)):=by omega
    have h2:(0:Int)<=(i:Int):=by omega
    simp only [A7j,hl,A0 h1,A0 h2,A8];have hr:rd (.int .u8) (marked m n) (i:Int)=u8.wrap (m+(i:Int)):=by
      rw [A15 (by rw [hl];exact hi)];simp [marked]
    rw [hr,w64 (by omega) (by omega),w64 (by omega) (by omega)];simp only [R1,C3,A3,Int.natCast_add,Int.natCast_one,Int.add_assoc]
  · simp [A7j,hl]
theorem C65(a:List Int)(h:Sm maxLen (.sl 0 (.int .u8)) a):D2H (A5i a) (Sm 1048576 (.sl 0 (.int .u8)) a):=by
  intro l h0 h1;refine ⟨_,E1B a l h1 h0 h.1,?_,fun hr=>⟨?_,fun x _=>trivial⟩⟩
  · split<;>omega
  · split at hr<;>omega
theorem C66(a:List Int)(h:Sm 1048576 (.sl 0 (.int .u8)) a):A3B a=some (a,()):=D2I a (by have:=h.1;omega)
theorem E7m(a:B7G)(h:Sm maxLen B4i a):D2H (C4B a) (Sm 1048576 B4i a):=by
  intro l h0 h1;simp only [C4B,C8m];have z1:a.2.1.size<=9223372036854775807:=(Sm.l (Sm.r h));rw [w64 (n:=l-(a.2.1.size:Int)) (by omega) (by omega)];by_cases n1:l-(a.2.1.size:Int)<0
  · rw [A0 n1];exact ⟨-1,rfl,by omega,fun h=>by omega⟩
  rw [A1 n1];simp only [A3];exact ⟨_,rfl,by omega,fun _=>⟨by simp [Sm],⟨by show a.2.1.size<=1048576;omega,by simp [Sm]⟩⟩⟩
theorem D8S(a:I1)(h:Sm maxLen A03 a):D2H (B3K a) (Sm 1048576 A03 a):=by
  intro l h0 h1;simp only [B3K,B9E];obtain ⟨r1,e1,u1,v1⟩:=C65 a.2.2 (Sm.r (Sm.r h)) l (by omega) (by omega);rw [e1];simp only [A5];by_cases n1:r1<0
  · rw [A0 n1];exact ⟨-1,rfl,by omega,fun h=>by omega⟩
  rw [A1 n1];simp only [A3];exact ⟨_,rfl,by omega,fun _=>⟨by simp [Sm],⟨by simp [Sm],v1 (by omega)⟩⟩⟩
theorem E1C(a:B1)(h:Sm maxLen B8 a):D2H (A8a a) (Sm 1048576 B8 a):=by
  intro l h0 h1;simp only [A8a,C2U];have z1:a.1.size<=9223372036854775807:=(Sm.l h);rw [w64 (n:=l-(a.1.size:Int)) (by omega) (by omega)];by_cases n1:l-(a.1.size:Int)<0
  · rw [A0 n1];exact ⟨-1,rfl,by omega,fun h=>by omega⟩
  rw [A1 n1];simp only [A3];have z2:a.2.size<=9223372036854775807:=(Sm.r h);rw [w64 (n:=(l-(a.1.size:Int))-(a.2.size:Int)) (by omega) (by omega)];by_cases n2:(l-(a.1.size:Int))-(a.2.size:Int)<0
  · rw [A0 n2];exact ⟨-1,rfl,by omega,fun h=>by omega⟩
  rw [A1 n2];simp only [A3];exact ⟨_,rfl,by omega,fun _=>⟨by show a.1.size<=1048576;omega,by show a.2.size<=1048576;omega⟩⟩
theorem D8T(a:List B1)(h:Sm maxLen (.sl 161 B8) a):D2H (B3I a) (Sm 1048576 (.sl 161 B8) a):=by
  have hl:a.length<=9223372036854775807:=h.1;intro l h0 h1;simp only [B3I,B9D];rw [w64 (by omega) (by omega)];by_cases hn:l-(a.length:Int)<0
  · rw [A0 hn];exact ⟨-1,rfl,by omega,fun h=>by omega⟩
  rw [A1 hn];simp only [A3];obtain ⟨r,e,h2,h3⟩:=E3V A8a (fun x=>Sm 1048576 B8 x) (A98 A8a a) a h.1 (fun x hx=>E1C x (h.2 x hx)) (by
    intro i hi l;have g1:((i:Int)<(a.length:Int)):=by omega
    have g2:(0:Int)<=(i:Int):=by omega
    simp only [A98,A0 g1,A0 g2,A8];rw [A15 (k:=B8) (xs:=a) hi]
    ) (fun l=>by simp [A98]) (l-(a.length:Int)) (by omega) (by omega)
  exact ⟨r,e,by omega,fun h=>⟨by omega,h3 h⟩⟩
theorem D2J(a:D6)(h:Sm maxLen C7K a):D2H (B66 a) (Sm 1048576 C7K a):=by
  intro l h0 h1;simp only [B66,C2V];obtain ⟨r1,e1,u1,v1⟩:=D8T a.2 (Sm.r h) l (by omega) (by omega);rw [e1];simp only [A5];by_cases n1:r1<0
  · rw [A0 n1];exact ⟨-1,rfl,by omega,fun h=>by omega⟩
  rw [A1 n1];simp only [A3];exact ⟨_,rfl,by omega,fun _=>⟨by simp [Sm],v1 (by omega)⟩⟩
theorem E7n(a:L7)(h:Sm maxLen E6 a):D2H (B4R a) (Sm 1048576 E6 a):=by
  intro l h0 h1;simp only [B4R,C8n];obtain ⟨r1,e1,u1,v1⟩:=E7m a.2.2.1 (Sm.l (Sm.r (Sm.r h))) l (by omega) (by omega);rw [e1];simp only [A5];by_cases n1:r1<0
  · rw [A0 n1];exact ⟨-1,rfl,by omega,fun h=>by omega⟩
  rw [A1 n1];simp only [A3];obtain ⟨r2,e2,u2,v2⟩:=C65 a.2.2.2 (Sm.r (Sm.r (Sm.r h))) r1 (by omega) (by omega);rw [e2];simp only [A5];by_cases n2:r2<0
  · rw [A0 n2];exact ⟨-1,rfl,by omega,fun h=>by omega⟩
  rw [A1 n2];simp only [A3];exact ⟨_,rfl,by omega,fun _=>⟨by simp [Sm],⟨by simp [Sm],⟨v1 (by omega),v2 (by omega)⟩⟩⟩⟩
theorem E4u(a:List L7)(h:Sm maxLen (.sl 180 E6) a):D2H (B9G a) (Sm 1048576 (.sl 180 E6) a):=by
  have hl:a.length<=9223372036854775807:=h.1;intro l h0 h1;simp only [B9G,C5e];rw [w64 (by omega) (by omega)];by_cases hn:l-(a.length:Int)<0
  · rw [A0 hn];exact ⟨-1,rfl,by omega,fun h=>by omega⟩
  rw [A1 hn];simp only [A3];obtain ⟨r,e,h2,h3⟩:=E3V B4R (fun x=>Sm 1048576 E6 x) (B3L B4R a) a h.1 (fun x hx=>E7n x (h.2 x hx)) (by
    intro i hi l;have g1:((i:Int)<(a.length:Int)):=by omega
    have g2:(0:Int)<=(i:Int):=by omega
    simp only [B3L,A0 g1,A0 g2,A8];rw [A15 (k:=E6) (xs:=a) hi]
    ) (fun l=>by simp [B3L]) (l-(a.length:Int)) (by omega) (by omega)
  exact ⟨r,e,by omega,fun h=>⟨by omega,h3 h⟩⟩
theorem E4v(a:J5)(h:Sm maxLen D20 a):D2H (B4j a) (Sm 1048576 D20 a):=by
  intro l h0 h1;simp only [B4j,C5f];obtain ⟨r1,e1,u1,v1⟩:=C65 a.2.1 (Sm.l (Sm.r h)) l (by omega) (by omega);rw [e1];simp only [A5];by_cases n1:r1<0
  · rw [A0 n1];exact ⟨-1,rfl,by omega,fun h=>by omega⟩
  rw [A1 n1];simp only [A3];obtain ⟨r2,e2,u2,v2⟩:=D8S a.2.2.1 (Sm.l (Sm.r (Sm.r h))) r1 (by omega) (by omega);rw [e2];simp only [A5];by_cases n2:r2<0
  · rw [A0 n2];exact ⟨-1,rfl,by omega,fun h=>by omega⟩
  rw [A1 n2];simp only [A3];obtain ⟨r3,e3,u3,v3⟩:=D2J a.2.2.2.1 (Sm.l (Sm.r (Sm.r (Sm.r h)))) r2 (by omega) (by omega);rw [e3];simp only [A5];by_cases n3:r3<0
  · rw [A0 n3];exact ⟨-1,rfl,by omega,fun h=>by omega⟩
  rw [A1 n3];simp only [A3];obtain ⟨r4,e4,u4,v4⟩:=D2J a.2.2.2.2.1 (Sm.l (Sm.r (Sm.r (Sm.r (Sm.r h))))) r3 (by omega) (by omega);rw [e4];simp only [A5];by_cases n4:r4<0
  · rw [A0 n4];exact ⟨-1,rfl,by omega,fun h=>by omega⟩
  rw [A1 n4];simp only [A3];obtain ⟨r5,e5,u5,v5⟩:=E4u a.2.2.2.2.2.1 (Sm.l (Sm.r (Sm.r (Sm.r (Sm.r (Sm.r h)))))) r4 (by omega) (by omega);rw [e5];simp only [A5];by_cases n5:r5<0
  · rw [A0 n5];exact ⟨-1,rfl,by omega,fun h=>by omega⟩
  rw [A1 n5];simp only [A3];exact ⟨_,rfl,by omega,fun _=>⟨by simp [Sm],⟨v1 (by omega),⟨v2 (by omega),⟨v3 (by omega),⟨v4 (by omega),⟨v5 (by omega),⟨by simp [Sm],by simp [Sm]⟩⟩⟩⟩⟩⟩⟩⟩
theorem E7o(a:B7G)(h:Sm 1048576 B4i a):C4D a=some (a,()):=by
  simp only [C4D,C8o,A5]
theorem D8U(a:I1)(h:Sm 1048576 A03 a):B3P a=some (a,()):=by
  simp only [B3P,B9J,A5,C66 a.2.2 (Sm.r (Sm.r h))]
theorem E1D(a:B1)(h:Sm 1048576 B8 a):B67 a=some (a,()):=by
  simp only [B67,C2a,A5]
theorem D8V(a:List B1)(h:Sm 1048576 (.sl 161 B8) a):B3N a=some (a,()):=by
  have hl:a.length<=1048576:=h.1;simp only [B3N,B9I];rw [A0 (show (0:Int)<=(a.length:Int) by omega),D5,A0 (by omega),A0 (by omega)];simp only [A8];refine E3W _ a _ (by simp only [maxLen];omega) (fun i hi b hb=>?_) (fun b=>by simp [B4k]);have h1:((i:Int)<(a.length:Int)):=by omega
  have h2:(0:Int)<=(i:Int):=by omega
  simp only [B4k,hb,A0 h1,A0 h2,A8];rw [A15 (k:=B8) (xs:=a) hi];rw [E1D _ (h.2 _ (F3 hi))];rfl
theorem D2K(a:D6)(h:Sm 1048576 C7K a):B69 a=some (a,()):=by
  simp only [B69,C2b,A5,D8V a.2 (Sm.r h)]
theorem E7p(a:L7)(h:Sm 1048576 E6 a):C4E a=some (a,()):=by
  simp only [C4E,C8p,A5,E7o a.2.2.1 (Sm.l (Sm.r (Sm.r h))),C66 a.2.2.2 (Sm.r (Sm.r (Sm.r h)))]
theorem E4w(a:List L7)(h:Sm 1048576 (.sl 180 E6) a):B9M a=some (a,()):=by
  have hl:a.length<=1048576:=h.1;simp only [B9M,C5g];rw [A0 (show (0:Int)<=(a.length:Int) by omega),D5,A0 (by omega),A0 (by omega)];simp only [A8];refine E3W _ a _ (by simp only [maxLen];omega) (fun i hi b hb=>?_) (fun b=>by simp [B9K]);have h1:((i:Int)<(a.length:Int)):=by omega
  have h2:(0:Int)<=(i:Int):=by omega
  simp only [B9K,hb,A0 h1,A0 h2,A8];rw [A15 (k:=E6) (xs:=a) hi];rw [E7p _ (h.2 _ (F3 hi))];rfl
theorem E50(a:J5)(h:Sm 1048576 D20 a):B4l a=some (a,()):=by
  simp only [B4l,C5h,A5,C66 a.2.1 (Sm.l (Sm.r h)),D8U a.2.2.1 (Sm.l (Sm.r (Sm.r h))),D2K a.2.2.2.1 (Sm.l (Sm.r (Sm.r (Sm.r h)))),D2K a.2.2.2.2.1 (Sm.l (Sm.r (Sm.r (Sm.r (Sm.r h))))),E4w a.2.2.2.2.2.1 (Sm.l (Sm.r (Sm.r (Sm.r (Sm.r (Sm.r h))))))]
theorem A1A(a b c:Int):P6 a b c=some (decide (b<=a/\a<=c),()):=by
  simp only [P6,D28];by_cases h:b<=a<;>by_cases h2:a<=c<;>simp [h,h2]
theorem R5(a b c:Int):T3 a b c=some (decide (b<=a/\a<=c),()):=A1A a b c
def D6W(s:X0)(i:Nat):Bool:=decide (97<=bt s i/\bt s i<=122)||decide (48<=bt s i/\bt s i<=57)
def idB(s:X0):Bool:=(List.range s.size).all (D6W s)&&decide (1<=(s.size:Int)/\(s.size:Int)<=8)
theorem E1E(s:X0)(h:s.size<=maxLen)(i:Nat)(hi:i<s.size):B6Q P6 s ((i:Int),())=if D6W s i then some (.inl (((i+1:Nat):Int),())) else some (.inr (.inr (false,()))):=by
  have h1:((i:Int)<(s.size:Int)):=by omega
  have h2:(0:Int)<=(i:Int):=by omega
  simp only [B6Q,A0 h1,A0 h2,A8,E1A,A1A,A5];rw [w64 (by omega) (by simp only [maxLen] at h;omega)];unfold D6W;cases decide (97<=bt s i/\bt s i<=122)<;>cases decide (48<=bt s i/\bt s i<=57)<;>simp
theorem E51(s:X0)(h:s.size<=maxLen)(i:Nat)(hi:i<s.size):C02 s ((i:Int),())=if D6W s i then some (.inl (((i+1:Nat):Int),())) else some (.inr (.inr (false,()))):=by
  have h1:((i:Int)<(s.size:Int)):=by omega
  have h2:(0:Int)<=(i:Int):=by omega
  simp only [C02,A0 h1,A0 h2,A8];rw [w64 (by omega) (by simp only [maxLen] at h;omega)];unfold D6W;by_cases a:bt s i>=97<;>by_cases b:bt s i<=122<;>by_cases c:bt s i>=48<;>by_cases d:bt s i<=57<;>simp [a,b,c,d]
theorem F0S{s:X0}{f:Int×Unit->Option ((Int×Unit)⊕(Unit⊕(Bool×Unit)))}(hs:∀ i:Nat,i<s.size->f ((i:Int),())=if D6W s i then some (.inl (((i+1:Nat):Int),())) else some (.inr (.inr (false,()))))
    (he:f ((s.size:Int),())=some (.inr (.inl ()))) (g:Unit->Option (Bool×Unit)) (hg:g ()=some (decide (1<=(s.size:Int)/\(s.size:Int)<=8),())):I2 (F4 f (0,())) g=some (idB s,()):=by
  obtain ⟨i,h1,h2,h3,h4⟩:=A3e f (fun i=>((i:Int),())) s.size (fun i=>if i<s.size then .inr (false,()) else .inl ()) (D6W s) (fun i hi=>by
    simp only [A6 hi];exact hs i hi) (by simp only [A2W,L5];exact he)
  have h4':F4 f (0,())=some (if i<s.size then .inr (false,()) else .inl ()):=h4;rw [h4'];unfold idB;by_cases hi:i<s.size
  · rw [A6 hi]
    have:(List.range s.size).all (D6W s)=false:=by
      rw [A3V];exact ⟨i,O8.2 hi,by simp [h3 hi]⟩
    simp [I2,this]
  · rw [A4 hi]
    have:(List.range s.size).all (D6W s)=true:=by
      rw [C4];intro j hj;exact h2 j (by have:=O8.1 hj;omega)
    simp only [I2,this,hg,K2]
theorem E7q(s:X0)(h:s.size<=maxLen):B8Q s=some (idB s,()):=by
  simp only [B8Q,C8v];exact F0S (E1E s h) (by simp [B6Q]) _ (by simp only [A1A,A5])
theorem E9s(s:X0)(h:s.size<=maxLen):C7S s=some (idB s,()):=by
  simp only [C7S,D26];exact F0S (E51 s h) (by simp [C02]) _ (by simp only [R5,A5])
theorem E7r{R:Type}(a:Option R):eqO a a=a:=by
  unfold eqO;rw [A6 rfl]
theorem D3w(a:List Int)(h:a.length<=140737488355328):H1 a=some (a,()):=by
  simp only [H1,A1L];have e:(bif decide (([]:List Int).length+a.length<=9223372036854775807) then bif decide ((([]:List Int).length+a.length)*1<=140737488355328) then some (([]++a),()) else none else none)=some (a,()):=by
    rw [A0 (by simp;omega),A0 (by simp;omega)];simp
  rw [e];cases a with
  | nil=>simp [E7r]
  | cons x xs=>simp
def E7s(n:Int)(k j:Nat):Int:=u8.wrap (n.fdiv (2 ^ (8*(k-1-j))))
def big(n:Int)(k:Nat):List Int:=(List.range k).map (E7s n k)
theorem B1s(n:Int)(k:Nat):(big n k).length=k:=by simp [big]
theorem F2E{n:Int}(h0:0<=n)(h1:n<18446744073709551616):u64.wrap n=n:=by
  simp only [IntKind.wrap,IntKind.bits,IntKind.signed];simp;omega
theorem E3a(v:Int)(b:List Int)(k:Nat)(hk:k<=8)(hb:b.length+8<=140737488355328):F4 (A4R (v,())) ((k:Int)-1,b,())=some (b++big v k,()):=by
  have key:=L3 (A4R (v,())) (fun j=>((k:Int)-1-(j:Int),b++(List.range j).map (E7s v k),())) k (b++big v k,()) (fun j hj=>?_) ?_
  · simpa using key
  · have h1:(k:Int)-1-(j:Int)>=0:=by omega
    have e1:(k:Int)-1-(j:Int)=((k-1-j:Nat):Int):=by omega
    have hs:u64.wrap (i64.wrap (8*((k:Int)-1-(j:Int))))=((8*(k-1-j):Nat):Int):=by
      rw [w64 (by omega) (by omega),F2E (by omega) (by omega)];omega
    have hm:min (8*(k-1-j)) i64.bits=8*(k-1-j):=A0H (by simp only [IntKind.bits];omega);simp only [A4R,A0 h1,A8,hs,D5,hm];rw [A1 (by omega)];simp only [A3];have hl:(b++(List.range j).map (E7s v k)).length=b.length+j:=by simp
    rw [A0 (by rw [hl];simp;omega),A0 (by rw [hl];simp;omega)];simp only [A8];rw [w64 (by omega) (by omega),List.range_succ,A4p,B3];have e2:(k:Int)-1-(j:Int)-1=(k:Int)-1-((j+1:Nat):Int):=by omega
    rw [e2];rfl
  · have h1:¬ ((k:Int)-1-(k:Int)>=0):=by omega
    simp only [A4R,A1 h1,A3];rfl
def A8h(n:Int):Int:=if n<0 then 0 else n
theorem B6d(b:List Int)(n:Int)(k:Nat)(h1:1<=k)(hk:k<=8)(hb:b.length+8<=140737488355328):B57 b n (k:Int)=some (b++big (A8h n) k,()):=by
  simp only [B57,C60];rw [A0 (by simp;omega),A0 (by simp;omega)];have e:(bif decide (n<0) then some ((0:Int),()) else some (n,()))=some (A8h n,()):=by
    unfold A8h;by_cases h:n<0<;>simp [h]
  simp only [A8,e,A5,A1A];rw [A0 (by omega)];simp only [C3,A3,H7];rw [w64 (by omega) (by omega)];exact E3a _ b k hk hb
theorem B6e(b:List Int)(n:Int)(k:Nat)(hk:k<=8)(hb:b.length+8<=140737488355328):B53 b n (k:Int)=some (b++big (A8h n) k,()):=by
  simp only [B53,C5s];have e:C07 n=A4R (A8h n,()):=by
    funext l
    have:(bif decide (0>n) then (0:Int) else n)=A8h n:=by
      unfold A8h;by_cases h:n<0<;>simp [h]
    simp only [C07,A4R,this]
  rw [e,w64 (by omega) (by omega)];exact E3a _ b k hk hb
abbrev Frame:=Int×Int×Int×List Int
def A45(f:Frame):Bool:=decide (0<=f.1/\f.1<=255)&&decide (0<=f.2.1/\f.2.1<=255)&&decide (0<=f.2.2.1/\f.2.2.1<=2147483647)&&decide ((f.2.2.2.length:Int)<=1000)
theorem C7d(f:Frame):A8c f=some (A45 f,()):=by
  simp only [A8c,C2k,A1A,A5,A45];cases decide (0<=f.1/\f.1<=255)<;>cases decide (0<=f.2.1/\f.2.1<=255)<;>cases decide (0<=f.2.2.1/\f.2.2.1<=2147483647)<;>simp
def B5E(f:Frame):List Int:=big (f.2.2.2.length:Int) 3 ++ [u8.wrap f.1,u8.wrap f.2.1]++big (A8h f.2.2.1) 4++f.2.2.2
theorem C53(b:List Int)(f:Frame)(h:b.length+f.2.2.2.length+24<=140737488355328):A9R b f=some (b++B5E f,()):=by
  simp only [A9R,C08];rw [show (3:Int)=((3:Nat):Int) from rfl,B6e b _ 3 (by omega) (by omega)];have hc:A8h (f.2.2.2.length:Int)=(f.2.2.2.length:Int):=by unfold A8h;rw [A4 (by omega)]
  simp only [A5,hc];have hl:=B1s (f.2.2.2.length:Int) 3;rw [A0 (by simp [hl];omega),A0 (by simp [hl];omega)];simp only [A8];rw [show (4:Int)=((4:Nat):Int) from rfl,B6e _ _ 4 (by omega) (by simp [hl];omega)];simp only [A5];have hl4:=B1s (A8h f.2.2.1) 4;rw [A0 (by simp [hl,hl4];omega),A0 (by simp [hl,hl4];omega)];simp [B5E]
theorem D40(f:Frame)(h:f.2.2.2.length+24<=140737488355328):B3o f=some (if A45 f then B5E f else [],()):=by
  simp only [B3o,C0D,pe,C7d,A5];cases A45 f with
  | false=>rfl
  | true=>
    simp only [C3,A3];rw [show (3:Int)=((3:Nat):Int) from rfl,B6d [] _ 3 (by omega) (by omega) (by simp)];have hc:A8h (f.2.2.2.length:Int)=(f.2.2.2.length:Int):=by unfold A8h;rw [A4 (by omega)]
    simp only [hc];have hl:=B1s (f.2.2.2.length:Int) 3;rw [A0 (by simp [hl]),A0 (by simp [hl])];simp only [A8];rw [show (4:Int)=((4:Nat):Int) from rfl,B6d _ _ 4 (by omega) (by omega) (by simp [hl])];have hl4:=B1s (A8h f.2.2.1) 4;simp only;rw [A0 (by simp [hl,hl4];omega),A0 (by simp [hl,hl4];omega)];simp [B5E]
theorem D8W{n:Nat}(h:n<9223372036854775808):i64.wrap (n:Int)=(n:Int):=w64 (by omega) (by omega)
theorem bits_nat{w x:Nat}(h:x<2 ^ w):(BitVec.ofInt w (x:Int)).toNat=x:=by
  rw [BitVec.ofInt_natCast,BitVec.toNat_ofNat];exact Nat.mod_eq_of_lt h
theorem D2L{a:List Int}(h:Byt a)(i:Nat):Byt (a.take i):=fun x hx=>h x (A63 hx)
abbrev F2F:=Int×Int
def far(c:D6T)(off:Int):D6T:=if 0<=off/\off<=(c.2.1.length:Int) then (if off=(c.2.1.length:Int) then (c.1,c.2.1,4,off) else (c.1,c.2.1,3,off)) else (c.1,c.2.1,6,c.2.2.2)
def D8a(step status:Int):Int:=
  if status=507 then (if step=2 then 6 else step)
  else if status=404 then (if step=1 then 6 else 1)
  else if status=409 then (if step=3 then 0 else if step=2 then 6 else 2)
  else if status=201 then (if step=1 then 0 else 6)
  else if status=204 then (if step=3 then 0 else 6)
  else if status=200 then (if step=2 then 0 else if step=4 then 5 else 6)
  else 6
def hear(c:D6T)(r:F2F):D6T:=if D8a c.2.2.1 r.1=0 then far c r.2 else (c.1,c.2.1,D8a c.2.2.1 r.1,c.2.2.2)
theorem F18{x y:Int}(hx:0<=x/\x<256)(hy:0<=y/\y<256)(h:UInt8.ofNat x.toNat=UInt8.ofNat y.toNat):x=y:=by
  have:=N1 UInt8.toNat h;simp only [UInt8.toNat_ofNat'] at this;omega
theorem D8b:A6G=A2A:=rfl
theorem E1F:A5k=A2R:=rfl
theorem C54(g:I1):∃ b,A2A g=some (b,()):=by
  simp only [A2A,A9a,A1A,A5];by_cases h1:g.1=0
  · rw [A0 h1]
    cases g.2.1<;>exact ⟨_,rfl⟩
  · rw [A1 h1]
    cases decide (1<=g.1/\g.1<=2147483647)<;>exact ⟨_,rfl⟩
theorem D8c(t:D6)(h:t.2.length<=maxLen):∃ b,A8G t=some (b,()):=by
  obtain ⟨z,e,_⟩:=C90 (A6T B55 t) (fun l=>((t.2.length:Int)-l.2.1).toNat) (fun l=>0<=l.2.1) (fun _=>True) (fun l hl=>by
    simp only [A6T];by_cases hi:l.2.1<(t.2.length:Int)
    · simp only [A0 hi,A0 hl,A8,B55,C7W,A5]
      rw [w64 (n:=l.2.1+1) (by omega) (by simp only [maxLen] at h;omega)];exact .inl ⟨_,rfl,by simp only;omega,by simp only;omega⟩
    · simp only [A1 hi,A3]
      exact .inr ⟨_,rfl,trivial⟩) (0,0,()) (by simp)
  exact ⟨z.1,e⟩
theorem B3s(t:D6)(h:t.2.length<=maxLen):∃ b,A2R t=some (b,()):=by
  obtain ⟨b,hb⟩:=D8c t h;simp only [A2R,B6H,A1A,A5,hb];cases decide (0<=t.1/\t.1<=4096)<;>exact ⟨_,rfl⟩
def A9o(c:J5)(i:Nat):Bool:=
  decide ((rd E6 c.2.2.2.2.2.1 (i:Int)).1.tmod 2=1)&&decide (1<=(rd E6 c.2.2.2.2.2.1 (i:Int)).1/\(rd E6 c.2.2.2.2.2.1 (i:Int)).1<=c.2.2.2.2.2.2.1) &&
  (decide (i=0)||!decide ((rd E6 c.2.2.2.2.2.1 (i:Int)).1<=(rd E6 c.2.2.2.2.2.1 ((i:Int)-1)).1)) &&
  (decide ((rd E6 c.2.2.2.2.2.1 (i:Int)).2.1=1)||decide ((rd E6 c.2.2.2.2.2.1 (i:Int)).2.1=2))&&!decide ((List.length (rd E6 c.2.2.2.2.2.1 (i:Int)).2.2.2:Int)>2000)
theorem E3b{L:Int×Unit->Option ((Int×Unit)⊕(Unit⊕(Bool×Unit)))}{n:Nat}{go:Nat->Bool}(hs:∀ i:Nat,i<n->L ((i:Int),())=bif go i then some (.inl (((i+1:Nat):Int),())) else some (.inr (.inr (false,()))))
    (he:L ((n:Int),())=some (.inr (.inl ()))) (g:Unit->Option (Bool×Unit)) (b:Bool) (hg:g ()=some (b,())):I2 (F4 L (0,())) g=some (decide (A3f go 0 n=n)&&b,()):=by
  have h:=D8R L (fun i=>((i:Int),())) n (fun i=>if i=n then .inl () else .inr (false,())) go (fun i hi=>by
    rw [hs i hi];cases go i with
    | true=>rfl
    | false=>simp only [J7,L5,A3];rw [A4 (by omega)]) (by rw [he,A6 rfl])
  have h':F4 L (0,())=_:=h;rw [h'];by_cases hn:A3f go 0 n=n
  · rw [A6 hn,A0 hn];simp [I2,hg]
  · rw [A4 hn,A1 hn];simp [I2]
theorem D8d(c:J5)(h:c.2.2.2.2.2.1.length<=maxLen)(i:Nat)(hi:i<c.2.2.2.2.2.1.length):B1c P6 c ((i:Int),())=bif A9o c i then some (.inl (((i+1:Nat):Int),())) else some (.inr (.inr (false,()))):=by
  have h1:((i:Int)<(c.2.2.2.2.2.1.length:Int)):=by omega
  have h2:(0:Int)<=(i:Int):=by omega
  simp only [maxLen] at h;simp only [B1c,A0 h1,A0 h2,A8,A1A,A5,A9o];rw [w64 (n:=(i:Int)+1) (by omega) (by omega),w64 (n:=(i:Int)-1) (by omega) (by omega)];have e1:((i+1:Nat):Int)=(i:Int)+1:=by omega
  rw [e1];have hge:decide ((rd E6 c.2.2.2.2.2.1 ((i:Int)-1)).1>=(rd E6 c.2.2.2.2.2.1 (i:Int)).1)=decide ((rd E6 c.2.2.2.2.2.1 (i:Int)).1<=(rd E6 c.2.2.2.2.2.1 ((i:Int)-1)).1):=rfl;rw [hge];by_cases hz:i=0
  · have g1:¬ (i:Int)>0:=by omega
    simp only [A1 g1,A0 hz,A3,Bool.true_or,C5K];generalize decide ((rd E6 c.2.2.2.2.2.1 (i:Int)).1.tmod 2=1)=x1;generalize decide (1<=(rd E6 c.2.2.2.2.2.1 (i:Int)).1/\(rd E6 c.2.2.2.2.2.1 (i:Int)).1<=c.2.2.2.2.2.2.1)=x2;generalize decide ((rd E6 c.2.2.2.2.2.1 (i:Int)).2.1=1)=x4;generalize decide ((rd E6 c.2.2.2.2.2.1 (i:Int)).2.1=2)=x5;generalize decide ((List.length (rd E6 c.2.2.2.2.2.1 (i:Int)).2.2.2:Int)>2000)=x6;cases x1<;>cases x2<;>cases x4<;>cases x5<;>cases x6<;>rfl
  · have g1:(i:Int)>0:=by omega
    have g2:(0:Int)<=(i:Int)-1:=by omega
    have g3:(i:Int)-1<(c.2.2.2.2.2.1.length:Int):=by omega
    simp only [A0 g1,A0 g2,A0 g3,A1 hz,A8,C5J];generalize decide ((rd E6 c.2.2.2.2.2.1 (i:Int)).1.tmod 2=1)=x1;generalize decide (1<=(rd E6 c.2.2.2.2.2.1 (i:Int)).1/\(rd E6 c.2.2.2.2.2.1 (i:Int)).1<=c.2.2.2.2.2.2.1)=x2;generalize decide ((rd E6 c.2.2.2.2.2.1 (i:Int)).1<=(rd E6 c.2.2.2.2.2.1 ((i:Int)-1)).1)=x3;generalize decide ((rd E6 c.2.2.2.2.2.1 (i:Int)).2.1=1)=x4;generalize decide ((rd E6 c.2.2.2.2.2.1 (i:Int)).2.1=2)=x5;generalize decide ((List.length (rd E6 c.2.2.2.2.2.1 (i:Int)).2.2.2:Int)>2000)=x6;cases x1<;>cases x2<;>cases x3<;>cases x4<;>cases x5<;>cases x6<;>rfl
theorem D8e(c:J5)(h:c.2.2.2.2.2.1.length<=maxLen)(i:Nat)(hi:i<c.2.2.2.2.2.1.length):B3b T3 c ((i:Int),())=bif A9o c i then some (.inl (((i+1:Nat):Int),())) else some (.inr (.inr (false,()))):=by
  have h1:((i:Int)<(c.2.2.2.2.2.1.length:Int)):=by omega
  have h2:(0:Int)<=(i:Int):=by omega
  simp only [maxLen] at h;simp only [B3b,A0 h1,A0 h2,A8,R5,A5,A9o];rw [w64 (n:=(i:Int)+1) (by omega) (by omega),w64 (n:=(i:Int)-1) (by omega) (by omega)];have e1:((i+1:Nat):Int)=(i:Int)+1:=by omega
  rw [e1];by_cases hz:i=0
  · have g1:¬ (i:Int)>0:=by omega
    simp only [A1 g1,A0 hz,A3,Bool.true_or,C5K];generalize decide ((rd E6 c.2.2.2.2.2.1 (i:Int)).1.tmod 2=1)=x1;generalize decide (1<=(rd E6 c.2.2.2.2.2.1 (i:Int)).1/\(rd E6 c.2.2.2.2.2.1 (i:Int)).1<=c.2.2.2.2.2.2.1)=x2;generalize decide ((rd E6 c.2.2.2.2.2.1 (i:Int)).2.1=1)=x4;generalize decide ((rd E6 c.2.2.2.2.2.1 (i:Int)).2.1=2)=x5;generalize decide ((List.length (rd E6 c.2.2.2.2.2.1 (i:Int)).2.2.2:Int)>2000)=x6;cases x1<;>cases x2<;>cases x4<;>cases x5<;>cases x6<;>rfl
  · have g1:(i:Int)>0:=by omega
    have g2:(0:Int)<=(i:Int)-1:=by omega
    have g3:(i:Int)-1<(c.2.2.2.2.2.1.length:Int):=by omega
    simp only [A0 g1,A0 g2,A0 g3,A1 hz,A8,C5J];generalize decide ((rd E6 c.2.2.2.2.2.1 (i:Int)).1.tmod 2=1)=x1;generalize decide (1<=(rd E6 c.2.2.2.2.2.1 (i:Int)).1/\(rd E6 c.2.2.2.2.2.1 (i:Int)).1<=c.2.2.2.2.2.2.1)=x2;generalize decide ((rd E6 c.2.2.2.2.2.1 (i:Int)).1<=(rd E6 c.2.2.2.2.2.1 ((i:Int)-1)).1)=x3;generalize decide ((rd E6 c.2.2.2.2.2.1 (i:Int)).2.1=1)=x4;generalize decide ((rd E6 c.2.2.2.2.2.1 (i:Int)).2.1=2)=x5;generalize decide ((List.length (rd E6 c.2.2.2.2.2.1 (i:Int)).2.2.2:Int)>2000)=x6;cases x1<;>cases x2<;>cases x3<;>cases x4<;>cases x5<;>cases x6<;>rfl
def C1l(c:J5):Bool:=decide (A3f (A9o c) 0 c.2.2.2.2.2.1.length=c.2.2.2.2.2.1.length)&&decide ((c.2.2.2.2.2.1.length:Int)<=100)
theorem D5M(c:J5)(h:c.2.2.2.2.2.1.length<=maxLen):B6J c=some (C1l c,()):=by
  simp only [B6J,C2i];exact E3b (D8d c h) (by simp [B1c]) _ _ rfl
theorem D5N(c:J5)(h:c.2.2.2.2.2.1.length<=maxLen):B9i c=some (C1l c,()):=by
  simp only [B9i,C5m];exact E3b (D8e c h) (by simp [B3b]) _ _ rfl
theorem E3c{x y:Nat}(hx:x<9223372036854775808)(hy:y<9223372036854775808):bOr .i64 (x:Int) (y:Int)=((x ||| y:Nat):Int):=by
  have h:x ||| y<2 ^ 63:=C8V (by omega) (by omega);unfold bOr;rw [BitVec.toNat_or,bits_nat (by simp only [IntKind.bits];omega),bits_nat (by simp only [IntKind.bits];omega)];exact D8W (by omega)
def P7(b:List Int)(at_:Nat):Nat->Nat
  | 0=>0
  | j+1=>(P7 b at_ j*256) ||| (b.getD (at_+j) 0).toNat
theorem D2M{b:List Int}(hb:Byt b)(i:Nat):0<=b.getD i 0/\b.getD i 0<256:=by
  by_cases h:i<b.length
  · simp only [List.getD,C8 h,A1K]
    exact hb _ (F3 h)
  · simp only [List.getD,C21 (show b.length<=i by omega),Option.getD_none]
    omega
theorem C7e{b:List Int}(hb:Byt b)(at_:Nat):∀ j,P7 b at_ j<2 ^ (8*j)
  | 0=>by simp [P7]
  | j+1=>by
    have h1:=C7e hb at_ j;have h2:=D2M hb (at_+j);have e:2 ^ (8*(j+1))=2 ^ (8*j)*256:=by rw [show 8*(j+1)=8*j+8 by omega,B78]
    refine C8V ?_ ?_
    · rw [e];exact Nat.mul_lt_mul_of_pos_right h1 (by omega)
    · have:1<=2 ^ (8*j):=Nat.one_le_two_pow
      rw [e];omega
theorem D8f{b:List Int}(hb:Byt b)(at_ j:Nat)(hj:j<7)(x:Int)(hx:x=b.getD (at_+j) 0):bOr .i64 (i64.wrap (((P7 b at_ j:Nat):Int)*256)) (i64.wrap x)=((P7 b at_ (j+1):Nat):Int):=by
  have h1:=C7e hb at_ j;have h2:=D2M hb (at_+j);have h3:2 ^ (8*j)<=2 ^ 48:=A0S (by omega) (by omega);subst hx;rw [show ((P7 b at_ j:Nat):Int)*256=((P7 b at_ j*256:Nat):Int) by omega,D8W (by omega),show b.getD (at_+j) 0=(((b.getD (at_+j) 0).toNat:Nat):Int) by omega,D8W (by omega),E3c (by omega) (by omega)];simp only [P7,D5]
def A1r(b:List Int)(a:Int)(k:Nat):Int×Bool×Unit:=if 0<=a/\a<=(b.length:Int)-k then ((P7 b a.toNat k:Int),true,()) else (0,false,())
theorem C0R(b:List Int)(hb:Byt b)(h:b.length<=1000000000000000)(a:Int)(k:Nat)(hk:1<=k/\k<=7):B0q b a (k:Int)=some (A1r b a k):=by
  simp only [B0q,C5u,A1A,A5,A1r];rw [A0 (show (1:Int)<=(k:Int)/\(k:Int)<=7 by omega),w64 (by omega) (by omega)];simp only [C3,A3];by_cases h1:a<0
  · rw [A0 h1,A4 (by omega)];rfl
  rw [A1 h1];by_cases h2:a>(b.length:Int)-k
  · rw [A0 h2,A4 (by omega)];rfl
  rw [A1 h2,A6 (by omega)];simp only [A3,I2];have key:=L3 (A9b (k:Int) a b) (fun j=>((P7 b a.toNat j:Int),(j:Int),())) k ((P7 b a.toNat k:Int),()) (fun j hj=>?_) ?_
  · have e:F4 (A9b (k:Int) a b) (0,0,())=_:=key
    rw [e]
  · have g1:(j:Int)<(k:Int):=by omega
    simp only [A9b,A0 g1,A8];rw [w64 (n:=a+(j:Int)) (by omega) (by omega)];have g2:0<=a+(j:Int):=by omega
    have g3:a+(j:Int)<(b.length:Int):=by omega
    rw [A0 g2,A0 g3];simp only [A8];rw [D8f hb a.toNat j (by omega) _ (by
      rw [show a+(j:Int)=((a.toNat+j:Nat):Int) by omega,C2u (by omega)];simp [List.getD,show a.toNat+j<b.length by omega]),show (j:Int)+1=((j+1:Nat):Int) by omega,D8W (by omega)]
  · simp [A9b]
theorem C0S(b:List Int)(hb:Byt b)(h:b.length<=1000000000000000)(a:Int)(k:Nat)(hk:1<=k/\k<=7):B0i b a (k:Int)=some (A1r b a k):=by
  simp only [B0i,C5l,R5,A5,A1r];rw [A0 (show (1:Int)<=(k:Int)/\(k:Int)<=7 by omega),w64 (n:=(b.length:Int)-(k:Int)) (by omega) (by omega)];simp only [C3,A3];by_cases h1:a<0
  · rw [A0 h1,A4 (by omega)];rfl
  rw [A1 h1];by_cases h2:a>(b.length:Int)-k
  · rw [A0 h2,A4 (by omega)];rfl
  rw [A1 h2,A6 (by omega)];simp only [A3,I2];rw [w64 (n:=a+(k:Int)) (by omega) (by omega),A0 (show 0<=a by omega),A0 (show a<=a+(k:Int) by omega),A0 (show a+(k:Int)<=(b.length:Int) by omega)];simp only [A8];have hlen:((b.take (a+(k:Int)).toNat).drop a.toNat).length=k:=by simp;omega
  have key:=L3 (A9J b a (k:Int)) (fun j=>((P7 b a.toNat j:Int),(j:Int),())) k ((P7 b a.toNat k:Int),()) (fun j hj=>?_) ?_
  · have e:F4 (A9J b a (k:Int)) (0,0,())=_:=key
    rw [e]
  · have g1:(j:Int)<(k:Int):=by omega
    have g2:(0:Int)<=(j:Int):=by omega
    simp only [A9J];rw [w64 (n:=a+(k:Int)) (by omega) (by omega)];simp only [hlen,A0 g1,A0 g2,A8];rw [D8f hb a.toNat j (by omega) _ (by
      rw [C2u (by rw [hlen];exact hj)];simp [List.getD,show a.toNat+j<b.length by omega]),show (j:Int)+1=((j+1:Nat):Int) by omega,D8W (by omega)]
  · simp only [A9J]
    rw [w64 (n:=a+(k:Int)) (by omega) (by omega)];simp [hlen]
def A3J(b:List Int)(a:Int):F6×Int×Int×Unit:=
  if 0<=a/\a<=(b.length:Int)-9 then
    (if (P7 b a.toNat 3:Int)>1000 then ((0,0,0,[]),a,2,())
      else if (P7 b a.toNat 3:Int)>(b.length:Int)-a-9 then ((0,0,0,[]),a,1,())
      else ((rd (.int .u8) b (a+3),rd (.int .u8) b (a+4),W9 .i64 (P7 b (a+5).toNat 4:Int) 2147483647,(b.take (a+9+(P7 b a.toNat 3:Int)).toNat).drop (a+9).toNat),a+9+(P7 b a.toNat 3:Int),0,()))
  else ((0,0,0,[]),a,1,())
theorem D14{b:List Int}(hb:Byt b){i:Int}(h0:0<=i)(h1:i<(b.length:Int)):i64.wrap (rd (.int .u8) b i)=rd (.int .u8) b i:=by
  obtain ⟨n,rfl⟩:∃ n:Nat,i=(n:Int):=⟨i.toNat,by omega⟩;rw [C2u (by omega)];have:=hb b[n] (F3 (by omega));exact w64 (by omega) (by omega)
theorem C2v(b:List Int)(hb:Byt b)(h:b.length<=1000000000000000)(a:Int)(ha:-9223372036854775808<=a/\a<9223372036854775808):A6W b a=some (A3J b a):=by
  simp only [A6W,C0A];rw [show (3:Int)=((3:Nat):Int) from rfl,C0R b hb h a 3 (by omega),show (4:Int)=((4:Nat):Int) from rfl,C0R b hb h _ 4 (by omega)];simp only [A5,A3J];by_cases hin:0<=a/\a<=(b.length:Int)-9
  · have hn:=C7e hb a.toNat 3
    rw [A6 hin];have e3:A1r b a 3=((P7 b a.toNat 3:Int),true,()):=by unfold A1r;rw [A6 (by omega)]
    have e5:i64.wrap (a+5)=a+5:=w64 (by omega) (by omega);have e4:A1r b (a+5) 4=((P7 b (a+5).toNat 4:Int),true,()):=by unfold A1r;rw [A6 (by omega)]
    simp only [e5,e3,e4,C3,A3];by_cases h1:(P7 b a.toNat 3:Int)>1000
    · rw [A0 h1,A6 h1];rfl
    rw [A1 h1,A4 h1];have e9:i64.wrap (i64.wrap ((b.length:Int)-a)-9)=(b.length:Int)-a-9:=by rw [w64 (n:=(b.length:Int)-a) (by omega) (by omega)];exact w64 (by omega) (by omega)
    rw [e9];by_cases h2:(P7 b a.toNat 3:Int)>(b.length:Int)-a-9
    · rw [A0 h2,A6 h2];rfl
    rw [A1 h2,A4 h2];simp only [A3,I2];have w3:i64.wrap (a+((3:Nat):Int))=a+3:=w64 (by omega) (by omega);have w4:i64.wrap (a+((4:Nat):Int))=a+4:=w64 (by omega) (by omega);have w9:i64.wrap (a+9)=a+9:=w64 (by omega) (by omega);have wn:i64.wrap (a+9+(P7 b a.toNat 3:Int))=a+9+(P7 b a.toNat 3:Int):=w64 (by omega) (by omega);simp only [w3,w4,w9,wn];rw [A0 (show 0<=a+3 by omega),A0 (show a+3<(b.length:Int) by omega),A0 (show 0<=a+4 by omega),A0 (show a+4<(b.length:Int) by omega),A0 (show 0<=a+9 by omega),A0 (show a+9<=a+9+(P7 b a.toNat 3:Int) by omega),A0 (show a+9+(P7 b a.toNat 3:Int)<=(b.length:Int) by omega),A0 (by simp;omega),A0 (by simp;omega)];simp only [A8,H7];rw [D14 hb (show 0<=a+3 by omega) (by omega),D14 hb (show 0<=a+4 by omega) (by omega)]
  · rw [A4 hin]
    by_cases h3:0<=a/\a<=(b.length:Int)-3
    · have e5:i64.wrap (a+5)=a+5:=w64 (by omega) (by omega)
      have e4:A1r b (a+5) 4=(0,false,()):=by unfold A1r;rw [A4 (by omega)]
      simp only [e5,e4];cases (A1r b a 3).2.1<;>rfl
    · have e3:A1r b a 3=(0,false,()):=by unfold A1r;rw [A4 (by omega)]
      simp only [e3];rfl
theorem B5F(b:List Int)(hb:Byt b)(h:b.length<=1000000000000000)(a:Int)(ha:-9223372036854775808<=a/\a<9223372036854775808):A4N b a=some (A3J b a):=by
  simp only [A4N,B9f];rw [w64 (n:=(b.length:Int)-9) (by omega) (by omega)];simp only [A3J];by_cases h1:a<0
  · rw [A0 h1,A4 (by omega)];rfl
  rw [A1 h1];by_cases h2:a>(b.length:Int)-9
  · rw [A0 h2,A4 (by omega)];rfl
  rw [A1 h2,A6 (by omega)];have hn:=C7e hb a.toNat 3;simp only [A3,I2];rw [show (3:Int)=((3:Nat):Int) from rfl,C0S b hb h a 3 (by omega),show (4:Int)=((4:Nat):Int) from rfl,C0S b hb h _ 4 (by omega)];have e3:A1r b a 3=((P7 b a.toNat 3:Int),true,()):=by unfold A1r;rw [A6 (by omega)]
  have e5:i64.wrap (a+5)=a+5:=w64 (by omega) (by omega);have e4:A1r b (a+5) 4=((P7 b (a+5).toNat 4:Int),true,()):=by unfold A1r;rw [A6 (by omega)]
  have w9:i64.wrap (a+9)=a+9:=w64 (by omega) (by omega);simp only [A5,e5,e3,e4,w9];by_cases h3:(P7 b a.toNat 3:Int)>1000
  · rw [A0 h3,A6 h3];rfl
  rw [A1 h3,A4 h3,w64 (n:=(b.length:Int)-(a+9)) (by omega) (by omega)];by_cases h4:(P7 b a.toNat 3:Int)>(b.length:Int)-a-9
  · rw [A0 (show (P7 b a.toNat 3:Int)>(b.length:Int)-(a+9) by omega),A6 h4];rfl
  rw [A1 (show ¬ (P7 b a.toNat 3:Int)>(b.length:Int)-(a+9) by omega),A4 h4];simp only [A3];have w3:i64.wrap (a+((3:Nat):Int))=a+3:=w64 (by omega) (by omega);have w4:i64.wrap (a+((4:Nat):Int))=a+4:=w64 (by omega) (by omega);have wn:i64.wrap (a+9+(P7 b a.toNat 3:Int))=a+9+(P7 b a.toNat 3:Int):=w64 (by omega) (by omega);simp only [w3,w4,wn];rw [A0 (show 0<=a+3 by omega),A0 (show a+3<(b.length:Int) by omega),A0 (show 0<=a+4 by omega),A0 (show a+4<(b.length:Int) by omega),A0 (show 0<=a+9 by omega),A0 (show a+9<=a+9+(P7 b a.toNat 3:Int) by omega),A0 (show a+9+(P7 b a.toNat 3:Int)<=(b.length:Int) by omega)];simp only [A8];rw [D3w _ (by simp;omega),D14 hb (show 0<=a+3 by omega) (by omega),D14 hb (show 0<=a+4 by omega) (by omega)];rfl
theorem D8g(b:List Int)(hb:Byt b)(h:b.length<=1048576)(a:Int)(k:Nat)(hk:1<=k/\k<=7):B0q b a (k:Int)=some (A1r b a k):=C0R b hb (by omega) a k hk
theorem C55(b:List Int)(hb:Byt b)(h:b.length<=1048576)(a:Int)(ha:-9223372036854775808<=a/\a<9223372036854775808):A6W b a=some (A3J b a):=C2v b hb (by omega) a ha
theorem D8h(b:List Int)(hb:Byt b)(h:b.length<=1048576)(a:Int)(k:Nat)(hk:1<=k/\k<=7):B0i b a (k:Int)=some (A1r b a k):=C0S b hb (by omega) a k hk
theorem D41(b:List Int)(hb:Byt b)(h:b.length<=1048576)(a:Int)(ha:-9223372036854775808<=a/\a<9223372036854775808):A4N b a=some (A3J b a):=B5F b hb (by omega) a ha
theorem B10(xs:List Int):(strOf xs).size=xs.length:=strOfNums_size xs
theorem E7t(a b:X0):(a++b).size=a.size+b.size:=ByteArray.size_append
theorem D8i(k:Int)(h:k<4611686018427387904):∃ s,O0 k=some (s,()):=by
  simp only [O0,B9V];by_cases h0:k<=0
  · rw [A0 h0];exact ⟨_,rfl⟩
  rw [A1 h0];obtain ⟨z,e,hz⟩:=C90 B4o (fun l=>l.1.toNat) (fun l=>0<=l.1/\(l.2.1.size:Int)+l.1<=k) (fun z=>(z.1.size:Int)<=k) (fun l hl=>by
    obtain ⟨n,out,u⟩:=l;simp only at hl ⊢;simp only [B4o];by_cases hp:n>0
    · refine .inl ⟨(n.tdiv 10,strOf [u8.wrap (i64.wrap (48+n.tmod 10))]++out,()),?_,?_,?_⟩
      · rw [A0 hp]
        simp only [A8];rw [A1 (by rw [B10];simp [IntKind.max,IntKind.signed,IntKind.bits];omega)];simp only [A3];rw [w64 (n:=n.tdiv 10) (by rw [A0r (by omega)];omega) (by rw [A0r (by omega)];omega)]
      · simp only
        rw [E7t,B10,A0r (by omega)];simp only [H0];omega
      · simp only
        rw [A0r (by omega)];omega
    · rw [A1 hp]
      exact .inr ⟨_,rfl,by simp only;omega⟩) (k,⟨#[]⟩,()) (by
      constructor
      · simp only;omega
      · show ((0:Nat):Int)+k<=k
        omega)
  rw [e];simp only [A5,A3];have h1:(⟨#[109]⟩:X0).size=1:=rfl;rw [A1 (by rw [h1];simp [IntKind.max,IntKind.signed,IntKind.bits];omega)];exact ⟨_,rfl⟩
noncomputable def mt(k:Int):X0:=match O0 k with
  | some (s,_)=>s
  | none=>⟨#[]⟩
theorem A8i(k:Int)(h:k<4611686018427387904):O0 k=some (mt k,()):=by
  obtain ⟨s,hs⟩:=D8i k h;unfold mt;rw [hs]
theorem D6a{a b:List Int}(ha:Byt a)(hb:Byt b):Byt (a++b):=fun x hx=>(D9.1 hx).elim (ha x) (hb x)
theorem C2w{a:List Int}(h:Byt a)(i:Nat):Byt (a.drop i):=fun x hx=>h x (A1d hx)
theorem B6f(go:Nat->Bool):∀ k i j,i<=j->j<A3f go i k->go j=true
  | 0,i,j,h1,h2=>by simp only [A3f] at h2;omega
  | k+1,i,j,h1,h2=>by
    simp only [A3f] at h2;split at h2
    · rename_i hg
      by_cases e:j=i
      · rw [e];exact hg
      · exact B6f go k (i+1) j (by omega) h2
    · omega
theorem D09(go:Nat->Bool)(n p:Nat)(hp:p<=n)(h1:∀ j,j<p->go j=true)(h2:p<n->go p=false):A3f go 0 n=p:=by
  have hl:=D5L go n 0;rcases B79 (A3f go 0 n) p with h | h | h
  · have:=C7c go n 0 (by omega)
    rw [h1 _ h] at this;cases this
  · exact h
  · have:=B6f go n 0 p (by omega) h
    rw [h2 (by omega)] at this;cases this
theorem E7u{k:K}{b:List k.T}{i:Nat}(h:i<b.length)(u:k.T):rd k (b.set i u) (i:Int)=u:=by
  rw [A15 (xs:=b.set i u) (by simpa using h)];simp
def MH{T:Type}(mark:Int->Option (Int×T×Unit))(held:T->Int->Option (Int×Unit))(n:Nat):Prop:=
  ∀ m:Int,0<=m->m+n<4611686018427387904->∃ m' y,mark m=some (m',y,())/\m<=m'/\m'<=m+n/\held y m=some (m',())
def cost{T:Type}(c:T->Nat)(a:List T):Nat:=(a.map c).sum
theorem E52{T:Type}(c:T->Nat){a:List T}{i:Nat}(h:i<a.length):cost c (a.drop i)=c a[i]+cost c (a.drop (i+1)):=by
  rw [I5 h];simp only [cost,H2,List.sum_cons]
theorem E3d{T:Type}(Lm:Int×Int×List T×Unit->Option ((Int×Int×List T×Unit)⊕(Int×List T×Unit)))(Lh:List T->Int×Int×Unit->Option ((Int×Int×Unit)⊕(Int×Unit)))(c:T->Nat)(a:List T)(hn:a.length<=1048576)
    (hs:∀ (i:Nat) (hi:i<a.length) (m:Int),0<=m->m+c a[i]<4611686018427387904->∃ m' u,m<=m'/\m'<=m+c a[i]/\(∀ (b:List T) (hb:b.length=a.length),b[i]'(by omega)=a[i]->Lm (m,(i:Int),b,())=some (.inl (m',(i:Int)+1,b.set i u,())))/\
      ∀ (b:List T) (hb:b.length=a.length),b[i]'(by omega)=u->Lh b (m,(i:Int),())=some (.inl (m',(i:Int)+1,())))
    (he:∀ m (b:List T),b.length=a.length->Lm (m,(a.length:Int),b,())=some (.inr (m,b,()))) (hf:∀ m (b:List T),b.length=a.length->Lh b (m,(a.length:Int),())=some (.inr (m,()))) :
    MH (fun m=>F4 Lm (m,0,a,())) (fun y m=>F4 (Lh y) (m,0,())) (cost c a):=by
  have key:∀ k i,i+k=a.length->∀ m:Int,0<=m->m+cost c (a.drop i)<4611686018427387904->∃ m' us,us.length=k/\m<=m'/\m'<=m+cost c (a.drop i)/\
      (∀ pre:List T,pre.length=i->F4 Lm (m,(i:Int),pre++a.drop i,())=some (m',pre++us,()))/\∀ pre:List T,pre.length=i->F4 (Lh (pre++us)) (m,(i:Int),())=some (m',()):=by
    intro k
    induction k with
    | zero=>
      intro i hi m h0 h1;obtain rfl:i=a.length:=by omega
      refine ⟨m,[],rfl,B74 _,by omega,fun pre hp=>?_,fun pre hp=>?_⟩
      · rw [G8,he _ _ (by simp [hp])]
        simp
      · rw [G8,hf _ _ (by simp [hp])]
    | succ k ih=>
      intro i hi m h0 h1;have hlt:i<a.length:=by omega
      rw [E52 c hlt] at h1 ⊢;obtain ⟨m1,u,g1,g2,g3,g4⟩:=hs i hlt m h0 (by omega);obtain ⟨m',us,h2,h3,h4,h5,h6⟩:=ih (i+1) (by omega) m1 (by omega) (by omega);have e1:(i:Int)+1=((i+1:Nat):Int):=by omega
      rw [e1] at g3 g4;refine ⟨m',u::us,by simp [h2],by omega,by omega,fun pre hp=>?_,fun pre hp=>?_⟩
      · have hl:(pre++a.drop i).length=a.length:=by simp [hp];omega
        have hg:(pre++a.drop i)[i]'(by omega)=a[i]:=by
          rw [M5 (by omega)];simp [hp]
        rw [G8,g3 _ hl hg];have hset:(pre++a.drop i).set i u=(pre ++ [u])++a.drop (i+1):=by
          rw [List.set_append_right _ _ (by omega),hp,Nat.sub_self,I5 hlt,List.set_cons_zero];simp
        rw [hset];have:=h5 (pre ++ [u]) (by simp [hp]);simp only [B3,A2w] at this;simpa using this
      · have hl:(pre++u::us).length=a.length:=by simp [hp,h2];omega
        have hg:(pre++u::us)[i]'(by omega)=u:=by
          rw [M5 (by omega)];simp [hp]
        rw [G8,g4 _ hl hg];have:=h6 (pre ++ [u]) (by simp [hp]);simp only [B3,A2w] at this;exact this
  intro m h0 h1;obtain ⟨m',us,h2,h3,h4,h5,h6⟩:=key a.length 0 (by omega) m h0 (by simpa using h1);exact ⟨m',us,by simpa using h5 [] rfl,h3,by simpa using h4,by simpa using h6 [] rfl⟩
theorem B8R(a:List Int):MH (V9 a) W3 a.length:=fun m h0 h1=>⟨_,_,D6U a m h0 (by omega),by omega,B74 _,D6V a.length m h0 (by omega)⟩
theorem E53{a b:List Int}(ha:Byt a)(hb:Byt b)(h:(strOf a).toList=(strOf b).toList):a=b:=by
  rw [A23,A23] at h;have h2:(a.map fun n=>UInt8.ofNat n.toNat)=b.map fun n=>UInt8.ofNat n.toNat:=h
  have hl:a.length=b.length:=by simpa using N1 List.length h2
  refine A75 hl fun i h1 h3=>?_
  have h4:=N1 (fun l=>l[i]?) h2;simp only [N4,C8 h1,C8 h3,Q1,F9] at h4;exact F18 (ha _ (F3 h1)) (hb _ (F3 h3)) h4
theorem C7f{a b:X0}(h:a.toList=b.toList):a=b:=by
  rw [A23,A23] at h;obtain ⟨⟨a⟩⟩:=a;obtain ⟨⟨b⟩⟩:=b;have h:a=b:=h;rw [h]
theorem C56{xs:List Int}(h:Byt xs):bytesOf (strOf xs)=xs:=by
  show ((strOfNums xs).data.toList.map fun b=>(b.toNat:Int))=xs;rw [strOfNums_data,C8U];refine (C4p fun x hx=>?_).trans (List.map_id _);have:=h x hx;simp only [Function.comp,id];have e:(UInt8.ofNat x.toNat).toNat=x.toNat % 256:=UInt8.toNat_ofNat;rw [e];omega
theorem C57(s:X0):strOf (bytesOf s)=s:=by
  refine C7f ?_;rw [A23,A23];show ((bytesOf s).map fun n=>UInt8.ofNat n.toNat)=s.data.toList;rw [bytesOf,C8U];refine (C4p fun x hx=>?_).trans (List.map_id _);simp
theorem E1G(c:J5)(hin:List.length c.2.1<=1048576)(hst:List.length c.2.2.2.2.2.1<=1048576)(hd:List.length c.2.2.2.1.2<=1048576)(he:List.length c.2.2.2.2.1.2<=1048576)(hb:Byt c.2.1):∃ r,A3b c=some (r,())/\A5l c=some (r,()):=by
  obtain ⟨g,hg⟩:=C54 c.2.2.1;obtain ⟨t1,ht1⟩:=B3s c.2.2.2.1 (by simp only [maxLen];omega);obtain ⟨t2,ht2⟩:=B3s c.2.2.2.2.1 (by simp only [maxLen];omega);simp only [A3b,C0C,A5l,B9k,D8b,E1F,hg,ht1,ht2,A1A,R5];rw [D5M c (by simp only [maxLen];omega),D5N c (by simp only [maxLen];omega),C55 _ hb hin 0 (by omega),D41 _ hb hin 0 (by omega)];have hz:decide (c.2.2.2.2.2.2.2>0)=(!decide (c.2.2.2.2.2.2.2=0)&&decide (0<=c.2.2.2.2.2.2.2)):=by
    by_cases h1:c.2.2.2.2.2.2.2=0
    · rw [A1 (by omega),A0 h1];rfl
    · by_cases h2:0<=c.2.2.2.2.2.2.2
      · rw [A0 (by omega),A1 h1,A0 h2];rfl
      · rw [A1 (by omega),A1 h1,A1 h2];rfl
  have hr:decide (0<=c.2.2.2.2.2.2.2/\c.2.2.2.2.2.2.2<=20)=true->decide (0<=c.2.2.2.2.2.2.2)=true:=by
    intro q;exact A0 (C0 q).1
  have hl0:decide ((List.length c.2.1:Int)=0)=!decide ((List.length c.2.1:Int)>0):=by
    by_cases h1:(List.length c.2.1:Int)>0
    · rw [A0 h1,A1 (by omega)];rfl
    · rw [A1 h1,A0 (by omega)];rfl
  have hs0:decide ((List.length c.2.2.2.2.2.1:Int)=0)=!decide ((List.length c.2.2.2.2.2.1:Int)>0):=by
    by_cases h1:(List.length c.2.2.2.2.2.1:Int)>0
    · rw [A0 h1,A1 (by omega)];rfl
    · rw [A1 h1,A0 (by omega)];rfl
  rw [hz,hl0,hs0];simp only [A5];revert hr;generalize decide (0<=c.1/\c.1<=24)=b1;generalize decide (0<=c.2.2.2.2.2.2.1/\c.2.2.2.2.2.2.1<=2147483647)=b2;generalize decide (0<=c.2.2.2.2.2.2.2/\c.2.2.2.2.2.2.2<=20)=b3;generalize decide (0<=c.2.2.2.2.2.2.2)=b4;generalize C1l c=b5;generalize decide ((List.length c.2.1:Int)>1100)=b6;generalize decide ((A3J c.2.1 0).2.2.1=1)=b7;generalize decide (c.1<24)=b8;generalize decide ((List.length c.2.1:Int)>0)=b9;generalize decide (c.2.2.2.2.2.2.2=0)=b10;generalize decide ((List.length c.2.2.2.2.2.1:Int)>0)=b11;generalize decide (c.2.2.1.1=0)=b12;intro hr;cases b1
  · exact ⟨_,rfl,rfl⟩
  cases g
  · exact ⟨_,rfl,rfl⟩
  cases t1
  · exact ⟨_,rfl,rfl⟩
  cases t2
  · exact ⟨_,rfl,rfl⟩
  cases b2
  · cases b5<;>exact ⟨_,rfl,rfl⟩
  cases b5
  · exact ⟨_,rfl,rfl⟩
  cases b6
  · cases b3
    · exact ⟨_,rfl,rfl⟩
    · rw [hr rfl]
      cases b7<;>cases b8<;>cases b9<;>cases b10<;>cases b11<;>cases b12<;>exact ⟨_,rfl,rfl⟩
  · cases b3<;>exact ⟨_,rfl,rfl⟩
theorem E54(c:J5)(h:Sm 1048576 B8J c)(hb:Byt c.2.1):∃ r,A3b c=some (r,())/\A5l c=some (r,()):=
  E1G c (Sm.l (Sm.r h)).1 (Sm.l (Sm.r (Sm.r (Sm.r (Sm.r (Sm.r h)))))).1 (Sm.r (Sm.l (Sm.r (Sm.r (Sm.r h))))).1 (Sm.r (Sm.l (Sm.r (Sm.r (Sm.r (Sm.r h)))))).1 hb
set_option maxRecDepth 100000
def lensT:List Int:= [13,23,28,28,28,28,28,28,28,24,30,28,28,30,28,28,28,28,28,28,28,28,30,28,28,28,28,28,28,28,28,28,6,10,10,12,13,6,8,11,10,10,8,11,8,6,6,6,5,5,5,6,6,6,6,6,6,6,7,8,15,6,12,10,13,6,7,7,7,7,7,7,7,7,7,7,7,7,7,7,7,7,7,7,7,7,7,7,8,7,8,13,19,13,14,6,15,5,6,5,6,5,6,6,6,5,7,7,6,6,6,5,6,7,6,5,5,6,7,7,7,7,7,15,11,14,13,28,20,22,20,20,22,22,22,23,22,23,23,23,23,23,24,23,24,24,22,23,24,23,23,23,23,21,22,23,22,23,23,24,22,21,20,22,22,23,23,21,23,22,22,24,21,22,23,23,21,21,22,21,23,22,23,23,20,22,22,22,23,22,22,23,26,26,20,19,22,23,22,25,26,26,26,27,27,26,24,25,19,21,26,27,27,26,27,24,21,21,26,26,28,27,27,27,20,24,20,21,22,21,21,23,22,22,25,25,24,24,26,23,26,27,26,26,27,27,27,27,27,28,27,27,27,27,27,26,30]
theorem D0A:B5B=some (lensT,()):=rfl
theorem A0t:lensT.length=257:=by kernel_rfl
theorem D5O:(lensT.all fun x=>decide (5<=x)&&decide (x<=30))=true:=by kernel_rfl
theorem u64_nonneg(x:Int):¬ (u64.wrap x<0):=by
  simp only [IntKind.wrap,IntKind.bits,IntKind.signed,A66];simp;omega
def cst(n:Int)(st:Int×Int×List Int)(sym:Nat):Int×Int×List Int:=
  if (lensT.getD sym 0)=n then
    (let code:=if st.2.1>0 then i64.wrap ((i64.wrap (st.1+1))*2 ^ (min (u64.wrap (i64.wrap (n-st.2.1))).toNat i64.bits)) else st.1
     (code,n,st.2.2.set sym code)) else st
def C4d(n:Int)(st:Int×Int×List Int):Nat->Int×Int×List Int
  | 0=>st
  | k+1=>cst n (C4d n st k) k
def lvl(st:Int×Int×List Int):Nat->Int×Int×List Int
  | 0=>st
  | k+1=>C4d ((k:Int)+1) (lvl st k) 257
def E7v(b:Int×Int×List Int):List Int:=(lvl b 30).2.2
theorem D8j(b:Int×Int×List Int):E7v b=(lvl b 30).2.2:=rfl
def codesT:List Int:=E7v (0,0,List.replicate 257 0)
theorem E9t(n:Int)(st:Int×Int×List Int)(sym:Nat):(cst n st sym).2.2.length=st.2.2.length:=by
  unfold cst;split<;>simp
theorem D2N(n:Int)(st:Int×Int×List Int):∀ k,(C4d n st k).2.2.length=st.2.2.length
  | 0=>rfl
  | k+1=>by rw [C4d,E9t,D2N n st k]
theorem D6b(st:Int×Int×List Int):∀ k,(lvl st k).2.2.length=st.2.2.length
  | 0=>rfl
  | k+1=>by rw [lvl,D2N,D6b st k]
theorem E9u{xs:List Int}{i:Nat}:rd (.int .i64) xs (i:Int)=xs.getD i 0:=by
  simp [rd,zd]
theorem E1H(c l s n:Int)(o:List Int)(ho:o.length=257)(hn:n<1000)(hn0:0<=n)(a b d:Int)(e:List Int) :
    F4 (A7R (lensT,()) (a,b,n,e,())) (c,l,0,o,())=some (.inl ((C4d n (c,l,o) 257).1,(C4d n (c,l,o) 257).2.1,n+1,(C4d n (c,l,o) 257).2.2,())):=by
  have hl:∀ k,(C4d n (c,l,o) k).2.2.length=257:=fun k=>by rw [D2N];exact ho
  refine L3 (A7R (lensT,()) (a,b,n,e,())) (fun k=>((C4d n (c,l,o) k).1,(C4d n (c,l,o) k).2.1,(k:Int),(C4d n (c,l,o) k).2.2,())) 257 _ (fun k hk=>?_) ?_
  · have h1:(k:Int)<=256:=by omega
    have h2:(0:Int)<=(k:Int):=by omega
    have h3:(k:Int)<(lensT.length:Int):=by rw [A0t];omega
    have h4:(k:Int)<((C4d n (c,l,o) k).2.2.length:Int):=by rw [hl];omega
    have h5:i64.wrap ((k:Int)+1)=((k+1:Nat):Int):=by rw [w64 (by omega) (by omega)];omega
    simp only [A7R,A0 h1,A0 h2,A0 h3,A0 h4,A8,E9u,h5,A1 (u64_nonneg _),A3,D5,A5];have e1:C4d n (c,l,o) (k+1)=cst n (C4d n (c,l,o) k) k:=rfl;rw [e1];unfold cst;by_cases hq:lensT.getD k 0=n
    · simp only [hq,R1,C3,A3,M0]
      by_cases hg:(C4d n (c,l,o) k).2.1>0
      · simp only [A0 hg,A8,A6 hg]
      · simp only [A1 hg,A3,A4 hg]
    · simp only [A1 hq,J1,A8,A4 hq]
  · have h1:¬ ((257:Nat):Int)<=256:=by omega
    simp only [A7R,A1 h1,A3];rw [w64 (by omega) (by omega)]
theorem D6c:A8g=some (codesT,()):=by
  show A8g=some (E7v (0,0,List.replicate 257 0),());rw [D8j];simp only [A8g,C2o,D0A,A5];have hl:∀ k,(lvl (0,0,List.replicate 257 0) k).2.2.length=257:=fun k=>by rw [D6b];simp
  refine L3 (B1f (lensT,())) (fun k=>((lvl (0,0,List.replicate 257 0) k).1,(lvl (0,0,List.replicate 257 0) k).2.1,((k:Int)+1),(lvl (0,0,List.replicate 257 0) k).2.2,())) 30 _ (fun k hk=>?_) ?_
  · have h1:(k:Int)+1<=30:=by omega
    simp only [B1f,A0 h1,A8];rw [E1H _ _ 0 _ _ (hl k) (by omega) (by omega) _ _ 0 _];simp only [lvl]
    congr 4
  · have h1:¬ ((30:Nat):Int)+1<=30:=by omega
    simp only [B1f,A1 h1,A3]
theorem A8J:codesT.length=257:=by
  show (E7v (0,0,List.replicate 257 0)).length=257;rw [D8j,D6b];simp
set_option maxRecDepth 100000
def lensS:X0:=⟨#[49,51,32,50,51,32,50,56,32,50,56,32,50,56,32,50,56,32,50,56,32,50,56,32,50,56,32,50,52,32,51,48,32,50,56,32,50,56,32,51,48,32,50,56,32,50,56,32,50,56,32,50,56,32,50,56,32,50,56,32,50,56,32,50,56,32,51,48,32,50,56,32,50,56,32,50,56,32,50,56,32,50,56,32,50,56,32,50,56,32,50,56,32,50,56,32,54,32,49,48,32,49,48,32,49,50,32,49,51,32,54,32,56,32,49,49,32,49,48,32,49,48,32,56,32,49,49,32,56,32,54,32,54,32,54,32,53,32,53,32,53,32,54,32,54,32,54,32,54,32,54,32,54,32,54,32,55,32,56,32,49,53,32,54,32,49,50,32,49,48,32,49,51,32,54,32,55,32,55,32,55,32,55,32,55,32,55,32,55,32,55,32,55,32,55,32,55,32,55,32,55,32,55,32,55,32,55,32,55,32,55,32,55,32,55,32,55,32,55,32,56,32,55,32,56,32,49,51,32,49,57,32,49,51,32,49,52,32,54,32,49,53,32,53,32,54,32,53,32,54,32,53,32,54,32,54,32,54,32,53,32,55,32,55,32,54,32,54,32,54,32,53,32,54,32,55,32,54,32,53,32,53,32,54,32,55,32,55,32,55,32,55,32,55,32,49,53,32,49,49,32,49,52,32,49,51,32,50,56,32,50,48,32,50,50,32,50,48,32,50,48,32,50,50,32,50,50,32,50,50,32,50,51,32,50,50,32,50,51,32,50,51,32,50,51,32,50,51,32,50,51,32,50,52,32,50,51,32,50,52,32,50,52,32,50,50,32,50,51,32,50,52,32,50,51,32,50,51,32,50,51,32,50,51,32,50,49,32,50,50,32,50,51,32,50,50,32,50,51,32,50,51,32,50,52,32,50,50,32,50,49,32,50,48,32,50,50,32,50,50,32,50,51,32,50,51,32,50,49,32,50,51,32,50,50,32,50,50,32,50,52,32,50,49,32,50,50,32,50,51,32,50,51,32,50,49,32,50,49,32,50,50,32,50,49,32,50,51,32,50,50,32,50,51,32,50,51,32,50,48,32,50,50,32,50,50,32,50,50,32,50,51,32,50,50,32,50,50,32,50,51,32,50,54,32,50,54,32,50,48,32,49,57,32,50,50,32,50,51,32,50,50,32,50,53,32,50,54,32,50,54,32,50,54,32,50,55,32,50,55,32,50,54,32,50,52,32,50,53,32,49,57,32,50,49,32,50,54,32,50,55,32,50,55,32,50,54,32,50,55,32,50,52,32,50,49,32,50,49,32,50,54,32,50,54,32,50,56,32,50,55,32,50,55,32,50,55,32,50,48,32,50,52,32,50,48,32,50,49,32,50,50,32,50,49,32,50,49,32,50,51,32,50,50,32,50,50,32,50,53,32,50,53,32,50,52,32,50,52,32,50,54,32,50,51,32,50,54,32,50,55,32,50,54,32,50,54,32,50,55,32,50,55,32,50,55,32,50,55,32,50,55,32,50,56,32,50,55,32,50,55,32,50,55,32,50,55,32,50,55,32,50,54,32,51,48]⟩
def lensP:List (List UInt8):=Lib.splitK [32] 0 (Lib.count lensS.data.toList [32]) lensS.data.toList
theorem E7w:(lensP.map Lib.atoi)=lensT.map some:=by kernel_rfl
theorem E80:(lensP.all fun x=>Nat.ble x.length 18)=true:=by kernel_rfl
theorem D8k:(Lib.splitB ⟨#[32]⟩ 0 (Lib.countB lensS ⟨#[32]⟩) lensS).map (·.data.toList)=lensP:=by
  rw [Lib.splitB_data];rfl
theorem E55(s:X0)(P:List (List UInt8))(hs:s.size<4294967281)(h0:(Lib.splitB ⟨#[32]⟩ 0 (Lib.countB s ⟨#[32]⟩) s).map (·.data.toList)=P)(hP:(P.map Lib.atoi)=lensT.map some)(hz:(P.all fun x=>Nat.ble x.length 18)=true) :
    ∃ c:List X0,B1I s ⟨#[32]⟩=some (c,())/\c.length=257/\∀ k (h:k<c.length),B8w c[k]=some (lensT.getD k 0,(),()):=by
  have h1:(decide (s.size<4294967281)&&decide (1<=(⟨#[32]⟩:X0).size))=true:=by
    rw [A0 hs];rfl
  refine ⟨_,by simp only [B1I,h1,A8];rfl,?_,fun k hk=>?_⟩
  · have:=N1 List.length h0
    rw [S5] at this;rw [this];have h2:=N1 List.length hP;rw [S5,S5,A0t] at h2;exact h2
  · generalize hc:Lib.splitB ⟨#[32]⟩ 0 (Lib.countB s ⟨#[32]⟩) s=c at *
    have e:=h0;have hk2:k<P.length:=by rw [<- e,S5];exact hk
    have e1:(c[k]).data.toList=P[k]:=by
      have:(c.map (·.data.toList))[k]? = P[k]?:=by rw [e]
      rw [N4,C8 hk,C8 hk2] at this;simpa using this
    have e2:Lib.atoi P[k]=some (lensT.getD k 0):=by
      have:(P.map Lib.atoi)[k]? = (lensT.map some)[k]?:=by rw [hP]
      rw [N4,C8 hk2,N4] at this;cases hq:lensT[k]? with
      | none=>rw [hq] at this;cases this
      | some v=>
        rw [hq] at this;simp only [Q1,F9] at this;rw [this,E3,hq];rfl
    have e3:(c[k]).size<=18:=by
      have h4:=C4.1 hz P[k] (F3 hk2);have h5:=D4 h4;rw [<- e1] at h5;exact h5
    simp only [B8w,A0 e3,A8,e1,e2]
theorem E81:lensS.size<4294967281:=by
  have:Nat.ble (lensS.size+1) 4294967281=true:=by kernel_rfl
  exact D4 this
theorem E82:∃ c:List X0,B1I lensS ⟨#[32]⟩=some (c,())/\c.length=257/\∀ k (h:k<c.length),B8w c[k]=some (lensT.getD k 0,(),()):=
  E55 lensS lensP E81 D8k E7w E80
set_option maxRecDepth 100000
def szs(r:List (Int×Int)):Nat->List (Int×Int)
  | 0=>r
  | k+1=>(szs r k).set k (((szs r k).getD k (0,0)).1,lensT.getD k 0)
theorem E3e(r:List (Int×Int)):∀ k,(szs r k).length=r.length
  | 0=>rfl
  | k+1=>by rw [szs,S6,E3e r k]
theorem E9v:szs (List.replicate 257 (0,0)) 257=lensT.map fun n=>(0,n):=by kernel_rfl
def ist(n:Int)(st:Int×List (Int×Int))(sym:Nat):Int×List (Int×Int):=
  if (st.2.getD sym (0,0)).2=n then (i64.wrap (st.1+1),st.2.set sym (st.1,(st.2.getD sym (0,0)).2)) else st
def C91(n:Int)(st:Int×List (Int×Int)):Nat->Int×List (Int×Int)
  | 0=>st
  | k+1=>ist n (C91 n st k) k
def C92(st:Int×List (Int×Int)):Nat->Int×List (Int×Int)
  | 0=>st
  | k+1=>C91 ((k:Int)+1) (i64.wrap ((C92 st k).1*2),(C92 st k).2) 257
theorem E9w(n:Int)(st:Int×List (Int×Int))(sym:Nat):(ist n st sym).2.length=st.2.length:=by
  unfold ist;split<;>simp
theorem D2O(n:Int)(st:Int×List (Int×Int)):∀ k,(C91 n st k).2.length=st.2.length
  | 0=>rfl
  | k+1=>by rw [C91,E9w,D2O n st k]
theorem D8l(st:Int×List (Int×Int)):∀ k,(C92 st k).2.length=st.2.length
  | 0=>rfl
  | k+1=>by rw [C92,D2O,D8l st k]
def D8m(a:Int×List (Int×Int)):List (Int×Int):=(C92 a 30).2
theorem E56(a:Int×List (Int×Int)):D8m a=(C92 a 30).2:=rfl
def F19:List (Int×Int):=D8m (0,lensT.map fun n=>(0,n))
def D8n(n:Int)(a:Int×List (Int×Int))(b:Int×Int×List Int):Prop:=
  a.2=b.2.2.zip lensT/\b.2.2.length=257/\((b.2.1=0/\b.1=0/\a.1=0)\/(1<=b.2.1/\b.2.1<=n/\a.1=i64.wrap ((b.1+1)*2 ^ (n-b.2.1).toNat)))
theorem D8o(x y:Int):i64.wrap (i64.wrap x*y)=i64.wrap (x*y):=by
  simp only [B1H];generalize hq:(x+9223372036854775808) / 18446744073709551616=q;have e:(x+9223372036854775808) % 18446744073709551616-9223372036854775808=x-18446744073709551616*q:=by omega
  rw [e,Int.sub_mul,Int.mul_assoc];generalize x*y=z;generalize q*y=r;omega
theorem F00{xs ys:List Int}{k:Nat}{c:Int}(h:k<ys.length):(xs.zip ys).set k (c,ys.getD k 0)=(xs.set k c).zip ys:=by
  refine A75 (by simp) fun i h1 h2=>?_
  simp only [List.getElem_set,List.getElem_zip];split
  · rename_i e
    subst e;rw [E3,C8 h];rfl
  · rfl
theorem F01{xs:List Int}{k:Nat}(hx:xs.length=257)(hk:k<257):((xs.zip lensT).getD k (0,0)).2=lensT.getD k 0:=by
  have h1:k<(xs.zip lensT).length:=by rw [A87,hx,A0t];omega
  have h2:k<lensT.length:=by rw [A0t];exact hk
  rw [E3,E3,C8 h1,C8 h2];simp
theorem E83{n:Int}(hn:1<=n/\n<=30){a:Int×List (Int×Int)}{b:Int×Int×List Int}(h:D8n n a b){k:Nat}(hk:k<257):D8n n (ist n a k) (cst n b k):=by
  obtain ⟨c,tab⟩:=a;obtain ⟨code,p,codes⟩:=b;obtain ⟨h1,h2,h3⟩:=h;simp only at h1 h2 h3;subst h1;have hg:=F01 h2 hk;unfold ist cst;simp only [hg];by_cases hq:lensT.getD k 0=n
  case neg=>rw [A4 hq,A4 hq];exact ⟨rfl,h2,h3⟩
  rw [A6 hq,A6 hq];have hc:(if p>0 then i64.wrap (i64.wrap (code+1)*2 ^ (min (u64.wrap (i64.wrap (n-p))).toNat i64.bits)) else code)=c:=by
    rcases h3 with ⟨e1,e2,e3⟩ | ⟨e1,e2,e3⟩
    · rw [A4 (by omega),e2,e3]
    · rw [A6 (by omega),w64 (n:=n-p) (by omega) (by omega),D8o,e3]
      have e4:min (u64.wrap (n-p)).toNat i64.bits=(n-p).toNat:=by
        simp only [IntKind.wrap,IntKind.bits,IntKind.signed,A66];simp;omega
      rw [e4]
  simp only [hc];refine ⟨?_,by simpa using h2,.inr ⟨hn.1,B74 _,by simp⟩⟩;rw [<- F00 (by rw [A0t];exact hk),hq]
theorem E3f{n:Int}(hn:1<=n/\n<=30){a:Int×List (Int×Int)}{b:Int×Int×List Int}(h:D8n n a b):∀ k,k<=257->D8n n (C91 n a k) (C4d n b k)
  | 0,_=>h
  | k+1,hk=>E83 hn (E3f hn h k (by omega)) (by omega)
theorem E3g{a:Int×List (Int×Int)}{b:Int×Int×List Int}(h:D8n 0 a b):∀ k:Nat,k<=30->D8n (k:Int) (C92 a k) (lvl b k)
  | 0,_=>h
  | k+1,hk=>by
    obtain ⟨h1,h2,h3⟩:=E3g h k (by omega);refine E3f (by omega) (a:=(i64.wrap ((C92 a k).1*2),(C92 a k).2)) ⟨h1,h2,?_⟩ 257 (C1 _);rcases h3 with ⟨e1,e2,e3⟩ | ⟨e1,e2,e3⟩
    · exact .inl ⟨e1,e2,by simp only [e3];rfl⟩
    · refine .inr ⟨e1,by omega,?_⟩
      simp only [e3];rw [D8o,show (((k+1:Nat):Int)-(lvl b k).2.1).toNat=((k:Int)-(lvl b k).2.1).toNat+1 by omega,Int.pow_succ,Int.mul_assoc]
theorem D8p:∀ xs:List Int,(xs.map fun n=>((0:Int),n))=(List.replicate xs.length (0:Int)).zip xs
  | []=>rfl
  | x::xs=>by simp only [H2,F0,A0w,List.zip_cons_cons,D8p xs]
theorem E57{a:Int×List (Int×Int)}{b:Int×Int×List Int}(h:D8n 0 a b):D8m a=(E7v b).zip lensT:=(E3g h 30 (C1 _)).1
theorem F2G:D8n 0 (0,lensT.map fun n=>(0,n)) (0,0,List.replicate 257 0):=⟨by have h:=D8p lensT;rw [A0t] at h;exact h,U0,.inl ⟨rfl,rfl,rfl⟩⟩
theorem E58:F19=codesT.zip lensT:=E57 F2G
theorem D8q{xs:List (Int×Int)}{i:Nat}:rd M8 xs (i:Int)=xs.getD i (0,0):=by
  simp [rd,zd]
theorem E1I(c n:Int)(o:List (Int×Int))(ho:o.length=257)(hn:n<1000)(hn0:0<=n)(a:Int)(e:List (Int×Int)) :
    F4 (A7O (a,n,e,())) (c,0,o,())=some (.inl ((C91 n (c,o) 257).1,n+1,(C91 n (c,o) 257).2,())):=by
  have hl:∀ k,(C91 n (c,o) k).2.length=257:=fun k=>by rw [D2O];exact ho
  refine L3 (A7O (a,n,e,())) (fun k=>((C91 n (c,o) k).1,(k:Int),(C91 n (c,o) k).2,())) 257 _ (fun k hk=>?_) ?_
  · have h1:(k:Int)<257:=by omega
    have h2:(0:Int)<=(k:Int):=by omega
    have h5:i64.wrap ((k:Int)+1)=((k+1:Nat):Int):=by rw [w64 (by omega) (by omega)];omega
    simp only [A7O,A0 h1,A0 h2,A8,D8q,h5,D5];have e1:C91 n (c,o) (k+1)=ist n (C91 n (c,o) k) k:=rfl;rw [e1];unfold ist;by_cases hq:((C91 n (c,o) k).2.getD k (0,0)).2=n
    · simp only [A0 hq,A8,A6 hq]
    · simp only [A1 hq,A3,A4 hq]
  · have h1:¬ ((257:Nat):Int)<257:=by omega
    simp only [A7O,A1 h1,A3];rw [w64 (by omega) (by omega)]
theorem D6d(a:Int×List (Int×Int))(ha:a.2.length=257):F4 (A51) (a.1,1,a.2,())=some (D8m a,()):=by
  have hl:∀ k,(C92 a k).2.length=257:=fun k=>by rw [D8l,ha]
  rw [E56];refine L3 A51 (fun k=>((C92 a k).1,((k:Int)+1),(C92 a k).2,())) 30 _ (fun k hk=>?_) ?_
  · have h1:(k:Int)+1<=30:=by omega
    simp only [A51,A0 h1,A8];rw [E1I _ _ _ (hl k) (by omega) (by omega)];simp only [C92]
    congr 4
  · have h1:¬ ((30:Nat):Int)+1<=30:=by omega
    simp only [A51,A1 h1,A3]
theorem D6e:B2L=some (codesT.zip lensT,()):=by
  obtain ⟨c,hc,hcl,hca⟩:=E82;rw [<- E58];show B2L=some (D8m (0,lensT.map fun n=>(0,n)),());have e0:B2L=A5 (A5 (B1I lensS ⟨#[32]⟩) fun c7=>F4 (A50 B8w c7) (0,(List.replicate 257 (0,0)),())) fun (m1:List A79×Unit)=>F4 (A51) (0,1,m1.1,()):=rfl
  rw [e0,hc];have f1:F4 (A50 B8w (c,())) (0,(List.replicate 257 (0,0)),())=some (lensT.map fun n=>(0,n),()):=by
    have hl:∀ k,(szs (List.replicate 257 (0,0)) k).length=257:=fun k=>by rw [E3e];simp
    refine L3 (A50 B8w (c,())) (fun k=>((k:Int),szs (List.replicate 257 (0,0)) k,())) 257 _ (fun k hk=>?_) ?_
    · have h1:(k:Int)<257:=by omega
      have h2:(0:Int)<=(k:Int):=by omega
      have h3:(k:Int)<(c.length:Int):=by rw [hcl];omega
      have h5:i64.wrap ((k:Int)+1)=((k+1:Nat):Int):=by rw [w64 (by omega) (by omega)];omega
      have h6:rd .str c (k:Int)=c[k]'(by omega):=A15 (k:=.str) (by omega);simp only [A50,A0 h1,A0 h2,A0 h3,A8,h6,hca k (by omega),A5,D8q,h5,D5];rfl
    · have h1:¬ ((257:Nat):Int)<(c.length:Int):=by rw [hcl];omega
      simp only [A50,A1 h1,A3,E9v]
  simp only [A5,f1];exact D6d (0,lensT.map fun n=>(0,n)) (by simp only [S5,A0t])
set_option maxRecDepth 100000
theorem gA{R:Type}{n:Nat}{X:Option R}(h:n<=140737488355328):(bif decide (n<=9223372036854775807) then bif decide (n*1<=140737488355328) then X else none else none)=X:=by
  rw [A0 (by omega),A0 (by omega)];rfl
theorem E84{R:Type}{n:Nat}{X:Option R}(h:n<=1000000000000):(bif decide (n<=9223372036854775807) then bif decide (n*32<=140737488355328) then X else none else none)=X:=by
  rw [A0 (by omega),A0 (by omega)];rfl
def more:Nat->Int->List Int
  | 0,v=> [u8.wrap v]
  | k+1,v=>if v>127 then u8.wrap (bOr .i64 (W9 .i64 v 127) 128)::more k (v.fdiv 128) else [u8.wrap v]
set_option maxRecDepth 100000
def leA(s:X0)(k:Nat):Int:=lensT.getD (bt s k).toNat 0
def coA(s:X0)(k:Nat):Int:=codesT.getD (bt s k).toNat 0
theorem C93(s:X0)(k:Int):(bt s k).toNat<257:=by have:=D5K s k;have:=C52 s k;omega
theorem D15(s:X0)(k:Nat):5<=leA s k/\leA s k<=30:=by
  have h:=C4.1 D5O (leA s k) (by
    unfold leA;rw [E3,C8 (by rw [A0t];exact C93 s k)];exact F3 _)
  simpa using h
theorem E85(s:X0)(k:Nat):rd (.int .i64) lensT (bt s k)=leA s k:=by
  simp [rd,zd,leA]
theorem E86(s:X0)(k:Nat):rd (.int .i64) codesT (bt s k)=coA s k:=by
  simp [rd,zd,coA]
theorem F02(s:X0)(k:Nat)(xs:List (Int×Int))(hx:xs=codesT.zip lensT):rd M8 xs (bt s k)=(coA s k,leA s k):=by
  subst hx;have h1:(bt s k).toNat<codesT.length:=by rw [A8J];exact C93 s k
  have h2:(bt s k).toNat<lensT.length:=by rw [A0t];exact C93 s k
  have h3:(bt s k).toNat<(codesT.zip lensT).length:=by rw [A87];omega
  unfold rd;rw [E3,C8 h3];simp [coA,leA,E3,C8 h1,C8 h2]
def dr:Nat->Int->Int->Int×Int×List Int
  | 0,v,n=>(v,n,[])
  | k+1,v,n=>if n>=8 then ((dr k (W9 .i64 v (i64.wrap ((i64.wrap (1*2 ^ (min (u64.wrap (n-8)).toNat i64.bits)))-1))) (n-8)).1,(dr k (W9 .i64 v (i64.wrap ((i64.wrap (1*2 ^ (min (u64.wrap (n-8)).toNat i64.bits)))-1))) (n-8)).2.1,
      u8.wrap (v.fdiv (2 ^ (min (u64.wrap (n-8)).toNat i64.bits)))::(dr k (W9 .i64 v (i64.wrap ((i64.wrap (1*2 ^ (min (u64.wrap (n-8)).toNat i64.bits)))-1))) (n-8)).2.2) else (v,n,[])
theorem F1V:∀ (k:Nat) (v n:Int),0<=n->n<8*(k+1)->(dr k v n).2.1=n % 8/\((dr k v n).2.2.length:Int)=n / 8
  | 0,v,n,h0,h1=>⟨by simp only [dr];omega,by simp only [dr,M3];omega⟩
  | k+1,v,n,h0,h1=>by
    by_cases h:n>=8
    · have:=F1V k (W9 .i64 v (i64.wrap ((i64.wrap (1*2 ^ (min (u64.wrap (n-8)).toNat i64.bits)))-1))) (n-8) (by omega) (by omega)
      simp only [dr,A6 h,F0];omega
    · simp only [dr,A4 h,M3]
      omega
theorem E3h(l0:Int×Int×Int×List Int×Unit):∀ (k:Nat) (v n:Int) (o:List Int),0<=n->n<8*(k+1)->n<1000->o.length+k+1<=140737488355328->
    F4 (B0w l0) (v,n,o,())=some (.inl ((dr k v n).1,(dr k v n).2.1,i64.wrap (l0.2.2.1+1),o++(dr k v n).2.2,()))
  | 0,v,n,o,h0,h1,h2,hb=>by
    have h:¬ n>=8:=by omega
    rw [G8];simp only [B0w,A1 h,A3,dr,G5]
  | k+1,v,n,o,h0,h1,h2,hb=>by
    rw [G8];by_cases h:n>=8
    · have e1:i64.wrap (n-8)=n-8:=w64 (by omega) (by omega)
      simp only [B0w,A0 h,A8,e1,A1 (u64_nonneg _),A3];rw [gA (by simp;omega)];simp only [];rw [E3h l0 k _ (n-8) _ (by omega) (by omega) (by omega) (by simp;omega)];simp only [dr,A6 h,B3,A2w,E2,H7]
    · simp only [B0w,A1 h,A3,dr,A4 h,G5]
theorem E87(l0:Int×Int×Int×List Int×Unit):D23 l0=B0w l0:=rfl
def hst(s:X0):Nat->Int×Int×List Int
  | 0=>(0,0,[])
  | k+1=>let d:=dr 5 (bOr .i64 (i64.wrap ((hst s k).1*2 ^ (min (u64.wrap (leA s k)).toNat i64.bits))) (coA s k)) ((hst s k).2.1+leA s k);(d.1,d.2.1,(hst s k).2.2++d.2.2)
def bits(s:X0):Nat->Int
  | 0=>0
  | k+1=>bits s k+leA s k
theorem D2P(s:X0):∀ k:Nat,0<=bits s k/\bits s k<=30*(k:Int)
  | 0=>⟨by simp [bits],by simp [bits]⟩
  | k+1=>by
    have:=D2P s k;have:=D15 s k;simp only [bits];omega
theorem E3i(s:X0):∀ k:Nat,(hst s k).2.1=bits s k % 8/\((hst s k).2.2.length:Int)=bits s k / 8
  | 0=>⟨by simp [hst,bits],by simp [hst,bits]⟩
  | k+1=>by
    have h1:=E3i s k;have h2:=D15 s k;have h3:=D2P s k;have h4:=F1V 5 (bOr .i64 (i64.wrap ((hst s k).1*2 ^ (min (u64.wrap (leA s k)).toNat i64.bits))) (coA s k)) ((hst s k).2.1+leA s k) (by omega) (by omega);simp only [hst,bits,B0];omega
theorem E3j(s:X0)(k:Nat)(h:k<=1000000000):(hst s k).2.2.length<=4000000000:=by
  have:=E3i s k;have:=D2P s k;omega
theorem E59(s:X0)(a:List Int)(ha:a.length<=1000000000000)(hs:s.size<=1000000000)(k:Nat)(hk:k<s.size) :
    A3d s (lensT,()) (codesT,()) ((hst s k).1,(hst s k).2.1,(k:Int),a++(hst s k).2.2,())=some (.inl ((hst s (k+1)).1,(hst s (k+1)).2.1,((k+1:Nat):Int),a++(hst s (k+1)).2.2,())):=by
  have h1:(k:Int)<(s.size:Int):=by omega
  have h2:(0:Int)<=(k:Int):=by omega
  have h3:=D5K s k;have h4:bt s k<(lensT.length:Int):=by rw [A0t];have:=C52 s k;omega
  have h5:bt s k<(codesT.length:Int):=by rw [A8J];have:=C52 s k;omega
  have h6:=D15 s k;have h7:=E3i s k;have h8:=E3j s k (by omega);simp only [A3d,A0 h1,A0 h2,A0 h3,A0 h4,A0 h5,A8,E85,E86,A1 (u64_nonneg _),A3];rw [w64 (n:=(hst s k).2.1+leA s k) (by omega) (by omega),E3h _ 5 _ _ _ (by omega) (by omega) (by omega) (by simp;omega),w64 (n:=(k:Int)+1) (by omega) (by omega)];simp only [hst,B3];rfl
theorem E1J(s:X0)(l:Int×Int×Int×List Int×Unit):B9n s (codesT.zip lensT) l=A3d s (lensT,()) (codesT,()) l:=by
  obtain ⟨v,n,k,o,u⟩:=l;simp only [B9n,A3d];by_cases h1:k<(s.size:Int)
  · by_cases h2:0<=k
    · obtain ⟨k,rfl⟩:=Int.eq_ofNat_of_zero_le h2
      have h3:=D5K s k;have h4:bt s k<(lensT.length:Int):=by rw [A0t];have:=C52 s k;omega
      have h5:bt s k<(codesT.length:Int):=by rw [A8J];have:=C52 s k;omega
      have h6:bt s k<((codesT.zip lensT).length:Int):=by rw [A87,A8J,A0t];have:=C52 s k;omega
      have h7:0<(codesT.zip lensT).length:=by rw [A87,A8J,A0t];omega
      simp only [A0 h1,A0 h2,A0 h3,A0 h4,A0 h5,A0 h6,A0 h7,A8,E85,E86,F02 s k (codesT.zip lensT) rfl,E87]
    · simp only [A1 h2,A3]
  · simp only [A1 h1,A3]
def D0B(s:X0):List Int:=
  if (hst s s.size).2.1>0 then (hst s s.size).2.2 ++ [u8.wrap (bOr .i64 (i64.wrap ((hst s s.size).1*2 ^ (min (u64.wrap (i64.wrap (8-(hst s s.size).2.1))).toNat i64.bits))) (i64.wrap ((i64.wrap (1*2 ^ (min (u64.wrap (i64.wrap (8-(hst s s.size).2.1))).toNat i64.bits)))-1)))] else (hst s s.size).2.2
theorem E88(s:X0)(a:List Int)(ha:a.length<=1000000000000)(hs:s.size<=1000000000) :
    (A5 (F4 (A3d s (lensT,()) (codesT,())) (0,0,0,a,())) fun (m2:Int×Int×List Int×Unit)=>bif (decide (m2.2.1>0)) then bif decide ((u64.wrap (i64.wrap (8-m2.2.1)))<0) then none else bif decide ((u64.wrap (i64.wrap (8-m2.2.1)))<0) then none else bif decide (m2.2.2.1.length+([(u8.wrap (bOr .i64 (i64.wrap (m2.1*2 ^ (min (u64.wrap (i64.wrap (8-m2.2.1))).toNat i64.bits))) (i64.wrap ((i64.wrap (1*2 ^ (min (u64.wrap (i64.wrap (8-m2.2.1))).toNat i64.bits)))-1))))]:List Int).length<=9223372036854775807) then bif decide ((m2.2.2.1.length+([(u8.wrap (bOr .i64 (i64.wrap (m2.1*2 ^ (min (u64.wrap (i64.wrap (8-m2.2.1))).toNat i64.bits))) (i64.wrap ((i64.wrap (1*2 ^ (min (u64.wrap (i64.wrap (8-m2.2.1))).toNat i64.bits)))-1))))]:List Int).length)*1<=140737488355328) then some ((m2.2.2.1 ++ [(u8.wrap (bOr .i64 (i64.wrap (m2.1*2 ^ (min (u64.wrap (i64.wrap (8-m2.2.1))).toNat i64.bits))) (i64.wrap ((i64.wrap (1*2 ^ (min (u64.wrap (i64.wrap (8-m2.2.1))).toNat i64.bits)))-1))))]),()) else none else none else some (m2.2.2.1,()))=some (a++D0B s,()):=by
  have h1:F4 (A3d s (lensT,()) (codesT,())) (0,0,0,a,())=some ((hst s s.size).1,(hst s s.size).2.1,a++(hst s s.size).2.2,()):=by
    have:=L3 (A3d s (lensT,()) (codesT,())) (fun k=>((hst s k).1,(hst s k).2.1,(k:Int),a++(hst s k).2.2,())) s.size ((hst s s.size).1,(hst s s.size).2.1,a++(hst s s.size).2.2,()) (fun k hk=>E59 s a ha hs k hk) (by
      have h:¬ ((s.size:Nat):Int)<(s.size:Int):=by omega
      simp only [A3d,A1 h,A3])
    simpa [hst] using this
  have h8:=E3j s s.size (by omega);rw [h1];simp only [A5,A1 (u64_nonneg _),A3];by_cases h:(hst s s.size).2.1>0
  · rw [A0 h,A8,gA (by simp;omega),D0B,A6 h]
    simp
  · rw [A1 h,A3,D0B,A4 h]
theorem E5A(s:X0)(a:List Int)(ha:a.length<=1000000000000)(hs:s.size<=1000000000):C7Q (codesT.zip lensT) a s=some (a++D0B s,()):=by
  simp only [C7Q,D24];rw [show B9n s (codesT.zip lensT)=A3d s (lensT,()) (codesT,()) from funext fun l=>E1J s l];exact E88 s a ha hs
set_option maxRecDepth 100000
def fstS:X0:=⟨#[58,97,117,116,104,111,114,105,116,121,124,58,109,101,116,104,111,100,61,71,69,84,124,58,109,101,116,104,111,100,61,80,79,83,84,124,58,112,97,116,104,61,47,124,58,112,97,116,104,61,47,105,110,100,101,120,46,104,116,109,108,124,58,115,99,104,101,109,101,61,104,116,116,112,124,58,115,99,104,101,109,101,61,104,116,116,112,115,124,58,115,116,97,116,117,115,61,50,48,48,124,58,115,116,97,116,117,115,61,50,48,52,124,58,115,116,97,116,117,115,61,50,48,54,124,58,115,116,97,116,117,115,61,51,48,52,124,58,115,116,97,116,117,115,61,52,48,48,124,58,115,116,97,116,117,115,61,52,48,52,124,58,115,116,97,116,117,115,61,53,48,48,124,97,99,99,101,112,116,45,99,104,97,114,115,101,116,124,97,99,99,101,112,116,45,101,110,99,111,100,105,110,103,61,103,122,105,112,44,32,100,101,102,108,97,116,101,124,97,99,99,101,112,116,45,108,97,110,103,117,97,103,101,124,97,99,99,101,112,116,45,114,97,110,103,101,115,124,97,99,99,101,112,116,124,97,99,99,101,115,115,45,99,111,110,116,114,111,108,45,97,108,108,111,119,45,111,114,105,103,105,110,124,97,103,101,124,97,108,108,111,119,124,97,117,116,104,111,114,105,122,97,116,105,111,110,124,99,97,99,104,101,45,99,111,110,116,114,111,108,124,99,111,110,116,101,110,116,45,100,105,115,112,111,115,105,116,105,111,110,124,99,111,110,116,101,110,116,45,101,110,99,111,100,105,110,103,124,99,111,110,116,101,110,116,45,108,97,110,103,117,97,103,101,124,99,111,110,116,101,110,116,45,108,101,110,103,116,104,124,99,111,110,116,101,110,116,45,108,111,99,97,116,105,111,110,124,99,111,110,116,101,110,116,45,114,97,110,103,101,124,99,111,110,116,101,110,116,45,116,121,112,101,124,99,111,111,107,105,101,124,100,97,116,101,124,101,116,97,103,124,101,120,112,101,99,116,124,101,120,112,105,114,101,115,124,102,114,111,109,124,104,111,115,116,124,105,102,45,109,97,116,99,104,124,105,102,45,109,111,100,105,102,105,101,100,45,115,105,110,99,101,124,105,102,45,110,111,110,101,45,109,97,116,99,104,124,105,102,45,114,97,110,103,101,124,105,102,45,117,110,109,111,100,105,102,105,101,100,45,115,105,110,99,101,124,108,97,115,116,45,109,111,100,105,102,105,101,100,124,108,105,110,107,124,108,111,99,97,116,105,111,110,124,109,97,120,45,102,111,114,119,97,114,100,115,124,112,114,111,120,121,45,97,117,116,104,101,110,116,105,99,97,116,101,124,112,114,111,120,121,45,97,117,116,104,111,114,105,122,97,116,105,111,110,124,114,97,110,103,101,124,114,101,102,101,114,101,114,124,114,101,102,114,101,115,104,124,114,101,116,114,121,45,97,102,116,101,114,124,115,101,114,118,101,114,124,115,101,116,45,99,111,111,107,105,101,124,115,116,114,105,99,116,45,116,114,97,110,115,112,111,114,116,45,115,101,99,117,114,105,116,121,124,116,114,97,110,115,102,101,114,45,101,110,99,111,100,105,110,103,124,117,115,101,114,45,97,103,101,110,116,124,118,97,114,121,124,118,105,97,124,119,119,119,45,97,117,116,104,101,110,116,105,99,97,116,101]⟩
noncomputable def firstT:List B1:=match B6P with
  | some (x,_)=>x
  | none=> []
theorem D6f:B6P=some (firstT,()):=rfl
theorem C67:firstT.length=61:=rfl
theorem E5B:(firstT.all fun f=>Nat.ble (f.1.size+f.2.size) 100)=true:=by kernel_rfl
def fstP:List (List UInt8):=Lib.splitK [124] 0 (Lib.count fstS.data.toList [124]) fstS.data.toList
theorem E89:(fstP.map fun x=>((Lib.cut x [61]).1,(Lib.cut x [61]).2.1))=firstT.map fun f=>(f.1.data.toList,f.2.data.toList):=by kernel_rfl
theorem F03:(fstP.all fun x=>Nat.ble x.length 100)=true:=by kernel_rfl
theorem E1K:(Lib.splitB ⟨#[124]⟩ 0 (Lib.countB fstS ⟨#[124]⟩) fstS).map (·.data.toList)=fstP:=by
  rw [Lib.splitB_data];rfl
theorem F04:fstS.size<4294967281:=by
  have:Nat.ble (fstS.size+1) 4294967281=true:=by kernel_rfl
  exact D4 this
theorem A55{α β:Type}{f:α->Option (α⊕β)}{x y:α}(h:f x=some (.inl y)):F4 f x=F4 f y:=by rw [G8,h]
theorem F0T{l:List UInt8}{b:X0}(h:l=b.data.toList):(⟨l.toArray⟩:X0)=b:=by
  subst h;simp
theorem E5C(s:X0)(P:List (List UInt8))(F:List B1)(hs:s.size<4294967281)(h0:(Lib.splitB ⟨#[124]⟩ 0 (Lib.countB s ⟨#[124]⟩) s).map (·.data.toList)=P)
    (hP:(P.map fun x=>((Lib.cut x [61]).1,(Lib.cut x [61]).2.1))=F.map fun f=>(f.1.data.toList,f.2.data.toList)) (hz:(P.all fun x=>Nat.ble x.length 100)=true) :
    ∃ c:List X0,B1I s ⟨#[124]⟩=some (c,())/\c.length=F.length/\∀ k (h:k<c.length) (h2:k<F.length),∃ b,D1A c[k] ⟨#[61]⟩=some (F[k].1,F[k].2,b,()):=by
  have h1:(decide (s.size<4294967281)&&decide (1<=(⟨#[124]⟩:X0).size))=true:=by
    rw [A0 hs];rfl
  refine ⟨_,by simp only [B1I,h1,A8];rfl,?_,fun k hk hk3=>?_⟩
  · have:=N1 List.length h0
    rw [S5] at this;rw [this];have h2:=N1 List.length hP;rw [S5,S5] at h2;exact h2
  · generalize hc:Lib.splitB ⟨#[124]⟩ 0 (Lib.countB s ⟨#[124]⟩) s=c at *
    have e:=h0;have hk2:k<P.length:=by rw [<- e,S5];exact hk
    have e1:(c[k]).data.toList=P[k]:=by
      have:(c.map (·.data.toList))[k]? = P[k]?:=by rw [e]
      rw [N4,C8 hk,C8 hk2] at this;simpa using this
    have e2:((Lib.cut P[k] [61]).1,(Lib.cut P[k] [61]).2.1)=(F[k].1.data.toList,F[k].2.data.toList):=by
      have:(P.map fun x=>((Lib.cut x [61]).1,(Lib.cut x [61]).2.1))[k]? = (F.map fun f=>(f.1.data.toList,f.2.data.toList))[k]?:=by rw [hP]
      rw [N4,C8 hk2,N4,C8 hk3] at this;simpa only [Q1,F9] using this
    have e3:(c[k]).size<=100:=by
      have h4:=C4.1 hz P[k] (F3 hk2);have h5:=D4 h4;rw [<- e1] at h5;exact h5
    refine ⟨(Lib.cut P[k] [61]).2.2,?_⟩;have e4:(c[k]).size<4294967281:=by omega
    have e5:(⟨#[61]⟩:X0).data.toList = [61]:=rfl;simp only [D1A,A0 e4,A8,e1,e5];rw [F0T (N1 Prod.fst e2),F0T (N1 Prod.snd e2)]
theorem C94:A7l=some (firstT,()):=by
  obtain ⟨c,hc,hcl,hca⟩:=E5C fstS fstP firstT F04 E1K E89 F03;have e0:A7l=A5 (B1I fstS ⟨#[124]⟩) fun c7=>F4 (A3D D1A c7) (0,[],()):=rfl
  rw [e0,hc];simp only [A5];have hF:=C67;generalize firstT=F at *
  refine (L3 (A3D D1A (c,())) (fun k=>((k:Int),F.take k,())) 61 (F,()) (fun k hk=>?_) ?_)
  · have h1:(k:Int)<(c.length:Int):=by omega
    have h2:(0:Int)<=(k:Int):=by omega
    obtain ⟨b,hb⟩:=hca k (by omega) (by omega);have h6:rd .str c (k:Int)=c[k]'(by omega):=A15 (k:=.str) (by omega);simp only [A3D,A0 h1,A0 h2,A8,h6,hb,A5];rw [E84 (by simp;omega),w64 (by omega) (by omega)];have e7:F.take (k+1)=F.take k ++ [(F[k]'(by omega))]:=by
      rw [H5 (by omega)]
    rw [e7];rfl
  · have h1:¬ ((61:Nat):Int)<(c.length:Int):=by omega
    simp only [A3D,A1 h1,A3];rw [H4 (by omega)]
set_option maxRecDepth 100000
def ofF(f:B1):Int:=(f.1.size:Int)+f.2.size+32
def szT:List B1->Int
  | []=>0
  | f::fs=>ofF f+szT fs
theorem C0T(f:B1):32<=ofF f:=by unfold ofF;omega
theorem A5T:∀ fs:List B1,32*(fs.length:Int)<=szT fs
  | []=>by simp [szT]
  | f::fs=>by
    have:=A5T fs;have:=C0T f;simp only [szT,F0];omega
theorem D6g:∀ a b:List B1,szT (a++b)=szT a+szT b
  | [],b=>by simp [szT]
  | f::a,b=>by simp only [E2,szT,D6g a b];omega
theorem D2Q(fs:List B1)(i:Nat):szT (fs.take i)<=szT fs:=by
  have h:=D6g (fs.take i) (fs.drop i);rw [N6] at h;have:=A5T (fs.drop i);omega
theorem D8r(fs:List B1){i j:Nat}(h:i<=j):szT (fs.take i)<=szT (fs.take j):=by
  have:=D2Q (fs.take j) i;rw [S4,A0H h] at this;exact this
theorem D2R(fs:List B1){i:Nat}(h:i<fs.length):szT (fs.take (i+1))=szT (fs.take i)+ofF fs[i]:=by
  rw [H5 h,D6g];simp [szT]
theorem E3k(f:B1)(h:ofF f<=10000000000000):B55 f=some (ofF f,()):=by
  unfold ofF at *
  simp only [B55,C7W];rw [w64 (n:=(f.1.size:Int)+f.2.size) (by omega) (by omega),w64 (by omega) (by omega)]
theorem D0C(f:B1)(h:ofF f<=10000000000000):B0g f=some (ofF f,()):=E3k f h
theorem C7g(m:Int)(fs:List B1)(h:szT fs<=10000000000000):A8G (m,fs)=some (szT fs,()):=by
  have hl:=A5T fs;simp only [A8G,C5t];refine L3 (A6T B55 (m,fs)) (fun i=>(szT (fs.take i),(i:Int),())) fs.length _ (fun i hi=>?_) ?_
  · have h1:(i:Int)<(fs.length:Int):=by omega
    have h2:(0:Int)<=(i:Int):=by omega
    have h3:=D2R fs hi;have h4:=D2Q fs (i+1);have h5:=A5T (fs.take i);have h6:rd B8 fs (i:Int)=fs[i]:=A15 (k:=B8) hi;have h7:=C0T fs[i];simp only [A6T,A0 h1,A0 h2,A8,h6];rw [E3k _ (by omega)];simp only [A5];rw [w64 (n:=szT (fs.take i)+ofF fs[i]) (by omega) (by omega),w64 (by omega) (by omega),h3];rfl
  · have h1:¬ ((fs.length:Nat):Int)<(fs.length:Int):=by omega
    simp only [A6T,A1 h1,A3];rw [H4 (by omega)]
theorem D8s(xs:List B1)(h:xs.length<=1000000000):K4 xs=some (xs,()):=by
  simp only [K4,A02];rw [E84 (by simp;omega)];by_cases h0:0<xs.length
  · rw [A0 h0,A8];rfl
  · rw [A1 h0,A3]
    have:xs = []:=N8.1 (by omega);subst this;simp [eqO]
theorem B8S(t:D6)(h:t.2.length<=1000000000):A8H t=some (t,()):=by
  simp only [A8H,C5v];rw [E84 (by simp;omega)];rfl
theorem B3t(t:D6)(h:t.2.length<=1000000000):A4u t=some (t,()):=by
  simp only [A4u,B7L,D8s t.2 h,A5]
theorem E8A(m:Int)(fs:List B1)(hm:0<=m)(hm2:m<=1000000)(hs:szT fs<=1000000000) :
    ∃ k,k<=fs.length/\(k<fs.length->decide (0<=m-szT (fs.take (k+1)))=false)/\A1Q (m,fs)=some ((m,fs.take k),())/\szT (fs.take k)<=m:=by
  have hl:=A5T fs;obtain ⟨k,hk,ht,hf,he⟩:=A3e (A6H B0g K4 (m,fs)) (fun i=>(m-szT (fs.take i),(i:Int),())) fs.length (fun i=>((m,fs.take i),())) (fun i=>decide (0<=m-szT (fs.take (i+1)))) (fun i hi=>by
    have h1:(i:Int)<(fs.length:Int):=by omega
    have h2:(0:Int)<=(i:Int):=by omega
    have h22:(i:Int)<=(fs.length:Int):=by omega
    have h3:=D2R fs hi;have h4:=D2Q fs (i+1);have h5:=A5T (fs.take i);have h6:rd B8 fs (i:Int)=fs[i]:=A15 (k:=B8) hi;have h7:=C0T fs[i];have h8:=A5T (fs.take (i+1));simp only [A6H,A0 h1,A0 h2,A0 h22,A8,h6,Q4,D5];rw [D0C _ (by omega),D8s _ (by simp;omega)];simp only [A5];rw [w64 (n:=m-szT (fs.take i)-ofF fs[i]) (by omega) (by omega),w64 (n:=(i:Int)+1) (by omega) (by omega)];by_cases hq:0<=m-szT (fs.take (i+1))
    · rw [A1 (by omega),A3,A0 hq,A6 rfl,h3]
      rw [show m-szT (fs.take i)-ofF fs[i]=m-(szT (fs.take i)+ofF fs[i]) by omega];rfl
    · rw [A0 (by omega),A8,A1 hq]
      rfl) (by
    have h1:¬ ((fs.length:Nat):Int)<(fs.length:Int):=by omega
    simp only [A6H,A1 h1,A3];rw [H4 (by omega)])
  have hkm:szT (fs.take k)<=m:=by
    cases k with
    | zero=>simp [szT];omega
    | succ k=>have:=C0 (ht k (by omega));omega
  refine ⟨k,hk,hf,?_,hkm⟩;simp only [A1Q,B51];have e0:(m,(0:Int),())=(fun i:Nat=>(m-szT (fs.take i),(i:Int),())) 0:=by simp [szT]
  rw [e0];exact he
theorem E8B(m:Int)(fs:List B1)(hm:0<=m)(hm2:m<=1000000)(hs:szT fs<=1000000000) :
    ∃ k,A1Q (m,fs)=some ((m,fs.take k),())/\A4k (m,fs)=some ((m,fs.take k),())/\szT (fs.take k)<=m:=by
  have hl:=A5T fs;obtain ⟨k,hk,hf,hi,hkm⟩:=E8A m fs hm hm2 hs;refine ⟨k,hi,?_,hkm⟩
  · simp only [A4k,B2r]
    refine E4t (A9h A8G) (fun x=>x.2.1.length) (fun x=>x.1=m/\∃ j,k<=j/\j<=fs.length/\x.2.1=fs.take j) _ (fun x hx=>?_) (m,fs,()) ⟨rfl,fs.length,hk,C1 _,by rw [H4 (by omega)]⟩;obtain ⟨a,b,u⟩:=x;obtain ⟨e1,j,hj1,hj2,e2⟩:=hx;simp only at e1 e2;subst e1 e2;have h4:=D2Q fs j;have hjl:(fs.take j).length=j:=by rw [B4];omega
    simp only [A9h];rw [C7g _ _ (by omega)];simp only [A5];by_cases hq:szT (fs.take j)>a
    · left
      have hjk:k<j:=by
        rcases C1e k j with h | h
        · exact h
        · have:=D8r fs h;omega
      have e3:i64.wrap (((fs.take j).length:Int)-1)=((j-1:Nat):Int):=by rw [w64 (by omega) (by omega)];omega
      rw [A0 hq,A8,e3,A0 (by omega),A0 (by omega)];refine ⟨(a,fs.take (j-1),()),?_,⟨rfl,j-1,by omega,by omega,rfl⟩,by simp only [B4];omega⟩;simp only [A8,D5,Q4,S4];rw [A0H (by omega)]
    · right
      rw [A1 hq,A3];have hjk:j=k:=by
        rcases C1e k j with h | h
        · have h5:=C6m (hf (by omega))
          have:=D8r fs (i:=k+1) (j:=j) (by omega);omega
        · omega
      rw [hjk]
theorem F1W(t:D6)(f:B1)(hm:0<=t.1)(hm2:t.1<=1000000)(hs:szT t.2+ofF f<=1000000000) :
    ∃ T,A2P t f=some ((t.1,T),())/\szT T<=t.1:=by
  obtain ⟨m,fs⟩:=t;have hl:=A5T fs;have hf:=C0T f;simp only at hm hm2 hs;obtain ⟨k,_,_,h1,h3⟩:=E8A m (f::fs) hm hm2 (by simp only [szT];omega);refine ⟨(f::fs).take k,?_,h3⟩;have e:C7H fs 0 [f]=some (f::fs,()):=by
    simp only [C7H];rw [A0 (by omega),A0 (by omega),A0 (by simp),A0 (by simp;omega)];rfl
  simp only [A2P,B1T,show P3=C7H from rfl,e,A5,h1]
theorem F1A(t:D6)(f:B1)(hm:0<=t.1)(hm2:t.1<=1000000)(hs:szT t.2+ofF f<=1000000000) :
    ∃ T,A2P t f=some ((t.1,T),())/\A4l t f=some ((t.1,T),())/\szT T<=t.1:=by
  obtain ⟨m,fs⟩:=t;have hl:=A5T fs;have hf:=C0T f;simp only at hm hm2 hs;obtain ⟨k,h1,h2,h3⟩:=E8B m (f::fs) hm hm2 (by simp only [szT];omega);refine ⟨(f::fs).take k,?_,?_,h3⟩
  · have e:C7H fs 0 [f]=some (f::fs,()):=by
      simp only [C7H];rw [A0 (by omega),A0 (by omega),A0 (by simp),A0 (by simp;omega)];rfl
    simp only [A2P,B1T,show P3=C7H from rfl,e,A5,h1]
  · simp only [A4l,B2s]
    rw [E84 (by simp;omega)];simp only [A2w,E2,H7,h2,A5]
def A1S(t:D6):Prop:=0<=t.1/\t.1<=4096/\szT t.2<=t.1
theorem A7v{t:D6}(h:A1S t):t.2.length<=128:=by
  have:=A5T t.2;obtain ⟨h0,h1,h2⟩:=h;omega
theorem E8C{t:D6}(hs:szT t.2<=10000000000000)(h:A2R t=some (true,())):A1S t:=by
  obtain ⟨m,fs⟩:=t;simp only at hs;simp only [A2R,B6H,A1A,A5,C7g m fs hs] at h;by_cases h1:0<=m/\m<=4096
  · rw [A0 h1,A8] at h
    simp only [F9,A5C,I4,and_true] at h;exact ⟨h1.1,h1.2,h⟩
  · rw [A1 h1,A3] at h
    simp at h
theorem bO{A B:Type}(x:A)(f:A->Option B):A5 (some x) f=f x:=rfl
theorem bSl{A B:Type}(x:A)(f:A->Option B):I2 (some (Sum.inl x)) f=f x:=rfl
theorem bSr{A B:Type}(y:B)(f:A->Option B):I2 (some (Sum.inr y)) f=some y:=rfl
set_option maxRecDepth 100000
def itB(n:Int):X0:=⟨(Lib.itoa n).toArray⟩
theorem E5D{n:Int}(h0:0<=n)(h1:n<10):itB n=strOf [u8.wrap (i64.wrap (48+n))]:=by
  have h2:u8.wrap (48+n)=48+n:=by
    simp only [IntKind.wrap,IntKind.bits,IntKind.signed,A66];simp;omega
  rw [w64 (by omega) (by omega),h2];unfold itB strOf strOfNums Lib.itoa;rw [A4 (by omega),Lib.decDigits_one (by omega)];simp only [H2,B4N];rw [show (48+n).toNat=48+n.toNat by omega]
theorem F05{n:Int}(h1:¬ n<10):itB n=itB (n / 10)++strOf [u8.wrap (i64.wrap (48+n % 10))]:=by
  have h2:u8.wrap (48+n % 10)=48+n % 10:=by
    simp only [IntKind.wrap,IntKind.bits,IntKind.signed,A66];simp;omega
  rw [w64 (by omega) (by omega),h2];apply ByteArray.ext;rw [C22];unfold itB strOf strOfNums Lib.itoa;rw [A4 (by omega),A4 (by omega),Lib.decDigits,dif_neg (by omega)];simp only [H2,B4N];rw [show (48+n % 10).toNat=48+n.toNat % 10 by omega,show (n / 10).toNat=n.toNat / 10 by omega];simp
theorem F06(n:Int)(h0:0<=n)(h1:n<=4294967295):A97 n=some (itB n,()):=by
  have e:(decide (-9223372036854775808<=n)&&decide (n<=9223372036854775807))=true:=by
    rw [A0 (by omega),A0 (by omega)];rfl
  rw [show A97 n=D1B n from rfl];simp only [D1B,e,A8];rfl
set_option maxRecDepth 100000
theorem B11(xs:List Int)(h:xs.length<=1000000000):H1 xs=some (xs,()):=by
  simp only [H1,A1L];rw [gA (by simp;omega)];by_cases h0:0<xs.length
  · rw [A0 h0,A8];rfl
  · rw [A1 h0,A3]
    have:xs = []:=N8.1 (by omega);subst this;simp [eqO]
theorem fok(k fl id:Int)(q:List Int)(h1:0<=k/\k<=255)(h2:0<=fl/\fl<=255)(h3:0<=id/\id<=2147483647)(h4:(q.length:Int)<=1000):A45 (k,fl,id,q)=true:=by
  simp only [A45,A0 h1,A0 h2,A0 h3,A0 h4];rfl
theorem D2S(f:F6)(h:A45 f=true):(B5E f).length<=1009:=by
  simp only [A45,B5,I4] at h;simp only [B5E,B0,B1s,F0,M3];omega
theorem D8t{f:F6}(h:A45 f=true):f.2.2.2.length<=1000:=by
  simp only [A45,B5,I4] at h;omega
set_option maxRecDepth 100000
set_option maxRecDepth 100000
set_option maxRecDepth 100000
noncomputable def mfs(m:Int)(n:Nat):List B1:=(List.range n).map fun j=>(mt (m+2*(j:Nat)),mt (m+2*(j:Nat)+1))
theorem A9p(m:Int)(n:Nat):(mfs m n).length=n:=by simp [mfs]
theorem E8D(m:Int)(n:Nat):mfs m (n+1)=mfs m n ++ [(mt (m+2*(n:Nat)),mt (m+2*(n:Nat)+1))]:=by
  simp [mfs,List.range_succ]
theorem D6h(t:D6)(m:Int)(h0:0<=m)(h1:m<=1000000000000)(h2:t.2.length<=1000000000):A7L t m=some (m+2*t.2.length,(t.1,mfs m t.2.length),()):=by
  have key:A9A t.2 m=some (m+2*t.2.length,mfs m t.2.length,()):=by
    obtain ⟨mm,fs⟩:=t;simp only at h2 ⊢;simp only [A9A,B4p];have:=L3 (A6D O0) (fun k=>(m+2*(k:Nat),(k:Int),mfs m k++fs.drop k,())) fs.length (m+2*fs.length,mfs m fs.length,()) (fun k hk=>by
      have hl:(mfs m k++fs.drop k).length=fs.length:=by rw [B0,A9p,C9];omega
      have a1:(k:Int)<((mfs m k++fs.drop k).length:Int):=by omega
      have a2:(0:Int)<=(k:Int):=by omega
      have e1:fs.drop k=fs[k]::fs.drop (k+1):=I5 hk;have hs:∀ x:B1,(mfs m k++fs.drop k).set k x=mfs m k++x::fs.drop (k+1):=by
        intro x;rw [e1,List.set_append_right _ _ (by rw [A9p];omega),A9p,Nat.sub_self];rfl
      have hr:∀ x:B1,rd B8 (mfs m k++x::fs.drop (k+1)) (k:Int)=x:=by
        intro x;unfold rd;rw [D5,E3,G2 (by rw [A9p];omega),A9p,Nat.sub_self];rfl
      have hs2:∀ x y:B1,(mfs m k++x::fs.drop (k+1)).set k y=mfs m k++y::fs.drop (k+1):=by
        intro x y;rw [List.set_append_right _ _ (by rw [A9p];omega),A9p,Nat.sub_self];rfl
      have hl2:∀ x:B1,(mfs m k++x::fs.drop (k+1)).length=fs.length:=by
        intro x;rw [B0,A9p,F0,C9];omega
      simp only [A6D,A0 a1,A0 a2,A8];rw [A8i _ (by omega),w64 (n:=m+2*(k:Int)+1) (by omega) (by omega),A8i _ (by omega)];simp only [A5,D5,hs,hr,hs2,hl2];rw [A0 (by omega),A8,w64 (by omega) (by omega),w64 (by omega) (by omega),E8D];simp only [B3,A2w,E2,H7];rw [show m+2*(k:Int)+1+1=m+2*((k+1:Nat):Int) by omega];rfl) (by
      have a1:¬ ((fs.length:Nat):Int)<((mfs m fs.length).length:Int):=by rw [A9p];omega
      simp only [A6D,List.drop_length,G5,A1 a1,A3])
    simpa [mfs] using this
  simp only [A7L,B7J,key,A5]
theorem D6i(x:Int)(n:Nat)(m:Int)(h0:0<=m)(h1:m<=1000000000000)(h2:n<=1000000000):A7M (x,mfs m n) m=some (m+2*n,()):=by
  have key:A9F (mfs m n) m=some (m+2*n,()):=by
    simp only [A9F,B4s];have:=L3 (A6E O0 (mfs m n)) (fun k=>(m+2*(k:Nat),(k:Int),())) n (m+2*n,()) (fun k hk=>by
      have a1:(k:Int)<((mfs m n).length:Int):=by rw [A9p];omega
      have a2:(0:Int)<=(k:Int):=by omega
      have hr:rd B8 (mfs m n) (k:Int)=(mt (m+2*(k:Nat)),mt (m+2*(k:Nat)+1)):=by
        unfold rd mfs;simp [E3,hk]
      simp only [A6E,A0 a1,A0 a2,A8,hr];rw [A8i _ (by omega),w64 (n:=m+2*(k:Int)+1) (by omega) (by omega),A8i _ (by omega)];simp only [A5,beq_self_eq_true,C3,A3];rw [w64 (by omega) (by omega),w64 (by omega) (by omega),show m+2*(k:Int)+1+1=m+2*((k+1:Nat):Int) by omega];rfl) (by
      have a1:¬ ((n:Nat):Int)<((mfs m n).length:Int):=by rw [A9p];omega
      simp only [A6E,A1 a1,A3])
    simpa using this
  simp only [A7M,B7K,key,A5];rw [A1 (by omega)];rfl
set_option maxRecDepth 100000
theorem D42{R:Type}{n:Nat}{X:Option R}(h:n<=1000000000000):(bif decide (n<=9223372036854775807) then bif decide (n*72<=140737488355328) then X else none else none)=X:=by
  rw [A0 (by omega),A0 (by omega)];rfl
def C58(c:J5):Prop:=c.2.1.length<=2000000/\c.2.2.1.2.2.length<=2000000/\c.2.2.2.1.2.length<=2000000/\c.2.2.2.2.1.2.length<=2000000/\c.2.2.2.2.2.1.length<=2000000/\∀ x∈c.2.2.2.2.2.1,x.2.2.2.length<=2000000
theorem D5P(g:I1)(h:g.2.2.length<=2000000):B56 g=some (g,()):=by
  simp only [B56,C5w];rw [gA (by simp;omega)];rfl
theorem C59(g:I1)(h:g.2.2.length<=2000000):A5m g=some (g,()):=by
  simp only [A5m,B4v,B11 g.2.2 (by omega),A5]
theorem D2T(c:J5)(h:C58 c):B6L c=some (c,()):=by
  obtain ⟨h1,h2,h3,h4,h5,h6⟩:=h;simp only [B6L,C2j];rw [gA (by simp;omega)];simp only [D5P _ h2,B8S c.2.2.2.1 (by omega),B8S c.2.2.2.2.1 (by omega),bO,H7];refine L3 (B1d c) (fun k=>((k:Int),c.1,c.2.2.1.1,c.2.2.1.2.1,c.2.2.2.1.1,c.2.2.2.2.1.1,c.2.2.2.2.2.2.1,c.2.2.2.2.2.2.2,c.2.1,c.2.2.1.2.2,c.2.2.2.1.2,c.2.2.2.2.1.2,c.2.2.2.2.2.1.take k,())) c.2.2.2.2.2.1.length (c,()) (fun k hk=>?_) ?_
  · have a1:(k:Int)<(c.2.2.2.2.2.1.length:Int):=by omega
    have a2:(0:Int)<=(k:Int):=by omega
    have a3:rd E6 c.2.2.2.2.2.1 (k:Int)=c.2.2.2.2.2.1[k]:=A15 (k:=E6) hk;have a4:=h6 _ (F3 hk);simp only [B1d,A0 a1,A0 a2,A8,a3,H7];rw [gA (by simp;omega),D42 (by simp;omega),w64 (by omega) (by omega),H5 hk];rfl
  · have a1:¬ ((c.2.2.2.2.2.1.length:Nat):Int)<(c.2.2.2.2.2.1.length:Int):=by omega
    simp only [B1d,A1 a1,A3];rw [H4 (C1 _)]
theorem D0D(c:J5)(h:C58 c):B3d c=some (c,()):=by
  obtain ⟨h1,h2,h3,h4,h5,h6⟩:=h;simp only [B3d,B9l,B11 c.2.1 (by omega),C59 _ h2,B3t c.2.2.2.1 (by omega),B3t c.2.2.2.2.1 (by omega),bO];refine L3 (A9K H1 c) (fun k=>((k:Int),c.1,c.2.2.1.1,c.2.2.1.2.1,c.2.2.2.1.1,c.2.2.2.2.1.1,c.2.2.2.2.2.2.1,c.2.2.2.2.2.2.2,c.2.1,c.2.2.1.2.2,c.2.2.2.1.2,c.2.2.2.2.1.2,c.2.2.2.2.2.1.take k,())) c.2.2.2.2.2.1.length (c,()) (fun k hk=>?_) ?_
  · have a1:(k:Int)<(c.2.2.2.2.2.1.length:Int):=by omega
    have a2:(0:Int)<=(k:Int):=by omega
    have a3:rd E6 c.2.2.2.2.2.1 (k:Int)=c.2.2.2.2.2.1[k]:=A15 (k:=E6) hk;have a4:=h6 _ (F3 hk);simp only [A9K,A0 a1,A0 a2,A8,a3,B11 _ (show (c.2.2.2.2.2.1[k]).2.2.2.length<=1000000000 by omega),bO];rw [D42 (by simp;omega),w64 (by omega) (by omega),H5 hk];rfl
  · have a1:¬ ((c.2.2.2.2.2.1.length:Nat):Int)<(c.2.2.2.2.2.1.length:Int):=by omega
    simp only [A9K,A1 a1,A3];rw [H4 (C1 _)]
def C30(c:J5)(j:Nat):Int:=(rd E6 c.2.2.2.2.2.1 (j:Int)).1
theorem E8E(c:J5)(id:Int)(h:c.2.2.2.2.2.1.length<=2000000):∃ i,i<=c.2.2.2.2.2.1.length/\(∀ j,j<i->C30 c j≠id)/\(i<c.2.2.2.2.2.1.length->C30 c i=id)/\
    B0t c id=some (if i<c.2.2.2.2.2.1.length then (i:Int) else -1,()):=by
  obtain ⟨i,h1,h2,h3,h4⟩:=A3e (B6M c id) (fun j=>((j:Int),())) c.2.2.2.2.2.1.length (fun j=>(if j<c.2.2.2.2.2.1.length then (j:Int) else -1,())) (fun j=>!decide (C30 c j=id)) (fun j hj=>by
    have a1:(j:Int)<(c.2.2.2.2.2.1.length:Int):=by omega
    have a2:(0:Int)<=(j:Int):=by omega
    simp only [B6M,A0 a1,A0 a2,A8,A6 hj];rw [w64 (by omega) (by omega)];unfold C30;cases decide ((rd E6 c.2.2.2.2.2.1 (j:Int)).1=id)<;>rfl) (by
    have a1:¬ ((c.2.2.2.2.2.1.length:Nat):Int)<(c.2.2.2.2.2.1.length:Int):=by omega
    simp only [B6M,A1 a1,A3,A4 (A2W _)])
  exact ⟨i,h1,fun j hj=>by simpa using h2 j hj,fun hi=>by simpa using h3 hi,h4⟩
theorem str_eq(c:J5)(id:Int)(h:c.2.2.2.2.2.1.length<=2000000):∃ i,i<=c.2.2.2.2.2.1.length/\(∀ j,j<i->C30 c j<id)/\(i<c.2.2.2.2.2.1.length->¬ C30 c i<id)/\
    A3H c id=some ((i:Int),(decide (i<c.2.2.2.2.2.1.length)&&decide (C30 c i=id)),c,()):=by
  obtain ⟨i,h1,h2,h3,h4⟩:=A3e (A9N c id) (fun j=>((j:Int),())) c.2.2.2.2.2.1.length (fun j=>((j:Int),())) (fun j=>decide (C30 c j<id)) (fun j hj=>by
    have a1:(j:Int)<(c.2.2.2.2.2.1.length:Int):=by omega
    have a2:(0:Int)<=(j:Int):=by omega
    simp only [A9N,A0 a1,A0 a2,A8];rw [w64 (by omega) (by omega)];unfold C30;cases decide ((rd E6 c.2.2.2.2.2.1 (j:Int)).1<id)<;>rfl) (by
    have a1:¬ ((c.2.2.2.2.2.1.length:Nat):Int)<(c.2.2.2.2.2.1.length:Int):=by omega
    simp only [A9N,A1 a1,A3])
  refine ⟨i,h1,fun j hj=>by simpa using h2 j hj,fun hi=>by simpa using h3 hi,?_⟩;simp only [A3H,B9u];rw [show ((0:Int),())=(fun j:Nat=>((j:Int),())) 0 from rfl,h4];simp only [bO];by_cases hi:i<c.2.2.2.2.2.1.length
  · rw [A0 (p:=(i:Int)<(c.2.2.2.2.2.1.length:Int)) (by omega),A0 (p:=(0:Int)<=(i:Int)) (by omega),A0 hi]
    rfl
  · rw [A1 (p:=(i:Int)<(c.2.2.2.2.2.1.length:Int)) (by omega),A1 hi]
    rfl
theorem E3l{c:J5}(h:C1l c=true):∀ i,i+1<c.2.2.2.2.2.1.length->C30 c i<C30 c (i+1):=by
  intro i hi;have h1:A3f (A9o c) 0 c.2.2.2.2.2.1.length=c.2.2.2.2.2.1.length:=by
    simp only [C1l,B5,I4] at h;exact h.1
  have h2:=B6f (A9o c) c.2.2.2.2.2.1.length 0 (i+1) (by omega) (by omega);simp only [A9o,B5,L6,I4,V0,A1j] at h2;have h3:=h2.1.1.2;rw [show (((i+1:Nat):Int)-1)=(i:Int) by omega] at h3;have h4:¬ C30 c (i+1)<=C30 c i:=by
    rcases h3 with q | q
    · omega
    · exact q
  omega
theorem E3m{c:J5}(h:C1l c=true):∀ k i,i+k+1<c.2.2.2.2.2.1.length->C30 c i<C30 c (i+k+1)
  | 0,i,hi=>E3l h i hi
  | k+1,i,hi=>by
    have h1:=E3m h k i (by omega);have h2:=E3l h (i+k+1) (by omega);rw [show i+(k+1)+1=i+k+1+1 by omega];omega
theorem at_eq(c:J5)(id:Int)(h:c.2.2.2.2.2.1.length<=2000000)(hs:C1l c=true):∃ i:Nat,∃ has:Bool,(has=true->i<c.2.2.2.2.2.1.length/\C30 c i=id)/\
    B0t c id=some (if has then (i:Int) else -1,())/\A3H c id=some ((i:Int),has,c,()):=by
  obtain ⟨i1,a1,a2,a3,a4⟩:=E8E c id h;obtain ⟨i2,b1,b2,b3,b4⟩:=str_eq c id h;refine ⟨i2,_,?_,?_,b4⟩
  · intro q
    simp only [B5,I4] at q;exact q
  · rw [a4]
    by_cases h1:i2<c.2.2.2.2.2.1.length
    · by_cases h2:C30 c i2=id
      · have e:i1=i2:=by
          rcases B79 i1 i2 with q | q | q
          · have:=b2 i1 q
            have:=a3 (by omega);omega
          · exact q
          · exact absurd h2 (a2 i2 q)
        rw [e,A0 h1,A0 h2];simp [h1]
      · have e:¬ i1<c.2.2.2.2.2.1.length:=by
          intro q;have q3:=a3 q;rcases B79 i1 i2 with q2 | q2 | q2
          · have:=b2 i1 q2;omega
          · rw [q2] at q3;exact h2 q3
          · have q4:=E3m hs (i1-i2-1) i2 (by omega)
            rw [show i2+(i1-i2-1)+1=i1 by omega] at q4;have:=b3 h1;omega
        rw [A1 h2,A4 e];simp
    · have e:¬ i1<c.2.2.2.2.2.1.length:=by
        intro q;have:=b2 i1 (by omega);have:=a3 q;omega
      rw [A1 h1,A4 e];simp
set_option maxRecDepth 100000
theorem D5Q(t:D6)(h:t.2.length<=2000000)(m:Int)(h0:0<=m)(h1:m<=900000000000) :
    ∃ m' y,A7L t m=some (m',(t.1,y),())/\m<=m'/\m'<=m+4000000/\∀ a,A7M (a,y) m=some (m',()):=
  ⟨_,_,D6h t m h0 (by omega) (by omega),by omega,by omega,fun a=>D6i a _ m h0 (by omega) (by omega)⟩
theorem F07(a:List L7)(h:a.length<=1048576):MH (B9W a) B9b (cost (fun u=>List.length u.2.2.2+5) a):=by
  refine E3d (A9C V9 O0) (A9H W3 O0) (fun u=>List.length u.2.2.2+5) a h (fun i hi m h0 h1=>?_) (fun m b hb=>by simp [A9C,hb]) (fun m b hb=>by simp [A9H,hb]);obtain ⟨m1,d,e1,b1,b2,e2⟩:=B8R a[i].2.2.2 (m+1+1+1+1+1) (by omega) (by omega);have w1:i64.wrap (m+1)=m+1:=w64 (by omega) (by omega);have w2:i64.wrap (m+1+1)=m+1+1:=w64 (by omega) (by omega);have w3:i64.wrap (m+1+1+1)=m+1+1+1:=w64 (by omega) (by omega);have w4:i64.wrap (m+1+1+1+1)=m+1+1+1+1:=w64 (by omega) (by omega);have w5:i64.wrap (m+1+1+1+1+1)=m+1+1+1+1+1:=w64 (by omega) (by omega);have wi:i64.wrap ((i:Int)+1)=(i:Int)+1:=w64 (by omega) (by omega);have g1:(0:Int)<=(i:Int):=by omega
  have ht:=A8i (m+1+1+1) (by omega);refine ⟨m1,(m,m+1,(m+1+1,mt (m+1+1+1),m+1+1+1+1),d),by omega,by omega,fun b hb e=>?_,fun b hb e=>?_⟩
  · have hib:i<b.length:=by omega
    have g2:(i:Int)<(b.length:Int):=by omega
    have hr:rd E6 b (i:Int)=a[i]:=by rw [A15 (k:=E6) (xs:=b) (by omega)];exact e
    simp only [A9C,A5,S6,A0 g1,A0 g2,A8,D5,w1,w2,w3,w4,w5,wi,List.set_set,E7u (k:=E6) hib,hr,ht,e1]
  · have g2:(i:Int)<(b.length:Int):=by omega
    have hr:rd E6 b (i:Int)=(m,m+1,(m+1+1,mt (m+1+1+1),m+1+1+1+1),d):=by rw [A15 (k:=E6) (xs:=b) (by omega)];exact e
    simp only [A9H,A5,A0 g1,A0 g2,A8,w1,w2,w3,w4,w5,wi,hr,ht,e2];rw [A1 (show ¬ m1<0 by omega)];simp
theorem D5R:∀ a:List L7,(∀ x∈a,x.2.2.2.length<=2000000)->cost (fun u:L7=>List.length u.2.2.2+5) a<=2000005*a.length
  | [],_=>by simp [cost]
  | x::a,h=>by
    have h1:=D5R a fun y hy=>h y (B6 _ hy)
    have h2:=h x A9;simp only [cost,H2,List.sum_cons,F0] at h1 ⊢;omega
theorem E3n(c:J5)(h:C58 c)(hl:c.2.2.2.2.2.1.length<=1048576):∃ m' y1 y2 y3 y4 y5,A9D c 1=some (m',(c.1,(y1,((c.2.2.1.1,(c.2.2.1.2.1,y2)),((c.2.2.2.1.1,y3),((c.2.2.2.2.1.1,y4),(y5,c.2.2.2.2.2.2)))))),())/\1<=m'/\m'<=4000000000000/\
    ∀ q1 q2 q3 q4 q5 q6,A9I (q1,(y1,((q2,(q3,y2)),((q4,y3),((q5,y4),(y5,q6)))))) 1=some (m',()):=by
  obtain ⟨h1,h2,h3,h4,h5,h6⟩:=h;have hc:=D5R _ h6;obtain ⟨m1,y1,e1,a1,b1,f1⟩:=B8R c.2.1 1 (by omega) (by omega);obtain ⟨m2,y2,e2,a2,b2,f2⟩:=B8R c.2.2.1.2.2 m1 (by omega) (by omega);obtain ⟨m3,y3,e3,a3,b3,f3⟩:=D5Q c.2.2.2.1 h3 m2 (by omega) (by omega);obtain ⟨m4,y4,e4,a4,b4,f4⟩:=D5Q c.2.2.2.2.1 h4 m3 (by omega) (by omega);obtain ⟨m5,y5,e5,a5,b5,f5⟩:=F07 c.2.2.2.2.2.1 hl m4 (by omega) (by omega);refine ⟨m5,y1,y2,y3,y4,y5,?_,by omega,by omega,fun q1 q2 q3 q4 q5 q6=>?_⟩
  · simp only [A9D,B9a,B4r,B4q,e1,e2,e3,e4,e5,bO]
  · have d1:decide (m1<0)=false:=A1 (by omega)
    have d2:decide (m2<0)=false:=A1 (by omega);have d3:decide (m3<0)=false:=A1 (by omega);have d4:decide (m4<0)=false:=A1 (by omega);have d5:decide (m5<0)=false:=A1 (by omega);simp only [A9I,B9c,B4u,B4t,f1,f2,f3,f4,f5,bO,d1,d2,d3,d4,d5,A3]
theorem E1L(N:Nat):∀ fs:List B1,(∀ x∈fs,Sm N B8 x)->szT fs<=(2*N+32:Int)*fs.length
  | [],_=>by simp [szT]
  | f::fs,h=>by
    have h1:=E1L N fs fun x hx=>h x (B6 _ hx)
    have h2:=h f A9;have h3:f.1.size<=N:=h2.l;have h4:f.2.size<=N:=h2.r;simp only [szT,ofF,F0];rw [show ((fs.length+1:Nat):Int)=(fs.length:Int)+1 by omega,Int.mul_add,Int.mul_one];omega
set_option maxRecDepth 100000
def Q8:Nat->Nat->List Bool
  | 0,_=> []
  | n+1,v=>v.testBit n::Q8 n v
theorem A2b:∀ n v,(Q8 n v).length=n
  | 0,_=>rfl
  | n+1,v=>by simp only [Q8,F0,A2b n v]
theorem A8j(m:Nat):∀ (n v:Nat),n<=m->Q8 n (v % 2 ^ m)=Q8 n v
  | 0,_,_=>rfl
  | n+1,v,h=>by
    simp only [Q8];rw [A8j m n v (by omega),Nat.testBit_mod_two_pow,A0 (show n<m by omega),K2]
theorem B8T:∀ a b v,Q8 (a+b) v=Q8 a (v / 2 ^ b)++Q8 b v
  | 0,b,v=>by simp [Q8]
  | a+1,b,v=>by
    rw [show a+1+b=(a+b)+1 by omega];simp only [Q8,E2];rw [B8T a b v,B8u]
theorem C95:∀ n v w,v<2 ^ n->w<2 ^ n->Q8 n v=Q8 n w->v=w
  | 0,v,w,hv,hw,_=>by simp at hv hw;omega
  | n+1,v,w,hv,hw,h=>by
    simp only [Q8,List.cons.injEq] at h;obtain ⟨h1,h2⟩:=h;rw [<- A8j n n v (C1 _),<- A8j n n w (C1 _)] at h2;have h3:=C95 n _ _ (A4e _ (A13 n)) (A4e _ (A13 n)) h2;rw [B0P,B0P] at h1;rw [A4g] at hv hw;have h0:=A13 n;generalize 2 ^ n=p at *
    have h4:=A4q v p;have h5:=A4q w p;have h6:v / p<2:=A67 hv;have h7:w / p<2:=A67 hw;have h8:v / p=w / p:=by
      clear h4 h5
      generalize v / p=a at *
      generalize w / p=b at *
      have q1:a=0\/a=1:=by omega
      have q2:b=0\/b=1:=by omega
      rcases q1 with rfl | rfl<;>rcases q2 with rfl | rfl<;>simp_all
    rw [h8] at h4;omega
theorem C0U:∀ n m,n<=m->Q8 n (2 ^ m-1)=List.replicate n true
  | 0,_,_=>rfl
  | n+1,m,h=>by
    simp only [Q8,A0w];rw [C0U n m (by omega),Nat.testBit_two_pow_sub_one,A0 (show n<m by omega)]
def J4(l:List Int):List Bool:=l.flatMap fun x=>Q8 8 x.toNat
theorem C7h(a b:List Int):J4 (a++b)=J4 a++J4 b:=by simp [J4]
theorem A56(x:Int)(b:List Int):J4 (x::b)=Q8 8 x.toNat++J4 b:=by simp [J4]
theorem D6j(x:Int):J4 [x]=Q8 8 x.toNat:=by simp [J4]
theorem A0h:∀ l:List Int,(J4 l).length=8*l.length
  | []=>rfl
  | x::l=>by
    have:=A0h l;rw [A56,B0,A2b,F0];omega
theorem C7i:∀ {a b:List Int},Byt a->Byt b->J4 a=J4 b->a=b
  | [],[],_,_,_=>rfl
  | [],y::b,_,_,h=>by have:=N1 List.length h;rw [A0h,A0h] at this;simp at this
  | x::a,[],_,_,h=>by have:=N1 List.length h;rw [A0h,A0h] at this;simp at this
  | x::a,y::b,ha,hb,h=>by
    rw [A56,A56] at h;have h1:=List.append_inj h (by rw [A2b,A2b]);have hx:=ha x A9;have hy:=hb y A9;have h2:=C95 8 _ _ (by omega) (by omega) h1.1;have h3:=C7i (fun z hz=>ha z (B6 _ hz)) (fun z hz=>hb z (B6 _ hz)) h1.2;rw [h3,show x=y by omega]
def coN(x:Nat):Nat:=(codesT.getD x 0).toNat
def leN(x:Nat):Nat:=(lensT.getD x 0).toNat
def cod(x:Nat):List Bool:=Q8 (leN x) (coN x)
theorem E8F:(List.range 257).all (fun x=>decide (0<=codesT.getD x 0)&&decide ((codesT.getD x 0).toNat<2 ^ (lensT.getD x 0).toNat))=true:=by kernel_rfl
theorem E3o{x:Nat}(h:x<257):0<=codesT.getD x 0/\coN x<2 ^ leN x:=by
  have:=C4.1 E8F x (O8.2 h);simpa [coN,leN] using this
theorem D8u{x:Nat}(h:x<257):5<=lensT.getD x 0/\lensT.getD x 0<=30:=by
  have h:=C4.1 D5O (lensT.getD x 0) (by
    rw [E3,C8 (by rw [A0t];exact h)];exact F3 _)
  simpa using h
def A2C(l:List Nat):List Bool:=l.flatMap cod
theorem D0E(a b:List Nat):A2C (a++b)=A2C a++A2C b:=by simp [A2C]
theorem C7j{x y:Nat}(hx:x<9223372036854775808)(hy:y<9223372036854775808):W9 .i64 (x:Int) (y:Int)=((x &&& y:Nat):Int):=by
  have h:x &&& y<9223372036854775808:=C6p Nat.and_le_left hx;unfold W9;rw [BitVec.toNat_and,bits_nat (by simp only [IntKind.bits];omega),bits_nat (by simp only [IntKind.bits];omega)];exact D8W h
theorem D6k{x y:Nat}(hx:x<9223372036854775808)(hy:y<9223372036854775808):bOr .i64 (x:Int) (y:Int)=((x ||| y:Nat):Int):=E3c hx hy
theorem D6l{m:Nat}(h:m<64):(min (u64.wrap (m:Int)).toNat i64.bits)=m:=by
  have:u64.wrap (m:Int)=m:=by
    simp only [IntKind.wrap,IntKind.bits,IntKind.signed,A66];simp;omega
  rw [this];simp only [IntKind.bits];omega
theorem C7k(m:Nat):((2:Int) ^ m)=((2 ^ m:Nat):Int):=by simp
theorem D2U{m n:Nat}(h:m<=n):2 ^ m<=2 ^ n:=A0S (by omega) h
theorem p62{m:Nat}(h:m<=62):2 ^ m<=4611686018427387904:=A4b (D2U h) (by decide)
theorem D8v{v m:Nat}(hm:m<62)(h:v*2 ^ m<9223372036854775808):i64.wrap ((v:Int)*2 ^ (min (u64.wrap (m:Int)).toNat i64.bits))=((v*2 ^ m:Nat):Int):=by
  rw [D6l (by omega),C7k,<- Int.natCast_mul,w64 (by omega) (by omega)]
theorem C7l{m:Nat}(hm:m<62):i64.wrap (i64.wrap (1*2 ^ (min (u64.wrap (m:Int)).toNat i64.bits))-1)=((2 ^ m-1:Nat):Int):=by
  have h1:=p62 (show m<=62 by omega);have h2:=A13 m;have:=D8v (v:=1) hm (by omega);rw [show ((1:Nat):Int)=1 from rfl] at this;rw [this,w64 (by omega) (by omega)];omega
theorem D0F{x:Nat}(h:x<256):u8.wrap (x:Int)=x:=by
  simp only [IntKind.wrap,IntKind.bits,IntKind.signed,A66];simp;omega
theorem E3p:∀ (k v n:Nat),v<2 ^ n->n<8*(k+1)->n<=60->∃ v' n':Nat,(dr k (v:Int) (n:Int)).1=v'/\(dr k (v:Int) (n:Int)).2.1=n'/\v'<2 ^ n'/\Byt (dr k (v:Int) (n:Int)).2.2/\J4 (dr k (v:Int) (n:Int)).2.2++Q8 n' v' = Q8 n v
  | 0,v,n,hv,h1,h2=>⟨v,n,rfl,rfl,hv,(fun x hx=>by cases hx),rfl⟩
  | k+1,v,n,hv,h1,h2=>by
    by_cases h:8<=n
    · have e:((n:Int)-8)=((n-8:Nat):Int):=by omega
      have hp:=p62 (show n<=62 by omega);have hq:=D2U (show n-8<=n by omega);have h0:=A13 (n-8);have e1:W9 .i64 (v:Int) (i64.wrap (i64.wrap (1*2 ^ (min (u64.wrap ((n:Int)-8)).toNat i64.bits))-1))=((v % 2 ^ (n-8):Nat):Int):=by
        rw [e,C7l (by omega),C7j (by omega) (by omega),A4C]
      have e2:u8.wrap ((v:Int).fdiv (2 ^ (min (u64.wrap ((n:Int)-8)).toNat i64.bits)))=((v / 2 ^ (n-8):Nat):Int):=by
        rw [e,D6l (by omega),B5f _ (by rw [C7k];omega),C7k,<- B8t,D0F];refine A67 ?_;rw [show n=(n-8)+8 by omega,B78] at hv;exact hv
      have e3:v / 2 ^ (n-8)<256:=by
        refine A67 ?_;rw [show n=(n-8)+8 by omega,B78] at hv;exact hv
      obtain ⟨v',n',i1,i2,i3,i4,i5⟩:=E3p k (v % 2 ^ (n-8)) (n-8) (A4e _ h0) (by omega) (by omega);have hge:(n:Int)>=8:=by omega
      have hd:dr (k+1) (v:Int) (n:Int)=((dr k ((v % 2 ^ (n-8):Nat):Int) ((n-8:Nat):Int)).1,(dr k ((v % 2 ^ (n-8):Nat):Int) ((n-8:Nat):Int)).2.1,((v / 2 ^ (n-8):Nat):Int)::(dr k ((v % 2 ^ (n-8):Nat):Int) ((n-8:Nat):Int)).2.2):=by
        simp only [dr,A6 hge];rw [e1,e2,e]
      rw [hd];refine ⟨v',n',i1,i2,i3,?_,?_⟩
      · intro x hx
        rcases C6.1 hx with rfl | hx
        · generalize v / 2 ^ (n-8)=y at e3
          omega
        · exact i4 x hx
      · simp only []
        rw [A56,B3,i5,D5,A8j (n-8) (n-8) v (C1 _),<- B8T 8 (n-8) v]
        congr 1
        omega
    · have hge:¬ (n:Int)>=8:=by omega
      refine ⟨v,n,?_,?_,hv,?_,?_⟩
      · simp only [dr,A4 hge]
      · simp only [dr,A4 hge]
      · simp only [dr,A4 hge]
        intro x hx;cases hx
      · simp only [dr,A4 hge]
        rfl
def D8w(s:X0):Nat->List Nat
  | 0=> []
  | k+1=>D8w s k ++ [(bt s k).toNat]
theorem D6m(s:X0)(k:Nat):leA s k=((leN (bt s k).toNat:Nat):Int):=by
  have:=D8u (C93 s k);simp only [leA,leN];omega
theorem F08(s:X0)(k:Nat):coA s k=((coN (bt s k).toNat:Nat):Int):=by
  have:=E3o (C93 s k);simp only [coA,coN];omega
theorem D90(s:X0):∀ k:Nat,∃ v n:Nat,(hst s k).1=v/\(hst s k).2.1=n/\v<2 ^ n/\n<8/\Byt (hst s k).2.2/\J4 (hst s k).2.2++Q8 n v=A2C (D8w s k)
  | 0=>⟨0,0,rfl,rfl,by decide,by omega,(fun x hx=>by cases hx),rfl⟩
  | k+1=>by
    obtain ⟨v,n,h1,h2,h3,h4,h5,h6⟩:=D90 s k;have hl:=D15 s k;have hf:=(E3o (C93 s k)).2;rw [D6m] at hl;have hle:leN (bt s k).toNat<=30:=by omega
    generalize hL:leN (bt s k).toNat=L at *
    generalize hC:coN (bt s k).toNat=C at *
    have hp:v*2 ^ L+C<2 ^ (n+L):=by
      rw [B78];have:v*2 ^ L+2 ^ L<=2 ^ n*2 ^ L:=by rw [<- O7];exact H3 _ h3
      omega
    have hq:2 ^ (n+L)<=2 ^ 38:=D2U (by omega);have hq':(2:Nat) ^ 38=274877906944:=by decide
    have e1:bOr .i64 (i64.wrap ((hst s k).1*2 ^ (min (u64.wrap (leA s k)).toNat i64.bits))) (coA s k)=((v*2 ^ L+C:Nat):Int):=by
      rw [h1,D6m,F08,hL,hC,D8v (by omega) (by omega),D6k (by omega) (by omega),A0I v,A5e hf]
    obtain ⟨v',n',i1,i2,i3,i4,i5⟩:=E3p 5 (v*2 ^ L+C) (n+L) hp (by omega) (by omega);have e2:(hst s k).2.1+leA s k=((n+L:Nat):Int):=by rw [h2,D6m,hL];omega
    have h7:=E3i s (k+1);simp only [hst,e1,e2] at h7;refine ⟨v',n',?_,?_,i3,?_,?_,?_⟩
    · simp only [hst,e1,e2];exact i1
    · simp only [hst,e1,e2];exact i2
    · omega
    · simp only [hst,e1,e2]
      intro x hx;rcases D9.1 hx with q | q
      · exact h5 x q
      · exact i4 x q
    · simp only [hst,e1,e2]
      rw [C7h,B3,i5,B8T n L];have a1:(v*2 ^ L+C) / 2 ^ L=v:=by
        rw [A0I,Nat.mul_add_div (A13 L),Nat.div_eq_of_lt hf,L0]
      have a2:Q8 L (v*2 ^ L+C)=Q8 L C:=by
        rw [<- A8j L L (v*2 ^ L+C) (C1 _),A0I,C1s,A8j L L C (C1 _)]
      rw [a1,a2,<- B3,h6];simp only [D8w,D0E]
      congr 1
      simp only [A2C,B76,List.flatMap_nil,G5,cod,hL,hC]
theorem D2V(s:X0):Byt (D0B s)/\∃ p,p<8/\J4 (D0B s)=A2C (D8w s s.size)++List.replicate p true:=by
  obtain ⟨v,n,h1,h2,h3,h4,h5,h6⟩:=D90 s s.size;unfold D0B;by_cases h:(hst s s.size).2.1>0
  · rw [A6 h]
    have hn:0<n:=by omega
    have e1:i64.wrap (8-(hst s s.size).2.1)=((8-n:Nat):Int):=by rw [h2,w64 (by omega) (by omega)];omega
    have hp:v*2 ^ (8-n)+(2 ^ (8-n)-1)<2 ^ (n+(8-n)):=by
      rw [B78];have:v*2 ^ (8-n)+2 ^ (8-n)<=2 ^ n*2 ^ (8-n):=by rw [<- O7];exact H3 _ h3
      have:=A13 (8-n);omega
    rw [show n+(8-n)=8 by omega] at hp;have hq:2 ^ (8-n)<=2 ^ 8:=D2U (by omega);have h0:=A13 (8-n);have hm:v*2 ^ (8-n)<256:=by omega
    rw [e1,h1,C7l (by omega),D8v (by omega) (by omega),D6k (by omega) (by omega),A0I v,<- A5e (show 2 ^ (8-n)-1<2 ^ (8-n) by omega),A0I _ v,D0F hp];refine ⟨fun x hx=>?_,8-n,by omega,?_⟩
    · rcases D9.1 hx with q | q
      · exact h5 x q
      · rcases B2.1 q with rfl
        omega
    · rw [C7h,D6j,D5,show (8:Nat)=n+(8-n) by omega,B8T n (8-n)]
      rw [show n+(8-n)-n=8-n by omega];have a1:(v*2 ^ (8-n)+(2 ^ (8-n)-1)) / 2 ^ (8-n)=v:=by
        rw [A0I,Nat.mul_add_div h0,Nat.div_eq_of_lt (by omega),L0]
      have a2:Q8 (8-n) (v*2 ^ (8-n)+(2 ^ (8-n)-1))=List.replicate (8-n) true:=by
        rw [<- A8j (8-n) (8-n) _ (C1 _),A0I,C1s,A8j (8-n) (8-n) _ (C1 _),C0U _ _ (C1 _)]
      rw [a1,a2,<- B3,h6]
  · rw [A4 h]
    refine ⟨h5,0,by omega,?_⟩;have:n=0:=by omega
    subst this;simpa [Q8] using h6
set_option maxRecDepth 100000
def fdC:Nat->Nat->Int->Int->Option Nat
  | 0,_,_,_=>none
  | k+1,i,c,n=>if codesT.getD i 0=c/\lensT.getD i 0=n then some i else fdC k (i+1) c n
theorem D2W:∀ (k i:Nat) (c n:Int) (j:Nat),fdC k i c n=some j->i<=j/\j<i+k/\codesT.getD j 0=c/\lensT.getD j 0=n
  | 0,_,_,_,_,h=>by cases h
  | k+1,i,c,n,j,h=>by
    unfold fdC at h;by_cases hc:codesT.getD i 0=c/\lensT.getD i 0=n
    · rw [A6 hc] at h
      injection h with h
      subst h;exact ⟨C1 _,by omega,hc⟩
    · rw [A4 hc] at h
      have:=D2W k (i+1) c n j h;omega
def B2S(c n:Nat):Option Nat:=fdC 257 0 (c:Int) (n:Int)
theorem C0V{c n j:Nat}(h:B2S c n=some j):j<257/\coN j=c/\leN j=n:=by
  obtain ⟨h1,h2,h3,h4⟩:=D2W _ _ _ _ _ h;refine ⟨by omega,?_,?_⟩
  · simp only [coN,h3];omega
  · simp only [leN,h4];omega
theorem E5E{c n:Nat}(h:B2S c n=some 256):n=30:=by
  have:=(C0V h).2.2;have e:leN 256=30:=by kernel_rfl
  omega
abbrev RdS:=Nat×Nat×List Int
def A1D(st:RdS)(x:Bool):Option RdS:=
  if st.2.1+1>30 then none else match B2S (2*st.1+x.toNat) (st.2.1+1) with
  | some j=>if j<256 then some (0,0,st.2.2 ++ [(j:Int)]) else some (2*st.1+x.toNat,st.2.1+1,st.2.2)
  | none=>some (2*st.1+x.toNat,st.2.1+1,st.2.2)
def A0N(st:RdS)(x:Bool):Option RdS:=
  match B2S (2*st.1+x.toNat) (st.2.1+1) with
  | some j=>if j=256 then none else if st.2.1+1>30 then none else some (0,0,st.2.2 ++ [(j:Int)])
  | none=>if st.2.1+1>30 then none else some (2*st.1+x.toNat,st.2.1+1,st.2.2)
def A1T(f:RdS->Bool->Option RdS):List Bool->RdS->RdS×Bool
  | [],st=>(st,false)
  | x::xs,st=>match f st x with
    | some st'=>A1T f xs st'
    | none=>(st,true)
theorem D91(f:RdS->Bool->Option RdS):∀ (xs ys:List Bool) (st:RdS),A1T f (xs++ys) st=bif (A1T f xs st).2 then A1T f xs st else A1T f ys (A1T f xs st).1
  | [],ys,st=>by simp [A1T]
  | x::xs,ys,st=>by
    simp only [E2,A1T];cases f st x with
    | none=>rfl
    | some st'=>exact D91 f xs ys st'
def C31(l:List Int):List Nat:=l.map Int.toNat
theorem D2a(n v:Nat)(x:Bool):Q8 (n+1) (2*v+x.toNat)=Q8 n v ++ [x]:=by
  rw [B8T n 1];cases x<;>simp [Q8,Nat.testBit_zero]<;>(try (congr 1;omega))<;>omega
def RdI(done:List Bool)(st:RdS):Prop:=st.1<2 ^ st.2.1/\st.2.1<=30/\Byt st.2.2/\A2C (C31 st.2.2)++Q8 st.2.1 st.1=done
theorem E8G{done:List Bool}{st:RdS}(h:RdI done st)(x:Bool)(h30:st.2.1+1<=30):RdI (done ++ [x]) (2*st.1+x.toNat,st.2.1+1,st.2.2):=by
  obtain ⟨h1,h2,h3,h4⟩:=h;refine ⟨?_,h30,h3,?_⟩
  · simp only [A4g]
    have:x.toNat<=1:=by cases x<;>simp
    omega
  · simp only [D2a]
    rw [<- B3,h4]
theorem F09{done:List Bool}{st:RdS}(h:RdI done st)(x:Bool){j:Nat}(hj:B2S (2*st.1+x.toNat) (st.2.1+1)=some j)(h2:j<256):RdI (done ++ [x]) (0,0,st.2.2 ++ [(j:Int)]):=by
  obtain ⟨h1,h30,h3,h4⟩:=h;obtain ⟨e1,e2,e3⟩:=C0V hj;refine ⟨by simp,by simp,?_,?_⟩
  · intro y hy
    rcases D9.1 hy with q | q
    · exact h3 y q
    · rcases B2.1 q with rfl
      omega
  · simp only [C31,A4p,D0E,Q8,G5]
    rw [show A2C (List.map Int.toNat [(j:Int)])=Q8 (st.2.1+1) (2*st.1+x.toNat) by simp [A2C,cod,e2,e3],D2a,<- B3];exact N1 (· ++ [x]) h4
theorem C7m:∀ (xs done:List Bool) (st:RdS),RdI done st->
    ((A1T A0N xs st).2=false/\A1T A1D xs st=A1T A0N xs st/\RdI (done++xs) (A1T A0N xs st).1)\/
    ((A1T A0N xs st).2=true/\((A1T A1D xs st).2=true\/(A1T A1D xs st).1.2.1>=30)/\(A2C (C31 (A1T A0N xs st).1.2.2)).length+30<=(done++xs).length/\Byt (A1T A0N xs st).1.2.2)
  | [],done,st,h=>.inl ⟨rfl,rfl,by simpa [A1T] using h⟩
  | x::xs,done,st,h=>by
    have hd:done++x::xs=(done ++ [x])++xs:=by simp
    have hlen:(A2C (C31 st.2.2)).length+st.2.1=done.length:=by
      have:=N1 List.length h.2.2.2;rw [B0,A2b] at this;exact this
    have hlost:∀ (ys:List Bool) (s:RdS),s.2.1>=30->(A1T A1D ys s).2=true\/(A1T A1D ys s).1.2.1>=30:=fun ys s hs=>by
      cases ys with
      | nil=>exact .inr hs
      | cons y ys=>
        left;simp only [A1T];have:A1D s y=none:=by unfold A1D;rw [A6 (by omega)]
        rw [this]
    rw [hd];by_cases h30:st.2.1+1>30
    · right
      have e1:A1D st x=none:=by unfold A1D;rw [A6 h30]
      have e2:A0N st x=none:=by
        unfold A0N;cases B2S (2*st.1+x.toNat) (st.2.1+1) with
        | none=>simp only [];rw [A6 h30]
        | some j=>simp only [A6 h30];split<;>rfl
      simp only [A1T,e1,e2];exact ⟨trivial,.inl trivial,by simp only [B0,H0];omega,h.2.2.1⟩
    · cases hj:B2S (2*st.1+x.toNat) (st.2.1+1) with
      | none=>
        have e1:A1D st x=some (2*st.1+x.toNat,st.2.1+1,st.2.2):=by simp only [A1D,A4 h30,hj]
        have e2:A0N st x=some (2*st.1+x.toNat,st.2.1+1,st.2.2):=by simp only [A0N,A4 h30,hj]
        simp only [A1T,e1,e2];exact C7m xs _ _ (E8G h x (by omega))
      | some j=>
        by_cases h256:j<256
        · have e1:A1D st x=some (0,0,st.2.2 ++ [(j:Int)]):=by simp only [A1D,A4 h30,hj,A6 h256]
          have e2:A0N st x=some (0,0,st.2.2 ++ [(j:Int)]):=by simp only [A0N,A4 h30,hj,A4 (show ¬ j=256 by omega)]
          simp only [A1T,e1,e2];exact C7m xs _ _ (F09 h x hj h256)
        · have hj':j=256:=by have:=(C0V hj).1;omega
          subst hj';have e0:=E5E hj;right;have e1:A1D st x=some (2*st.1+x.toNat,st.2.1+1,st.2.2):=by simp only [A1D,A4 h30,hj,A4 h256]
          have e2:A0N st x=none:=by simp only [A0N,hj,M0]
          simp only [A1T,e1,e2];exact ⟨trivial,hlost xs _ (by simp only;omega),by simp only [B0,H0];omega,h.2.2.1⟩
theorem E8H{l:List Int}(hl:Byt l){k:Nat}(hk:k<l.length):bt (strOf l) (k:Int)=l[k]:=by
  have hb:=hl _ (F3 hk);unfold bt strOf strOfNums;simp [List.getD,hk];omega
theorem D2b{l:List Int}(hl:Byt l):∀ k,k<=l.length->D8w (strOf l) k=(C31 l).take k
  | 0,_=>by simp [D8w]
  | k+1,h=>by
    rw [D8w,D2b hl k (by omega),E8H hl (by omega),H5 (show k<(C31 l).length by simp [C31];omega)];simp [C31]
theorem E8I{l:List Int}(hl:Byt l):D8w (strOf l) (strOf l).size=C31 l:=by
  rw [B10,D2b hl _ (C1 _),H4 (by simp [C31])]
def unH(b:List Int):List Int:=(A1T A0N (J4 b) (0,0,[])).1.2.2
def B5G(b:List Int):RdS×Bool:=A1T A1D (J4 b) (0,0,[])
def C4e(b:List Int):Bool:=!(B5G b).2&&decide ((B5G b).1.2.1<=7)&&decide ((B5G b).1.1=2 ^ (B5G b).1.2.1-1)
theorem E3q(b:List Int):Byt (unH b):=by
  rcases C7m (J4 b) [] (0,0,[]) ⟨by simp,by simp,(fun x hx=>by cases hx),by simp [C31,A2C,Q8]⟩ with ⟨_,_,h⟩ | ⟨_,_,_,h⟩
  · exact h.2.2.1
  · exact h
theorem E3r(b:List Int):5*(unH b).length<=8*b.length:=by
  have hs:∀ l:List Int,Byt l->5*l.length<=(A2C (C31 l)).length:=by
    intro l
    induction l with
    | nil=>intro _;simp
    | cons x l ih=>
      intro hb;have h1:=ih fun y hy=>hb y (B6 _ hy)
      have h2:=hb x A9;have h3:=D8u (show x.toNat<257 by omega);simp only [C31,H2,A2C,B76,B0,F0,cod,A2b,leN] at h1 ⊢;omega
  have hb:=E3q b;have h1:=hs _ hb;have h2:=A0h b;rcases C7m (J4 b) [] (0,0,[]) ⟨by simp,by simp,(fun x hx=>by cases hx),by simp [C31,A2C,Q8]⟩ with ⟨_,_,h⟩ | ⟨_,_,h,_⟩
  · have:=N1 List.length h.2.2.2
    rw [B0] at this;simp only [H7] at this;unfold unH at h1 ⊢;omega
  · simp only [H7] at h
    unfold unH at h1 ⊢;omega
theorem E8J(b:List Int)(hb:Byt b):(D0B (strOf (unH b))=b↔C4e b=true)/\(C4e b=true->(B5G b).1.2.2=unH b):=by
  have hu:=E3q b;obtain ⟨c1,p,c2,c3⟩:=D2V (strOf (unH b));rw [E8I hu] at c3;have hl:=A0h b;rcases C7m (J4 b) [] (0,0,[]) ⟨by simp,by simp,(fun x hx=>by cases hx),by simp [C31,A2C,Q8]⟩ with ⟨h1,h2,h3⟩ | ⟨h1,h2,h3,h4⟩
  · obtain ⟨i1,i2,i3,i4⟩:=h3
    simp only [H7] at i4;have e:B5G b=A1T A0N (J4 b) (0,0,[]):=h2;have e2:(B5G b).2=false:=by rw [e];exact h1
    refine ⟨⟨fun hq=>?_,fun hq=>?_⟩,fun _=>by rw [e];rfl⟩
    · rw [hq,<- i4] at c3
      have c4:Q8 _ _=List.replicate p true:=A4B (show A2C (C31 (unH b))++_=A2C (C31 (unH b))++_ from c3);have c5:=N1 List.length c4;rw [A2b,U0] at c5;unfold C4e;rw [e2,e,c5];have c6:Q8 p (A1T A0N (J4 b) (0,0,[])).1.1=Q8 p (2 ^ p-1):=by
        rw [C0U p p (C1 _),<- c4,c5]
      have c7:=C95 p _ _ (by rw [<- c5];exact i1) (by have:=A13 p;omega) c6;simp only [J1,K2,B5,I4];exact ⟨by omega,c7⟩
    · unfold C4e at hq
      rw [e2,e] at hq;simp only [J1,K2,B5,I4] at hq;obtain ⟨q1,q2⟩:=hq;refine C7i c1 hb ?_;rw [c3,<- i4];have hn:(A1T A0N (J4 b) (0,0,[])).1.2.1=p:=by
        have d1:=N1 List.length c3;have d2:=N1 List.length i4;rw [A0h,B0,U0] at d1;rw [B0,A2b,hl] at d2;unfold unH at d1;omega
      rw [q2,hn,C0U p p (C1 _)];rfl
  · have hno:C4e b=false:=by
      unfold C4e;rcases h2 with h2 | h2
      · rw [show (B5G b).2=true from h2];rfl
      · rw [show decide ((B5G b).1.2.1<=7)=false from A1 (by have:(B5G b).1.2.1>=30:=h2;omega)];simp
    refine ⟨⟨fun hq=>?_,fun hq=>by rw [hno] at hq;cases hq⟩,fun hq=>by rw [hno] at hq;cases hq⟩;exfalso;have d1:=N1 List.length c3;rw [hq,hl,B0,U0] at d1;simp only [H7] at h3;unfold unH at d1;omega
set_option maxRecDepth 100000
def F0U:List ((Int×Int)×Int):=(List.range 257).map fun k=>((codesT.getD k 0,lensT.getD k 0),(k:Int))
theorem E5F:mkM (codesT.zip lensT) 257=F0U:=by kernel_rfl
theorem D5S(c n:Int):∀ (k i j:Nat),fdM ((List.range' i k).map fun q=>((codesT.getD q 0,lensT.getD q 0),(q:Int))) (c,n) j=(fdC k i c n).map fun (q:Nat)=>(j+(q-i),(q:Int))
  | 0,i,j=>rfl
  | k+1,i,j=>by
    rw [B8o,H2,fdM,fdC];by_cases h:codesT.getD i 0=c/\lensT.getD i 0=n
    · rw [A6 ⟨h.1.symm,h.2.symm⟩,A6 h]
      simp
    · rw [A4 (fun e=>h ⟨e.1.symm,e.2.symm⟩),A4 h,D5S c n k (i+1) (j+1)]
      cases hq:fdC k (i+1) c n with
      | none=>rfl
      | some q=>
        have:=(D2W k (i+1) c n q hq).1;simp only [Q1,F9,A5C,and_true];omega
theorem D5T(c n:Nat):fdM (mkM (codesT.zip lensT) 257) ((c:Int),(n:Int)) 0=(B2S c n).map fun (q:Nat)=>(q,(q:Int)):=by
  rw [E5F,F0U,B2j,D5S];unfold B2S;cases fdC 257 0 (c:Int) (n:Int)<;>simp
theorem E5G(c n:Nat):lkO (mkM (codesT.zip lensT) 257) ((c:Int),(n:Int))=(B2S c n).isSome:=by
  unfold lkO;rw [D5T];cases B2S c n<;>rfl
theorem E5H{c n j:Nat}(h:B2S c n=some j):lkV (mkM (codesT.zip lensT) 257) ((c:Int),(n:Int))=(j:Int):=by
  unfold lkV;rw [D5T,h];rfl
theorem E8K{x:Nat}(h:x<9223372036854775808):W9 .i64 (x:Int) 1=(((x.testBit 0).toNat:Nat):Int):=by
  rw [show (1:Int)=((1:Nat):Int) from rfl,C7j h (by omega)]
  congr 1
  rw [Nat.and_one_is_mod,Nat.testBit_zero];rcases Nat.mod_two_eq_zero_or_one x with e | e<;>simp [e]
theorem E8L{x k:Nat}(h:x<256):((x:Int).fdiv (2 ^ k))=((x / 2 ^ k:Nat):Int):=by
  rw [B5f _ (by rw [C7k];exact Int.natCast_nonneg _),C7k,<- B8t]
theorem E8M{x k:Nat}(h:x<256)(hk:k<8):W9 .i64 (((x:Int).fdiv (2 ^ (min (u64.wrap (k:Int)).toNat i64.bits)))) 1=(((x.testBit k).toNat:Nat):Int):=by
  rw [D6l (by omega),E8L h,E8K (C6p (Nat.div_le_self _ _) (by omega)),B8u,E8]
theorem E8N{v n:Nat}(hv:v<2 ^ n)(hn:n<=30)(x:Bool):bOr .i64 (i64.wrap ((v:Int)*2)) ((x.toNat:Nat):Int)=((2*v+x.toNat:Nat):Int):=by
  have h1:=p62 (show n<=62 by omega);have h2:2 ^ n<=2 ^ 30:=D2U hn;have h3:(2:Nat) ^ 30=1073741824:=by decide
  have h4:x.toNat<2 ^ 1:=by cases x<;>simp
  rw [show (v:Int)*2=((v*2:Nat):Int) by omega,w64 (by omega) (by omega),D6k (by omega) (by cases x<;>simp),A0I v]
  congr 1
  have:=A5e h4 v;simpa using this.symm
def RdG(st:RdS):Prop:=st.1<2 ^ st.2.1/\st.2.1<=30
theorem D2c{st st':RdS}{x:Bool}(h:RdG st)(e:A0N st x=some st'):RdG st'/\st'.2.2.length<=st.2.2.length+1:=by
  unfold A0N at e;have hx:x.toNat<=1:=by cases x<;>simp
  have hp:2*st.1+x.toNat<2 ^ (st.2.1+1):=by have:=h.1;rw [A4g];omega
  cases hj:B2S (2*st.1+x.toNat) (st.2.1+1) with
  | none=>
    rw [hj] at e;by_cases h30:st.2.1+1>30
    · simp only [A6 h30] at e;cases e
    · simp only [A4 h30,F9] at e
      subst e;exact ⟨⟨hp,by simp only;omega⟩,by simp⟩
  | some j=>
    rw [hj] at e;by_cases h256:j=256
    · simp only [A6 h256] at e;cases e
    · by_cases h30:st.2.1+1>30
      · simp only [A4 h256,A6 h30] at e;cases e
      · simp only [A4 h256,A4 h30,F9] at e
        subst e;exact ⟨⟨by simp,by simp⟩,by simp⟩
theorem C96(a:List Int)(j:Nat)(x:Nat)(hx:x<256)(hj:rd (.int .u8) a (j:Int)=(x:Int))(q1 q2:Int)(q3:List Int):∀ (k:Nat) (st:RdS),k<=8->RdG st->st.2.2.length+k<=1000000000000->j<1000000000000->
    F4 (B3e (codesT.zip lensT) a ((j:Int),q1,q2,q3,())) ((k:Int)-1,(st.1:Int),(st.2.1:Int),st.2.2,()) =
      (if (A1T A0N (Q8 k x) st).2 then some (.inr (.inr (strOf (A1T A0N (Q8 k x) st).1.2.2,()))) else some (.inl (((j+1:Nat):Int),((A1T A0N (Q8 k x) st).1.1:Int),((A1T A0N (Q8 k x) st).1.2.1:Int),(A1T A0N (Q8 k x) st).1.2.2,())))
  | 0,st,_,_,_,hj2=>by
    rw [G8];have h:¬ ((0:Nat):Int)-1>=0:=by omega
    simp only [B3e,A1 h,A3,Q8,A1T];rw [w64 (n:=(j:Int)+1) (by omega) (by omega),show (j:Int)+1=((j+1:Nat):Int) by omega];rfl
  | k+1,st,h8,hg,hl,hj2=>by
    rw [G8];have e0:((k+1:Nat):Int)-1=(k:Int):=by omega
    have h0:(k:Int)>=0:=by omega
    have e1:i64.wrap (x:Int)=(x:Int):=w64 (by omega) (by omega);have e2:=E8M hx (show k<8 by omega);have e3:=E8N hg.1 hg.2 (x.testBit k);have e4:i64.wrap ((st.2.1:Int)+1)=((st.2.1+1:Nat):Int):=by have:=hg.2;rw [w64 (by omega) (by omega)];omega
    have e5:i64.wrap ((k:Int)-1)=(k:Int)-1:=w64 (by omega) (by omega);rw [e0];simp only [B3e,A0 h0,A8,A1 (u64_nonneg _),A3,hj,e1,e2,e3,e4,e5,E5G];simp only [Q8,A1T];cases hs:B2S (2*st.1+(x.testBit k).toNat) (st.2.1+1) with
    | none=>
      simp only [Option.isSome_none,A3];by_cases h30:st.2.1+1>30
      · have d1:((st.2.1+1:Nat):Int)>30:=by omega
        have e6:A0N st (x.testBit k)=none:=by unfold A0N;rw [hs];simp only [A6 h30]
        rw [e6];simp only [A0 d1,A8,I2,M0]
      · have d1:¬ ((st.2.1+1:Nat):Int)>30:=by omega
        have e6:A0N st (x.testBit k)=some (2*st.1+(x.testBit k).toNat,st.2.1+1,st.2.2):=by unfold A0N;rw [hs];simp only [A4 h30]
        have hg2:=D2c hg e6;rw [e6];simp only [A1 d1,A3,I2];exact C96 a j x hx hj q1 q2 q3 k _ (by omega) hg2.1 (by simp only;omega) hj2
    | some s=>
      have e7:=E5H hs;have hlt:=(C0V hs).1;simp only [Option.isSome_some,A8,e7];by_cases h256:s=256
      · have d1:(s:Int)=256:=by omega
        have e6:A0N st (x.testBit k)=none:=by unfold A0N;rw [hs];simp only [A6 h256]
        rw [e6];simp only [A0 d1,A8,I2,M0]
      · have d1:¬ (s:Int)=256:=by omega
        by_cases h30:st.2.1+1>30
        · have d2:((st.2.1+1:Nat):Int)>30:=by omega
          have e6:A0N st (x.testBit k)=none:=by unfold A0N;rw [hs];simp only [A4 h256,A6 h30]
          rw [e6];simp only [A1 d1,A0 d2,A8,A3,I2,M0]
        · have d2:¬ ((st.2.1+1:Nat):Int)>30:=by omega
          have e6:A0N st (x.testBit k)=some (0,0,st.2.2 ++ [(s:Int)]):=by unfold A0N;rw [hs];simp only [A4 h256,A4 h30]
          have hg2:=D2c hg e6;rw [e6];simp only [A1 d1,A1 d2,A3,I2,D0F (show s<256 by omega)];rw [gA (by simp;omega)];exact C96 a j x hx hj q1 q2 q3 k _ (by omega) hg2.1 (by simp only [B0,H0];omega) hj2
theorem D2d(f:RdS->Bool->Option RdS)(hf:∀ st x st',RdG st->f st x=some st'->RdG st'/\st'.2.2.length<=st.2.2.length+1):∀ (xs:List Bool) (st:RdS),RdG st->RdG (A1T f xs st).1/\(A1T f xs st).1.2.2.length<=st.2.2.length+xs.length
  | [],st,h=>⟨h,by simp [A1T]⟩
  | x::xs,st,h=>by
    simp only [A1T];cases e:f st x with
    | none=>exact ⟨h,by simp only [F0];omega⟩
    | some st'=>
      have h1:=hf _ _ _ h e;have h2:=D2d f hf xs st' h1.1;exact ⟨h2.1,by simp only [F0];omega⟩
theorem D2e(a:List Int)(ha:Byt a)(hl:a.length<=1000000000):∀ (k j:Nat) (st:RdS),j+k=a.length->RdG st->st.2.2.length+8*k<=100000000000->
    F4 (A9M a (codesT.zip lensT)) ((j:Int),(st.1:Int),(st.2.1:Int),st.2.2,()) =
      (if (A1T A0N (J4 (a.drop j)) st).2 then some (.inr (strOf (A1T A0N (J4 (a.drop j)) st).1.2.2,())) else some (.inl ((A1T A0N (J4 (a.drop j)) st).1.2.2,())))
  | 0,j,st,hj,hg,hlen=>by
    rw [G8];have h:¬ (j:Int)<(a.length:Int):=by omega
    simp only [A9M,A1 h,A3];rw [A0q (by omega)];rfl
  | k+1,j,st,hj,hg,hlen=>by
    rw [G8];have h:(j:Int)<(a.length:Int):=by omega
    have h0:(0:Int)<=(j:Int):=by omega
    have hx:=ha _ (F3 (show j<a.length by omega));have hr:rd (.int .u8) a (j:Int)=((a[j].toNat:Nat):Int):=by rw [C2u (show j<a.length by omega)];exact (A0v hx.1).symm
    simp only [A9M,A0 h,A0 h0,A8];have e:=C96 a j a[j].toNat (by omega) hr (st.1:Int) (st.2.1:Int) st.2.2 8 st (by omega) hg (by omega) (by omega);rw [show ((8:Nat):Int)-1=7 from rfl] at e;rw [e];have hd:J4 (a.drop j)=Q8 8 a[j].toNat++J4 (a.drop (j+1)):=by rw [I5 (show j<a.length by omega),A56]
    rw [hd,D91];have hg2:=D2d A0N (fun st x st' h e=>D2c h e) (Q8 8 a[j].toNat) st hg;rw [A2b] at hg2;cases hs:(A1T A0N (Q8 8 a[j].toNat) st).2 with
    | true=>simp only [M0,hs,A8]
    | false=>
      simp only [J7,L5,A3];exact D2e a ha hl k (j+1) _ (by omega) hg2.1 (by omega)
theorem D92(a:List Int)(ha:Byt a)(hl:a.length<=1000000000):B9p (codesT.zip lensT) a=some (strOf (unH a),()):=by
  have h257:(codesT.zip lensT).length=257:=by rw [A87,A8J,A0t];rfl
  simp only [B9p,C5n,A0 h257,A8];have e:=D2e a ha hl a.length 0 (0,0,[]) (by omega) ⟨by simp,by simp⟩ (by simp;omega);have e':F4 (A9M a (codesT.zip lensT)) (0,0,0,[],())=_:=e;rw [e',Q4];cases hs:(A1T A0N (J4 a) (0,0,[])).2 with
  | true=>simp only [M0,I2];rfl
  | false=>simp only [J7,L5,I2];rfl
theorem E5I{a b:List Int}(ha:Byt a)(hb:Byt b):((strOf a).toList == (strOf b).toList)=decide (a=b):=by
  by_cases h:a=b
  · subst h;simp
  · rw [A1 h]
    cases hq:((strOf a).toList == (strOf b).toList) with
    | false=>rfl
    | true=>exact absurd (E53 ha hb (by simpa using hq)) h
def A4U(a:List Int):X0×Bool×Unit:=if C4e a=true then (strOf (unH a),true,()) else (⟨#[]⟩,false,())
theorem D93(a:List Int)(ha:Byt a)(hl:a.length<=500000000):B9r a=some (A4U a):=by
  have hz:(strOf (unH a)).size<=1000000000000:=by rw [B10];have:=E3r a;omega
  have hu:=E3r a;simp only [B9r,C5o,D6e,D92 a ha (by omega),bO];rw [E5A _ [] (by simp) (by rw [B10];omega)];simp only [bO,H7,B7P,B7O];rw [E5I (D2V _).1 ha];have h:=(E8J a ha).1;unfold A4U;by_cases hq:C4e a=true
  · rw [A6 hq,A0 (h.2 hq)];rfl
  · rw [A4 hq,A1 (fun e=>hq (h.1 e))];rfl
set_option maxRecDepth 100000
def byN(b:List Int)(p:Nat):Nat:=(b.getD p 0).toNat
def gpN(b:List Int)(p n i:Nat):Nat:=n+byN b p % 128*2 ^ (7*i)
def gpL(b:List Int):Nat->Nat->Nat->Nat->Int×Int×Bool×Unit
  | 0,_,_,_=>(0,0,false,())
  | k+1,p,n,i=>if p<b.length then (if byN b p<128 then (if gpN b p n i>16777216 then (0,0,false,()) else ((gpN b p n i:Int),((p+1:Nat):Int),true,())) else gpL b k (p+1) (gpN b p n i) (i+1)) else (0,0,false,())
def C7(b:List Int)(p m:Nat):Int×Int×Bool×Unit:=
  if p<b.length then (if byN b p % 2 ^ m<2 ^ m-1 then (((byN b p % 2 ^ m:Nat):Int),((p+1:Nat):Int),true,()) else gpL b 4 (p+1) (byN b p % 2 ^ m) 0) else (0,0,false,())
theorem B2t{b:List Int}(hb:Byt b){p:Nat}(h:p<b.length):rd (.int .u8) b (p:Int)=(byN b p:Int)/\byN b p<256:=by
  have h1:=D2M hb p;have e:rd (.int .u8) b (p:Int)=b.getD p 0:=by simp [rd,zd]
  refine ⟨e.trans (show b.getD p 0=(((b.getD p 0).toNat:Nat):Int) by omega),?_⟩;unfold byN;omega
theorem E3s(b:List Int):∀ k p n i,(gpL b k p n i).2.2.1=true->0<=(gpL b k p n i).1/\(gpL b k p n i).1<=16777216/\(p:Int)<(gpL b k p n i).2.1/\(gpL b k p n i).2.1<=b.length
  | 0,_,_,_,h=>by cases h
  | k+1,p,n,i,h=>by
    unfold gpL at h ⊢;by_cases h1:p<b.length
    · rw [A6 h1] at h ⊢
      by_cases h2:byN b p<128
      · rw [A6 h2] at h ⊢
        by_cases h3:gpN b p n i>16777216
        · rw [A6 h3] at h;cases h
        · rw [A4 h3]
          simp only [];omega
      · rw [A4 h2] at h ⊢
        have:=E3s b k _ _ _ h;omega
    · rw [A4 h1] at h;cases h
theorem A1s(b:List Int)(p m:Nat)(hm:m<=8)(h:(C7 b p m).2.2.1=true):0<=(C7 b p m).1/\(C7 b p m).1<=16777216/\(p:Int)<(C7 b p m).2.1/\(C7 b p m).2.1<=b.length:=by
  unfold C7 at h ⊢;by_cases h1:p<b.length
  · rw [A6 h1] at h ⊢
    by_cases h2:byN b p % 2 ^ m<2 ^ m-1
    · rw [A6 h2]
      have:2 ^ m<=2 ^ 8:=D2U hm;simp only [];omega
    · rw [A4 h2] at h ⊢
      have:=E3s b _ _ _ _ h;omega
  · rw [A4 h1] at h;cases h
theorem D6n{x m:Nat}(hx:x<256)(hm:m<=8):W9 .i64 (x:Int) ((2 ^ m-1:Nat):Int)=((x % 2 ^ m:Nat):Int):=by
  have:2 ^ m<=2 ^ 8:=D2U hm;rw [C7j (by omega) (by omega),A4C]
theorem F0V{x:Nat}(hx:x<256):W9 .i64 (x:Int) 127=((x % 128:Nat):Int):=D6n (m:=7) hx (by omega)
theorem E8O{b:List Int}{p n i:Nat}(hi:i<4)(hn:n<=255+128 ^ i):gpN b p n i<=255+128 ^ (i+1)/\byN b p % 128*2 ^ (7*i)<=268435456:=by
  have e:2 ^ (7*i)=128 ^ i:=by rw [Nat.pow_mul]
  have h1:byN b p % 128<128:=A4e _ (by omega);have h2:byN b p % 128*128 ^ i<=127*128 ^ i:=H3 _ (by omega);have h3:128 ^ (i+1)=128 ^ i*128:=A4g ..;have h4:128 ^ i<=128 ^ 3:=A0S (by omega) (by omega);unfold gpN;rw [e];omega
theorem F0W{b:List Int}(hb:Byt b)(hl:b.length<=500000000):∀ (k p n i:Nat),k+i=4->n<=255+128 ^ i->p<=2000000000->
    (I2 (F4 (A4i b) ((p:Int),(n:Int),(i:Int),())) fun (m3:Unit)=>some (0,0,false,()))=some (gpL b k p n i)
  | 0,p,n,i,hk,hn,hp=>by
    have h:¬ (i:Int)<4:=by omega
    rw [G8];simp only [A4i,A1 h,A3,I2,gpL]
  | k+1,p,n,i,hk,hn,hp=>by
    have h:(i:Int)<4:=by omega
    rw [G8];by_cases h1:p<b.length
    · have d1:(p:Int)<(b.length:Int):=by omega
      have d2:(0:Int)<=(p:Int):=by omega
      obtain ⟨e1,e2⟩:=B2t hb h1;have hg:=E8O (b:=b) (p:=p) (show i<4 by omega) hn;have h5:128 ^ (i+1)<=128 ^ 4:=A0S (by omega) (by omega);have e3:i64.wrap (byN b p:Int)=(byN b p:Int):=w64 (by omega) (by omega);have e4:i64.wrap (7*(i:Int))=((7*i:Nat):Int):=by rw [w64 (by omega) (by omega)];omega
      have e5:=D8v (v:=byN b p % 128) (m:=7*i) (by omega) (by omega);have e6:i64.wrap ((n:Int)+((byN b p % 128*2 ^ (7*i):Nat):Int))=(gpN b p n i:Int):=by
        have e0:(n:Int)+((byN b p % 128*2 ^ (7*i):Nat):Int)=((gpN b p n i:Nat):Int):=by unfold gpN;omega
        rw [e0];exact D8W (by omega)
      have e7:i64.wrap ((p:Int)+1)=((p+1:Nat):Int):=by rw [w64 (by omega) (by omega)];omega
      have e8:i64.wrap ((i:Int)+1)=((i+1:Nat):Int):=by rw [w64 (by omega) (by omega)];omega
      simp only [A4i,A0 h,A0 d1,A0 d2,A8,bSl,A1 (u64_nonneg _),A3,e1,e3,F0V e2,e4,e5,e6,e7,e8,gpL,A6 h1];by_cases h2:byN b p<128
      · rw [A0 (show (byN b p:Int)<128 by omega),A6 h2]
        by_cases h3:gpN b p n i>16777216
        · rw [A0 (show (gpN b p n i:Int)>16777216 by omega),A6 h3];rfl
        · rw [A1 (show ¬ (gpN b p n i:Int)>16777216 by omega),A4 h3];rfl
      · rw [A1 (show ¬ (byN b p:Int)<128 by omega),A4 h2]
        exact F0W hb hl k (p+1) _ (i+1) (by omega) hg.1 (by omega)
    · have d1:¬ (p:Int)<(b.length:Int):=by omega
      simp only [A4i,A0 h,A1 d1,A8,A3,I2,gpL,A4 h1]
theorem F0a{b:List Int}(hb:Byt b)(hl:b.length<=500000000)(a:Nat)(ha:a<=1000000000):∀ (k n i:Nat),k+i=4->n<=255+128 ^ i->
    (I2 (F4 (A4j (a:Int) b) ((n:Int),(i:Int),())) fun (m3:Unit)=>some (0,0,false,()))=some (gpL b k (a+1+i) n i)
  | 0,n,i,hk,hn=>by
    have h:¬ (i:Int)<4:=by omega
    rw [G8];simp only [A4j,A1 h,A3,I2,gpL]
  | k+1,n,i,hk,hn=>by
    have h:(i:Int)<4:=by omega
    have e0:i64.wrap (i64.wrap ((a:Int)+1)+(i:Int))=((a+1+i:Nat):Int):=by rw [w64 (n:=(a:Int)+1) (by omega) (by omega),w64 (by omega) (by omega)];omega
    have e0':i64.wrap (i64.wrap ((a:Int)+2)+(i:Int))=((a+1+i+1:Nat):Int):=by rw [w64 (n:=(a:Int)+2) (by omega) (by omega),w64 (by omega) (by omega)];omega
    rw [G8];by_cases h1:a+1+i<b.length
    · have d1:((a+1+i:Nat):Int)<(b.length:Int):=by omega
      have d2:(0:Int)<=((a+1+i:Nat):Int):=by omega
      obtain ⟨e1,e2⟩:=B2t hb h1;have hg:=E8O (b:=b) (p:=a+1+i) (show i<4 by omega) hn;have h5:128 ^ (i+1)<=128 ^ 4:=A0S (by omega) (by omega);have e3:i64.wrap (byN b (a+1+i):Int)=(byN b (a+1+i):Int):=w64 (by omega) (by omega);have e4:i64.wrap (7*(i:Int))=((7*i:Nat):Int):=by rw [w64 (by omega) (by omega)];omega
      have e5:=D8v (v:=byN b (a+1+i) % 128) (m:=7*i) (by omega) (by omega);have e6:i64.wrap ((n:Int)+((byN b (a+1+i) % 128*2 ^ (7*i):Nat):Int))=(gpN b (a+1+i) n i:Int):=by
        have e0:(n:Int)+((byN b (a+1+i) % 128*2 ^ (7*i):Nat):Int)=((gpN b (a+1+i) n i:Nat):Int):=by unfold gpN;omega
        rw [e0];exact D8W (by omega)
      have e8:i64.wrap ((i:Int)+1)=((i+1:Nat):Int):=by rw [w64 (by omega) (by omega)];omega
      simp only [A4j,e0,e0',A0 h,A0 d1,A0 d2,A8,bSl,A1 (u64_nonneg _),A3,e1,e3,F0V e2,e4,e5,e6,e8,gpL,A6 h1];by_cases h2:byN b (a+1+i)<128
      · rw [A0 (show (byN b (a+1+i):Int)<128 by omega),A6 h2]
        by_cases h3:gpN b (a+1+i) n i>16777216
        · rw [A0 (show (gpN b (a+1+i) n i:Int)>16777216 by omega),A6 h3];rfl
        · rw [A1 (show ¬ (gpN b (a+1+i) n i:Int)>16777216 by omega),A4 h3];rfl
      · rw [A1 (show ¬ (byN b (a+1+i):Int)<128 by omega),A4 h2]
        exact F0a hb hl a ha k _ (i+1) (by omega) hg.1
    · have d1:¬ ((a+1+i:Nat):Int)<(b.length:Int):=by omega
      simp only [A4j,e0,A0 h,A1 d1,A8,A3,I2,gpL,A4 h1]
theorem C32{b:List Int}(hb:Byt b)(hl:b.length<=500000000)(p m:Nat)(hp:p<=1000000000)(hm:1<=m/\m<=8):A7N b (p:Int) (m:Int)=some (C7 b p m):=by
  have d1:decide ((1:Int)<=(m:Int)/\(m:Int)<=8)=true:=A0 (by omega);have e1:i64.wrap ((b.length:Int)-1)=(b.length:Int)-1:=w64 (by omega) (by omega);simp only [A7N,B7N,R5,bO,d1,C3,A3,e1];unfold C7;by_cases h1:p<b.length
  · have d2:decide ((0:Int)<=(p:Int)/\(p:Int)<=(b.length:Int)-1)=true:=A0 (by omega)
    have d3:(p:Int)<(b.length:Int):=by omega
    obtain ⟨q1,q2⟩:=B2t hb h1;have e2:=C7l (m:=m) (by omega);have e3:i64.wrap (byN b p:Int)=(byN b p:Int):=w64 (by omega) (by omega);have e7:i64.wrap ((p:Int)+1)=((p+1:Nat):Int):=by rw [w64 (by omega) (by omega)];omega
    have h8:byN b p % 2 ^ m<=255:=by have:=Nat.mod_le (byN b p) (2 ^ m);omega
    simp only [d2,C3,A3,bSl,A1 (u64_nonneg _),A0 (show (0:Int)<=(p:Int) by omega),A0 d3,A8,q1,e2,e3,e7,D6n q2 hm.2,A6 h1];by_cases h2:byN b p % 2 ^ m<2 ^ m-1
    · rw [A0 (show ((byN b p % 2 ^ m:Nat):Int)<((2 ^ m-1:Nat):Int) by omega),A6 h2];rfl
    · rw [A1 (show ¬ ((byN b p % 2 ^ m:Nat):Int)<((2 ^ m-1:Nat):Int) by omega),A4 h2]
      exact F0W hb hl 4 (p+1) _ 0 (by omega) (by omega) (by omega)
  · have d2:decide ((0:Int)<=(p:Int)/\(p:Int)<=(b.length:Int)-1)=false:=A1 (by omega)
    simp only [d2,J1,A8,bSr,A4 h1]
theorem A9q{b:List Int}(hb:Byt b)(hl:b.length<=500000000)(p m:Nat)(hp:p<=1000000000)(hm:1<=m/\m<=8):A3c b (p:Int) (m:Int)=some (C7 b p m):=by
  have d1:decide ((1:Int)<=(m:Int)/\(m:Int)<=8)=true:=A0 (by omega);have e1:i64.wrap ((b.length:Int)-1)=(b.length:Int)-1:=w64 (by omega) (by omega);simp only [A3c,B7a,A1A,bO,d1,C3,A3,e1];unfold C7;by_cases h1:p<b.length
  · have d2:decide ((0:Int)<=(p:Int)/\(p:Int)<=(b.length:Int)-1)=true:=A0 (by omega)
    have d3:(p:Int)<(b.length:Int):=by omega
    obtain ⟨q1,q2⟩:=B2t hb h1;have e2:=C7l (m:=m) (by omega);have e3:i64.wrap (byN b p:Int)=(byN b p:Int):=w64 (by omega) (by omega);have e7:i64.wrap ((p:Int)+1)=((p+1:Nat):Int):=by rw [w64 (by omega) (by omega)];omega
    have h8:byN b p % 2 ^ m<=255:=by have:=Nat.mod_le (byN b p) (2 ^ m);omega
    simp only [d2,C3,A3,bSl,A1 (u64_nonneg _),A0 (show (0:Int)<=(p:Int) by omega),A0 d3,A8,q1,e2,e3,e7,D6n q2 hm.2,A6 h1];by_cases h2:byN b p % 2 ^ m<2 ^ m-1
    · rw [A0 (show ((byN b p % 2 ^ m:Nat):Int)<((2 ^ m-1:Nat):Int) by omega),A6 h2];rfl
    · rw [A1 (show ¬ ((byN b p % 2 ^ m:Nat):Int)<((2 ^ m-1:Nat):Int) by omega),A4 h2]
      exact F0a hb hl p hp 4 _ 0 (by omega) (by omega)
  · have d2:decide ((0:Int)<=(p:Int)/\(p:Int)<=(b.length:Int)-1)=false:=A1 (by omega)
    simp only [d2,J1,A8,bSr,A4 h1]
def B0U(b:List Int)(p n:Nat):List Int:=(b.take (p+n)).drop p
def M9(b:List Int)(p:Nat):X0×Int×Bool×Unit:=
  if (C7 b p 7).2.2.1=false then (⟨#[]⟩,0,false,()) else if (C7 b p 7).1>4000 then (⟨#[]⟩,0,false,()) else if (C7 b p 7).1>(b.length:Int)-(C7 b p 7).2.1 then (⟨#[]⟩,0,false,())
  else if byN b p<128 then (strOf (B0U b (C7 b p 7).2.1.toNat (C7 b p 7).1.toNat),(C7 b p 7).2.1+(C7 b p 7).1,true,())
  else if (A4U (B0U b (C7 b p 7).2.1.toNat (C7 b p 7).1.toNat)).2.1=false then (⟨#[]⟩,0,false,())
  else if (((A4U (B0U b (C7 b p 7).2.1.toNat (C7 b p 7).1.toNat)).1.size:Int)>4000) then (⟨#[]⟩,0,false,())
  else ((A4U (B0U b (C7 b p 7).2.1.toNat (C7 b p 7).1.toNat)).1,(C7 b p 7).2.1+(C7 b p 7).1,true,())
theorem D5U{b:List Int}(hb:Byt b)(p n:Nat):Byt (B0U b p n):=C2w (D2L hb _) _
theorem D5V(b:List Int)(p n:Nat):(B0U b p n).length<=b.length:=by simp [B0U];omega
theorem A6j{b:List Int}(p:Nat)(h:(M9 b p).2.2.1=true):(M9 b p).1.size<=4000/\(p:Int)<(M9 b p).2.1/\(M9 b p).2.1<=b.length:=by
  unfold M9 at h ⊢;by_cases h1:(C7 b p 7).2.2.1=false
  · rw [A6 h1] at h;cases h
  have hr:=A1s b p 7 (by omega) (by simpa using h1);rw [A4 h1] at h ⊢;by_cases h2:(C7 b p 7).1>4000
  · rw [A6 h2] at h;cases h
  rw [A4 h2] at h ⊢;by_cases h3:(C7 b p 7).1>(b.length:Int)-(C7 b p 7).2.1
  · rw [A6 h3] at h;cases h
  rw [A4 h3] at h ⊢;by_cases h4:byN b p<128
  · rw [A6 h4]
    refine ⟨?_,by simp only;omega,by simp only;omega⟩;rw [B10];simp only [B0U,C9,B4];omega
  rw [A4 h4] at h ⊢;by_cases h5:(A4U (B0U b (C7 b p 7).2.1.toNat (C7 b p 7).1.toNat)).2.1=false
  · rw [A6 h5] at h;cases h
  rw [A4 h5] at h ⊢;by_cases h6:(((A4U (B0U b (C7 b p 7).2.1.toNat (C7 b p 7).1.toNat)).1.size:Int)>4000)
  · rw [A6 h6] at h;cases h
  rw [A4 h6];refine ⟨by simp only;omega,by simp only;omega,by simp only;omega⟩
theorem C33{b:List Int}(hb:Byt b)(hl:b.length<=500000000)(p:Nat)(hp:p<=1000000000):B1R b (p:Int)=some (M9 b p):=by
  have e0:=C32 hb hl p 7 hp (by omega);rw [show ((7:Nat):Int)=7 from rfl] at e0;simp only [B1R,B7Q,e0,bO];unfold M9;by_cases h1:(C7 b p 7).2.2.1=false
  · rw [A6 h1,h1];rfl
  have h1':(C7 b p 7).2.2.1=true:=by simpa using h1
  obtain ⟨r1,r2,r3,r4⟩:=A1s b p 7 (by omega) h1';rw [A4 h1,h1',w64 (n:=(b.length:Int)-(C7 b p 7).2.1) (by omega) (by omega),w64 (n:=(C7 b p 7).2.1+(C7 b p 7).1) (by omega) (by omega)];simp only [C3,A3];by_cases h2:(C7 b p 7).1>4000
  · rw [A6 h2,A0 h2];rfl
  rw [A4 h2,A1 h2];by_cases h3:(C7 b p 7).1>(b.length:Int)-(C7 b p 7).2.1
  · rw [A6 h3,A0 h3];rfl
  obtain ⟨q1,q2⟩:=B2t hb (show p<b.length by omega);have e3:((C7 b p 7).2.1+(C7 b p 7).1).toNat=(C7 b p 7).2.1.toNat+(C7 b p 7).1.toNat:=by omega
  rw [A4 h3,A1 h3];simp only [A3,bSl];rw [A0 (show (0:Int)<=(C7 b p 7).2.1 by omega),A0 (show (C7 b p 7).2.1<=(C7 b p 7).2.1+(C7 b p 7).1 by omega),A0 (show (C7 b p 7).2.1+(C7 b p 7).1<=(b.length:Int) by omega),A0 (show (0:Int)<=(p:Int) by omega),A0 (show (p:Int)<(b.length:Int) by omega),q1,e3];simp only [A8];rw [show ((b.take ((C7 b p 7).2.1.toNat+(C7 b p 7).1.toNat)).drop (C7 b p 7).2.1.toNat)=B0U b (C7 b p 7).2.1.toNat (C7 b p 7).1.toNat from rfl,D93 _ (D5U hb _ _) (A4b (D5V _ _ _) hl)];simp only [bO];by_cases h4:byN b p<128
  · rw [A6 h4,A0 (show (byN b p:Int)<128 by omega)];rfl
  rw [A4 h4,A1 (show ¬ (byN b p:Int)<128 by omega)];simp only [A3];by_cases h5:(A4U (B0U b (C7 b p 7).2.1.toNat (C7 b p 7).1.toNat)).2.1=false
  · rw [A6 h5,h5];rfl
  rw [A4 h5,show (A4U (B0U b (C7 b p 7).2.1.toNat (C7 b p 7).1.toNat)).2.1=true by simpa using h5];by_cases h6:(((A4U (B0U b (C7 b p 7).2.1.toNat (C7 b p 7).1.toNat)).1.size:Int)>4000)
  · rw [A6 h6,A0 h6];rfl
  · rw [A4 h6,A1 h6];rfl
set_option maxRecDepth 100000
abbrev noF:B1:=(⟨#[]⟩,⟨#[]⟩)
noncomputable def A1U(t:D6)(i:Int):B1×Bool×Unit:=
  if i<=61 then (if 1<=i then (rd B8 firstT (i-1),true,()) else (noF,false,())) else if i-61>(t.2.length:Int) then (noF,false,()) else (rd B8 t.2 (i-62),true,())
theorem E3t:∀ {fs:List B1} {f:B1},f∈fs->ofF f<=szT fs
  | [],_,h=>by cases h
  | x::fs,f,h=>by
    have h2:=A5T fs;have h3:=C0T x;simp only [szT];rcases C6.1 h with rfl | h
    · omega
    · have:=E3t h;omega
theorem E8P(xs:List B1)(i:Int):rd B8 xs i∈xs\/rd B8 xs i=noF:=by
  unfold rd;rw [E3];by_cases h:i.toNat<xs.length
  · rw [C8 h];exact .inl (F3 h)
  · rw [C21 (by omega)];exact .inr rfl
theorem D94{t:D6}(ht:A1S t)(i:Int):(A1U t i).1.1.size<=10000/\(A1U t i).1.2.size<=10000:=by
  unfold A1U;have h0:noF.1.size<=10000/\noF.2.size<=10000:=⟨by decide,by decide⟩;split
  · split
    · rcases E8P firstT (i-1) with h | h
      · have:=D4 (C4.1 E5B _ h)
        simp only;omega
      · simp only [h];exact h0
    · exact h0
  · split
    · exact h0
    · rcases E8P t.2 (i-62) with h | h
      · have h1:=E3t h
        obtain ⟨_,h2,h3⟩:=ht;unfold ofF at h1;simp only;omega
      · simp only [h];exact h0
theorem D6o(t:D6)(i:Int)(hi:0<=i/\i<=100000000)(ht:t.2.length<=1000000):B6F t i=some (A1U t i):=by
  simp only [B6F,C2f,B50,B4w,R5,C94,bO];unfold A1U;by_cases h1:i<=61
  · rw [A0 h1,A6 h1]
    by_cases h2:1<=i
    · rw [A0 ⟨h2,h1⟩,A6 h2,w64 (n:=i-1) (by omega) (by omega),A0 (show 0<=i-1 by omega),A0 (show i-1<(firstT.length:Int) by rw [C67];omega)]
      rfl
    · rw [A1 (show ¬ (1<=i/\i<=61) by omega),A4 h2]
      rfl
  · rw [A1 h1,A4 h1,w64 (n:=i-61) (by omega) (by omega),w64 (n:=i-61-1) (by omega) (by omega)]
    by_cases h2:i-61>(t.2.length:Int)
    · rw [A0 h2,A6 h2];rfl
    · rw [A1 h2,A4 h2,A0 (show 0<=i-61-1 by omega),A0 (show i-61-1<(t.2.length:Int) by omega),show i-61-1=i-62 by omega]
      rfl
theorem C7n(t:D6)(i:Int)(hi:0<=i/\i<=100000000)(ht:t.2.length<=1000000):B2N t i=some (A1U t i):=by
  simp only [B2N,C2n,B5A,B59,A1A,D6f,bO];unfold A1U;by_cases h1:i<=61
  · rw [A0 h1,A6 h1]
    by_cases h2:1<=i
    · rw [A0 ⟨h2,h1⟩,A6 h2,w64 (n:=i-1) (by omega) (by omega),A0 (show 0<=i-1 by omega),A0 (show i-1<(firstT.length:Int) by rw [C67];omega)]
      rfl
    · rw [A1 (show ¬ (1<=i/\i<=61) by omega),A4 h2]
      rfl
  · rw [A1 h1,A4 h1,w64 (n:=i-62) (by omega) (by omega)]
    by_cases h2:i-61>(t.2.length:Int)
    · rw [A0 (show i-62>=(t.2.length:Int) by omega),A6 h2];rfl
    · rw [A1 (show ¬ i-62>=(t.2.length:Int) by omega),A4 h2,A0 (show 0<=i-62 by omega),A0 (show i-62<(t.2.length:Int) by omega)]
      rfl
noncomputable def D6p(t:D6)(f:B1):D6:=match A2P t f with
  | some x=>x.1
  | none=>t
noncomputable def D6q(t:D6)(n:Int):D6:=match A1Q (n,t.2) with
  | some x=>x.1
  | none=>t
theorem E3u{t:D6}(ht:A1S t){f:B1}(h1:f.1.size<=10000)(h2:f.2.size<=10000):A2P t f=some (D6p t f,())/\A1S (D6p t f):=by
  obtain ⟨q0,q1,q2⟩:=ht;obtain ⟨T,e,hT⟩:=F1W t f q0 (by omega) (by unfold ofF;omega);have hv:D6p t f=(t.1,T):=by unfold D6p;rw [e]
  rw [hv];exact ⟨e,q0,q1,hT⟩
theorem E3v{t:D6}(ht:A1S t){n:Int}(h1:0<=n)(h2:n<=4096):A1Q (n,t.2)=some (D6q t n,())/\A1S (D6q t n):=by
  obtain ⟨q0,q1,q2⟩:=ht;obtain ⟨k,_,_,e,hT⟩:=E8A n t.2 h1 (by omega) (by omega);have hv:D6q t n=(n,t.2.take k):=by unfold D6q;rw [e]
  rw [hv];exact ⟨e,h1,h2,hT⟩
theorem D95{t:D6}(h:A1S t):A5k t=some (true,()):=by
  obtain ⟨h0,h1,h2⟩:=h;obtain ⟨m,fs⟩:=t;simp only at h0 h1 h2;have e:B9e (m,fs)=some (szT fs,()):=by
    have hl:=A5T fs;have:=L3 (B3a B0g (m,fs)) (fun k=>(szT (fs.take k),(k:Int),())) fs.length (szT fs,()) (fun k hk=>by
      have h3:(k:Int)<(fs.length:Int):=by omega
      have h4:(0:Int)<=(k:Int):=by omega
      have h5:=D2R fs hk;have h6:=D2Q fs (k+1);have h7:=C0T fs[k];have h8:=A5T (fs.take k);have e1:rd B8 fs (k:Int)=fs[k]:=A15 (k:=B8) hk;simp only [B3a,A0 h3,A0 h4,A8,e1];rw [D0C _ (by omega)];simp only [A5];rw [w64 (n:=szT (fs.take k)+ofF fs[k]) (by omega) (by omega),w64 (n:=(k:Int)+1) (by omega) (by omega),h5];rfl) (by
      have h3:¬ ((fs.length:Nat):Int)<(fs.length:Int):=by omega
      simp only [B3a,A1 h3,A3];rw [H4 (by omega)])
    simp only [B9e,C5k];rw [show ((0:Int),(0:Int),())=(fun k:Nat=>(szT (fs.take k),(k:Int),())) 0 by simp [szT]];rw [this]
    try rfl
  simp only [A5k,C2e,R5,A5,e];rw [A0 ⟨h0,h1⟩,A0 h2];rfl
noncomputable def A4n(t:D6)(b:List Int)(p m:Nat):Int×B1×Nat:=
  if (C7 b p m).2.2.1=false then (1,noF,0)
  else if (C7 b p m).1=0 then
    (if (M9 b (C7 b p m).2.1.toNat).2.2.1=false then (1,noF,0)
     else if (M9 b (M9 b (C7 b p m).2.1.toNat).2.1.toNat).2.2.1=false then (1,noF,0)
     else (0,((M9 b (C7 b p m).2.1.toNat).1,(M9 b (M9 b (C7 b p m).2.1.toNat).2.1.toNat).1),(M9 b (M9 b (C7 b p m).2.1.toNat).2.1.toNat).2.1.toNat))
  else if (A1U t (C7 b p m).1).2.1=false then (2,noF,0)
  else if (M9 b (C7 b p m).2.1.toNat).2.2.1=false then (1,noF,0)
  else (0,((A1U t (C7 b p m).1).1.1,(M9 b (C7 b p m).2.1.toNat).1),(M9 b (C7 b p m).2.1.toNat).2.1.toNat)
theorem D16{t:D6}(ht:A1S t){b:List Int}{p m:Nat}(hm:m<=8)(h:(A4n t b p m).1=0):(A4n t b p m).2.1.1.size<=10000/\(A4n t b p m).2.1.2.size<=10000/\p<(A4n t b p m).2.2/\(A4n t b p m).2.2<=b.length:=by
  unfold A4n at h ⊢;by_cases h1:(C7 b p m).2.2.1=false
  · rw [A6 h1] at h;cases h
  have r1:=A1s b p m hm (by simpa using h1);rw [A4 h1] at h ⊢;by_cases h2:(C7 b p m).1=0
  · rw [A6 h2] at h ⊢
    by_cases h3:(M9 b (C7 b p m).2.1.toNat).2.2.1=false
    · rw [A6 h3] at h;cases h
    rw [A4 h3] at h ⊢;have r2:=A6j (C7 b p m).2.1.toNat (by simpa using h3);by_cases h4:(M9 b (M9 b (C7 b p m).2.1.toNat).2.1.toNat).2.2.1=false
    · rw [A6 h4] at h;cases h
    rw [A4 h4];have r3:=A6j (M9 b (C7 b p m).2.1.toNat).2.1.toNat (by simpa using h4);simp only;omega
  · rw [A4 h2] at h ⊢
    by_cases h5:(A1U t (C7 b p m).1).2.1=false
    · rw [A6 h5] at h;cases h
    rw [A4 h5] at h ⊢;by_cases h3:(M9 b (C7 b p m).2.1.toNat).2.2.1=false
    · rw [A6 h3] at h;cases h
    rw [A4 h3];have r2:=A6j (C7 b p m).2.1.toNat (by simpa using h3);have r4:=D94 ht (C7 b p m).1;simp only;omega
section
variable {b:List Int} (hb:Byt b) (hl:b.length<=500000000)
include hb hl
theorem C34(p m:Nat)(hp:p<=1000000000)(hm:1<=m/\m<=8)(t:D6)(l:List B1) :
    W5 (b,(p:Int),0,t,l) (m:Int)=some (if (C7 b p m).2.2.1=false then (0,(b,(p:Int),1,t,l),()) else ((C7 b p m).1,(b,(C7 b p m).2.1,0,t,l),())):=by
  simp only [W5,A4O,C32 hb hl p m hp hm,bO];by_cases h1:(C7 b p m).2.2.1=false
  · rw [A6 h1,h1];rfl
  · rw [A4 h1,show (C7 b p m).2.2.1=true by simpa using h1];rfl
theorem C35(p:Nat)(hp:p<=1000000000)(t:D6)(l:List B1) :
    A0M (b,(p:Int),0,t,l)=some (if (M9 b p).2.2.1=false then (⟨#[]⟩,(b,(p:Int),1,t,l),()) else ((M9 b p).1,(b,(M9 b p).2.1,0,t,l),())):=by
  simp only [A0M,A3F,C33 hb hl p hp,bO];by_cases h1:(M9 b p).2.2.1=false
  · rw [A6 h1,h1];rfl
  · rw [A4 h1,show (M9 b p).2.2.1=true by simpa using h1];rfl
theorem D2f(p:Nat)(hp:p<=1000000000)(c:Int)(hc:c≠0)(t:D6)(l:List B1) :
    A0M (b,(p:Int),c,t,l)=some (⟨#[]⟩,(b,(p:Int),c,t,l),()):=by
  simp only [A0M,A3F,C33 hb hl p hp,bO,K7,V4,A1 hc,J1,A8,A3]
theorem C68(p:Nat)(c:Int)(t:D6)(ht:A1S t)(l:List B1)(i:Int)(hi:0<=i/\i<=100000000) :
    T7 (b,(p:Int),c,t,l) i=some ((A1U t i).1,(if (A1U t i).2.1=false then (b,(p:Int),if c=0 then 2 else c,t,l) else (b,(p:Int),c,t,l)),()):=by
  have h:=A7v ht;simp only [T7,A5E,D6o t i hi (by omega),bO,K7,V4];by_cases h1:(A1U t i).2.1=false
  · rw [A6 h1,h1]
    by_cases hc:c=0
    · rw [A0 hc,A6 hc];rfl
    · rw [A1 hc,A4 hc];rfl
  · rw [A4 h1,show (A1U t i).2.1=true by simpa using h1];rfl
theorem D96(p:Nat)(c:Int)(hc:c≠0)(t:D6)(ht:A1S t)(l:List B1)(i:Int)(hi:0<=i/\i<=100000000) :
    T7 (b,(p:Int),c,t,l) i=some ((A1U t i).1,(b,(p:Int),c,t,l),()):=by
  rw [C68 hb hl p c t ht l i hi,A4 hc];split<;>rfl
theorem D6r(p:Nat)(t:D6)(ht:A1S t)(l:List B1)(i:Int)(hi:0<=i/\i<=100000000) :
    T7 (b,(p:Int),0,t,l) i=some ((A1U t i).1,(b,(p:Int),(if (A1U t i).2.1=false then 2 else 0),t,l),()):=by
  rw [C68 hb hl p 0 t ht l i hi,A6 rfl];split<;>rfl
theorem C7o(p m:Nat)(hp:p<=1000000000)(hm:1<=m/\m<=8)(t:D6)(ht:A1S t)(l:List B1) :
    ∃ f q,A0C (b,(p:Int),0,t,l) (m:Int)=some (f,(b,q,(A4n t b p m).1,t,l),())/\((A4n t b p m).1=0->f=(A4n t b p m).2.1/\q=((A4n t b p m).2.2:Int)):=by
  simp only [A0C,A1o,C34 hb hl p m hp hm t l,bO];unfold A4n;by_cases h1:(C7 b p m).2.2.1=false
  · rw [A6 h1,A6 h1]
    exact ⟨_,_,rfl,fun h=>by cases h⟩
  have r1:=A1s b p m hm.2 (by simpa using h1);have e1:(C7 b p m).2.1=(((C7 b p m).2.1.toNat:Nat):Int):=by omega
  rw [A4 h1,A4 h1];simp only [R1,C3,A3];by_cases h2:(C7 b p m).1=0
  · rw [A6 h2,A0 h2]
    simp only [A8];rw [e1,C35 hb hl _ (by omega) t l,D5];simp only [bO];by_cases h3:(M9 b (C7 b p m).2.1.toNat).2.2.1=false
    · rw [A6 h3,A6 h3]
      simp only [bSl];rw [D2f hb hl _ (by omega) 1 (by decide) t l];exact ⟨_,_,rfl,fun h=>by cases h⟩
    have r2:=A6j (C7 b p m).2.1.toNat (by simpa using h3);have e2:(M9 b (C7 b p m).2.1.toNat).2.1=(((M9 b (C7 b p m).2.1.toNat).2.1.toNat:Nat):Int):=by omega
    rw [A4 h3,A4 h3];simp only [bSl];rw [e2,C35 hb hl _ (by omega) t l,D5];simp only [bO];by_cases h4:(M9 b (M9 b (C7 b p m).2.1.toNat).2.1.toNat).2.2.1=false
    · rw [A6 h4,A6 h4]
      exact ⟨_,_,rfl,fun h=>by cases h⟩
    · have r3:=A6j (M9 b (C7 b p m).2.1.toNat).2.1.toNat (by simpa using h4)
      rw [A4 h4,A4 h4];exact ⟨_,_,rfl,fun _=>⟨rfl,by simp only;omega⟩⟩
  · rw [A4 h2,A1 h2]
    simp only [A3];rw [e1,C68 hb hl _ 0 t ht l _ (by omega),D5];simp only [bO];by_cases h5:(A1U t (C7 b p m).1).2.1=false
    · rw [A6 h5,A6 h5]
      simp only [bSl,M0];rw [D2f hb hl _ (by omega) 2 (by decide) t l];exact ⟨_,_,rfl,fun h=>by cases h⟩
    rw [A4 h5,A4 h5];simp only [bSl];rw [C35 hb hl _ (by omega) t l];simp only [bO];by_cases h3:(M9 b (C7 b p m).2.1.toNat).2.2.1=false
    · rw [A6 h3,A6 h3]
      exact ⟨_,_,rfl,fun h=>by cases h⟩
    · have r2:=A6j (C7 b p m).2.1.toNat (by simpa using h3)
      rw [A4 h3,A4 h3];exact ⟨_,_,rfl,fun _=>⟨rfl,by simp only;omega⟩⟩
end
set_option maxRecDepth 100000
abbrev RdT:=Int×D6×Nat×List B1
def B2T(t:D6)(p:Nat)(l:List B1)(f:B1):RdT:=(if 100<l.length+1 then 4 else 0,t,p,l ++ [f])
noncomputable def B2U(b:List Int)(most:Int)(t:D6)(p:Nat)(l:List B1):RdT:=
  if 128<=byN b p then
    (if (C7 b p 7).2.2.1=false then (1,t,p,l) else if (A1U t (C7 b p 7).1).2.1=false then (2,t,p,l) else B2T t (C7 b p 7).2.1.toNat l (A1U t (C7 b p 7).1).1)
  else if 64<=byN b p then (if (A4n t b p 6).1=0 then B2T (D6p t (A4n t b p 6).2.1) (A4n t b p 6).2.2 l (A4n t b p 6).2.1 else ((A4n t b p 6).1,t,p,l))
  else if 32<=byN b p then (if (C7 b p 5).2.2.1=false then (1,t,p,l) else if (C7 b p 5).1>most\/0<l.length then (3,t,p,l) else (0,D6q t (C7 b p 5).1,(C7 b p 5).2.1.toNat,l))
  else (if (A4n t b p 4).1=0 then B2T t (A4n t b p 4).2.2 l (A4n t b p 4).2.1 else ((A4n t b p 4).1,t,p,l))
def RdK(b:List Int)(t:D6)(p:Nat)(l:List B1):Prop:=A1S t/\p<=b.length/\l.length<=100/\∀ f∈l,f.1.size<=10000/\f.2.size<=10000
theorem D2g{b:List Int}{t:D6}{p p':Nat}{l:List B1}{f:B1}(ht:A1S t)(hp:p'<=b.length)(hlt:p<p')(hk:l.length<=100/\∀ f∈l,f.1.size<=10000/\f.2.size<=10000)(h1:f.1.size<=10000)(h2:f.2.size<=10000)(h:(B2T t p' l f).1=0) :
    RdK b (B2T t p' l f).2.1 (B2T t p' l f).2.2.1 (B2T t p' l f).2.2.2/\p<(B2T t p' l f).2.2.1:=by
  unfold B2T at h ⊢;by_cases h3:100<l.length+1
  · simp only [A6 h3] at h;cases h
  · refine ⟨⟨ht,hp,by simp only [B0,H0];omega,fun x hx=>?_⟩,hlt⟩
    rcases D9.1 hx with q | q
    · exact hk.2 x q
    · rcases B2.1 q with rfl
      exact ⟨h1,h2⟩
theorem D6s{b:List Int}{most:Int}(hmost:most<=4096){t:D6}{p:Nat}{l:List B1}(hk:RdK b t p l)(h:(B2U b most t p l).1=0):RdK b (B2U b most t p l).2.1 (B2U b most t p l).2.2.1 (B2U b most t p l).2.2.2/\p<(B2U b most t p l).2.2.1:=by
  obtain ⟨ht,hp,hl⟩:=hk;unfold B2U at h ⊢;by_cases c1:128<=byN b p
  · rw [A6 c1] at h ⊢
    by_cases h1:(C7 b p 7).2.2.1=false
    · rw [A6 h1] at h;cases h
    rw [A4 h1] at h ⊢;have r1:=A1s b p 7 (by omega) (by simpa using h1);by_cases h2:(A1U t (C7 b p 7).1).2.1=false
    · rw [A6 h2] at h;cases h
    rw [A4 h2] at h ⊢;have r2:=D94 ht (C7 b p 7).1;exact D2g ht (by omega) (by omega) hl r2.1 r2.2 h
  rw [A4 c1] at h ⊢;by_cases c2:64<=byN b p
  · rw [A6 c2] at h ⊢
    by_cases h1:(A4n t b p 6).1=0
    · rw [A6 h1] at h ⊢
      obtain ⟨q1,q2,q3,q4⟩:=D16 ht (by omega) h1;exact D2g (E3u ht q1 q2).2 q4 q3 hl q1 q2 h
    · rw [A4 h1] at h;exact absurd h h1
  rw [A4 c2] at h ⊢;by_cases c3:32<=byN b p
  · rw [A6 c3] at h ⊢
    by_cases h1:(C7 b p 5).2.2.1=false
    · rw [A6 h1] at h;cases h
    rw [A4 h1] at h ⊢;have r1:=A1s b p 5 (by omega) (by simpa using h1);by_cases h2:(C7 b p 5).1>most\/0<l.length
    · rw [A6 h2] at h;cases h
    rw [A4 h2];exact ⟨⟨(E3v ht r1.1 (by omega)).2,by simp only;omega,hl⟩,by simp only;omega⟩
  rw [A4 c3] at h ⊢;by_cases h1:(A4n t b p 4).1=0
  · rw [A6 h1] at h ⊢
    obtain ⟨q1,q2,q3,q4⟩:=D16 ht (by omega) h1;exact D2g ht q4 q3 hl q1 q2 h
  · rw [A4 h1] at h;exact absurd h h1
theorem E1M(t:D6)(p:Nat)(l:List B1)(f:B1):(if 100<l.length+1 then (if (0:Int)=0 then 4 else 0) else 0)=(B2T t p l f).1:=by
  unfold B2T;by_cases h:100<l.length+1
  · rw [A6 h,A6 rfl]
    simp only [A6 h]
  · rw [A4 h]
    simp only [A4 h]
theorem F0b(l:List B1){c:Int}(h:c≠0):(if 100<l.length+1 then (if c=0 then 4 else c) else c)=c:=by
  rw [A4 h];split<;>rfl
theorem D2h(b:List Int)(q c:Int)(t:D6)(l:List B1)(f:B1)(hl:l.length<=1000) :
    (bif decide (l.length+([f]:List B1).length<=9223372036854775807) then bif decide ((l.length+([f]:List B1).length)*32<=140737488355328) then bif (decide (((l ++ [f]).length:Int)>100)) then A5 (K7 (b,(q,(c,(t,(l ++ [f]))))) 4) fun c63=>some (c63.1,()) else some ((b,(q,(c,(t,(l ++ [f]))))),()) else none else none) =
      some ((b,q,(if 100<l.length+1 then (if c=0 then 4 else c) else c),t,l ++ [f]),()):=by
  rw [E84 (by simp;omega)];by_cases h:100<l.length+1
  · rw [A0 (show ((l ++ [f]).length:Int)>100 by simp;omega),A6 h]
    simp only [A8,K7,V4];by_cases hc:c=0
    · rw [A0 hc,A6 hc];rfl
    · rw [A1 hc,A4 hc];rfl
  · rw [A1 (show ¬ ((l ++ [f]).length:Int)>100 by simp;omega),A4 h]
    rfl
theorem D97{t:D6}(ht:A1S t){n:Int}(h1:0<=n)(h2:n<=4096):B9t t n=some (D6q t n,()):=by
  have hl:=A7v ht;simp only [B9t,C5p,B3t t (by omega),R5,D95 ht,bO,A0 (show 0<=n/\n<=4096 from ⟨h1,h2⟩),C3,A3,bSl,(E3v ht h1 h2).1]
theorem E5J{b:List Int}(hb:Byt b)(hl:b.length<=500000000)(most:Int)(hmost:0<=most/\most<=4096)(t:D6)(p:Nat)(l:List B1)(hk:RdK b t p l)(hp:p<b.length) :
    ∃ q c t' l',R2 (b,(p:Int),0,t,l) most=some ((b,q,c,t',l'),())/\c=(B2U b most t p l).1/\((B2U b most t p l).1=0->q=((B2U b most t p l).2.2.1:Int)/\t' = (B2U b most t p l).2.1/\l' = (B2U b most t p l).2.2.2):=by
  obtain ⟨ht,_,hl1,hl2⟩:=hk;obtain ⟨q1,q2⟩:=B2t hb hp;have d1:decide ((0:Int)<=(p:Int))=true:=A0 (by omega);have d2:decide ((p:Int)<(b.length:Int))=true:=A0 (by omega);simp only [R2,A32,d1,d2,A8,q1];unfold B2U;by_cases c1:128<=byN b p
  · rw [A0 (show (byN b p:Int)>=128 by omega),A6 c1]
    have e:=C34 hb hl p 7 (by omega) (by omega) t l;rw [show ((7:Nat):Int)=7 from rfl] at e;simp only [A8,e,bO];by_cases h1:(C7 b p 7).2.2.1=false
    · rw [A6 h1,A6 h1]
      simp only [];rw [D96 hb hl p 1 (by decide) t ht l 0 (by omega)];simp only [bO,bSl];rw [show ((A1U t 0).1.1,(A1U t 0).1.2)=(A1U t 0).1 from rfl,D2h b _ 1 t l _ (by omega)];exact ⟨_,_,_,_,rfl,by simp,fun h=>by cases h⟩
    have r1:=A1s b p 7 (by omega) (by simpa using h1);have e1:(C7 b p 7).2.1=(((C7 b p 7).2.1.toNat:Nat):Int):=by omega
    rw [A4 h1,A4 h1];simp only [];rw [e1,D6r hb hl _ t ht l _ (by omega),D5];simp only [bO,bSl];by_cases h2:(A1U t (C7 b p 7).1).2.1=false
    · rw [A6 h2,A6 h2]
      rw [show ((A1U t (C7 b p 7).1).1.1,(A1U t (C7 b p 7).1).1.2)=(A1U t (C7 b p 7).1).1 from rfl,D2h b _ 2 t l _ (by omega)];exact ⟨_,_,_,_,rfl,by simp,fun h=>by cases h⟩
    · rw [A4 h2,A4 h2]
      rw [show ((A1U t (C7 b p 7).1).1.1,(A1U t (C7 b p 7).1).1.2)=(A1U t (C7 b p 7).1).1 from rfl,D2h b _ 0 t l _ (by omega)];refine ⟨_,_,_,_,rfl,?_,fun h=>⟨?_,rfl,rfl⟩⟩
      · exact E1M ..
      · unfold B2T;rfl
  rw [A1 (show ¬ (byN b p:Int)>=128 by omega),A4 c1];simp only [A3];by_cases c2:64<=byN b p
  · rw [A0 (show (byN b p:Int)>=64 by omega),A6 c2]
    obtain ⟨f,q,e,e'⟩:=C7o hb hl p 6 (by omega) (by omega) t ht l;rw [show ((6:Nat):Int)=6 from rfl] at e;simp only [A8,e,bO];by_cases h1:(A4n t b p 6).1=0
    · obtain ⟨e1,e2⟩:=e' h1
      obtain ⟨s1,s2,s3,s4⟩:=D16 ht (by omega) h1;subst e1 e2;rw [A0 h1,A6 h1];simp only [A8,(E3u ht s1 s2).1,bO,bSl,h1];rw [show ((A4n t b p 6).2.1.1,(A4n t b p 6).2.1.2)=(A4n t b p 6).2.1 from rfl,D2h b _ 0 (D6p t (A4n t b p 6).2.1) l _ (by omega)];refine ⟨_,_,_,_,rfl,?_,fun h=>⟨?_,rfl,rfl⟩⟩
      · exact E1M ..
      · unfold B2T;rfl
    · rw [A1 h1,A4 h1]
      simp only [A3,bSl];rw [show (f.1,f.2)=f from rfl,D2h b _ _ t l _ (by omega)];refine ⟨_,_,_,_,rfl,?_,fun h=>absurd h h1⟩;exact F0b l h1
  rw [A1 (show ¬ (byN b p:Int)>=64 by omega),A4 c2];simp only [A3];by_cases c3:32<=byN b p
  · rw [A0 (show (byN b p:Int)>=32 by omega),A6 c3]
    have e:=C34 hb hl p 5 (by omega) (by omega) t l;rw [show ((5:Nat):Int)=5 from rfl] at e;simp only [A8,A26,A25,e,bO];by_cases h1:(C7 b p 5).2.2.1=false
    · rw [A6 h1,A6 h1]
      simp only [A1 (show ¬ (0:Int)>most by omega),A3,K7,V4,bO,show decide ((1:Int)=0)=false from rfl];cases decide ((l.length:Int)>0)<;>exact ⟨_,_,_,_,rfl,rfl,fun h=>by cases h⟩
    have r1:=A1s b p 5 (by omega) (by simpa using h1);rw [A4 h1,A4 h1];simp only [K7,V4,bO,R1,A8];by_cases h2:(C7 b p 5).1>most
    · rw [A0 h2,A6 (.inl h2)]
      exact ⟨_,_,_,_,rfl,rfl,fun h=>by cases h⟩
    · rw [A1 h2]
      simp only [A3];by_cases h3:0<l.length
      · rw [A0 (show (l.length:Int)>0 by omega),A6 (.inr h3)]
        exact ⟨_,_,_,_,rfl,rfl,fun h=>by cases h⟩
      · rw [A1 (show ¬ (l.length:Int)>0 by omega),A4 (by omega)]
        simp only [A3,bO,R1,A8,D97 ht r1.1 (show (C7 b p 5).1<=4096 by omega),bSr];exact ⟨_,_,_,_,rfl,rfl,fun _=>⟨by omega,rfl,rfl⟩⟩
  rw [A1 (show ¬ (byN b p:Int)>=32 by omega),A4 c3];obtain ⟨f,q,e,e'⟩:=C7o hb hl p 4 (by omega) (by omega) t ht l;rw [show ((4:Nat):Int)=4 from rfl] at e;simp only [A3,e,bO,bSl];by_cases h1:(A4n t b p 4).1=0
  · obtain ⟨e1,e2⟩:=e' h1
    subst e1 e2;rw [A6 h1];simp only [h1];rw [show ((A4n t b p 4).2.1.1,(A4n t b p 4).2.1.2)=(A4n t b p 4).2.1 from rfl,D2h b _ 0 t l _ (by omega)];refine ⟨_,_,_,_,rfl,?_,fun h=>⟨?_,rfl,rfl⟩⟩
    · exact E1M ..
    · unfold B2T;rfl
  · rw [A4 h1,show (f.1,f.2)=f from rfl,D2h b _ _ t l _ (by omega)]
    refine ⟨_,_,_,_,rfl,?_,fun h=>absurd h h1⟩;exact F0b l h1
noncomputable def gfM(b:List Int)(most:Int):Nat->D6->Nat->List B1->Int×D6×List B1
  | 0,t,p,l=>(0,t,l)
  | k+1,t,p,l=>if p<b.length then (if (B2U b most t p l).1=0 then gfM b most k (B2U b most t p l).2.1 (B2U b most t p l).2.2.1 (B2U b most t p l).2.2.2 else ((B2U b most t p l).1,t,l)) else (0,t,l)
theorem E1N{b:List Int}{most:Int}(hmost:most<=4096):∀ (k:Nat) (t:D6) (p:Nat) (l:List B1),RdK b t p l->(gfM b most k t p l).1=0->A1S (gfM b most k t p l).2.1/\(gfM b most k t p l).2.2.length<=100/\∀ f∈(gfM b most k t p l).2.2,f.1.size<=10000/\f.2.size<=10000
  | 0,t,p,l,hk,_=>⟨hk.1,hk.2.2⟩
  | k+1,t,p,l,hk,h=>by
    unfold gfM at h ⊢;by_cases h1:p<b.length
    · rw [A6 h1] at h ⊢
      by_cases h2:(B2U b most t p l).1=0
      · rw [A6 h2] at h ⊢
        exact E1N hmost k _ _ _ (D6s hmost hk h2).1 h
      · rw [A4 h2] at h;exact absurd h h2
    · rw [A4 h1];exact ⟨hk.1,hk.2.2⟩
theorem D5W{b:List Int}(hb:Byt b)(hl:b.length<=500000000)(most:Int)(hmost:0<=most/\most<=4096):∀ (k:Nat) (t:D6) (p:Nat) (l:List B1),RdK b t p l->b.length<=p+k->
    ∃ q t1 t2 l',F4 (A38 R2 b most) (b,(p:Int),0,t.1,t.2,l,())=some (b,q,(gfM b most k t p l).1,t1,t2,l',())/\((gfM b most k t p l).1=0->(t1,t2)=(gfM b most k t p l).2.1/\l' = (gfM b most k t p l).2.2)
  | 0,t,p,l,hk,hle=>by
    have h1:¬ (p:Int)<(b.length:Int):=by omega
    rw [G8];simp only [A38,R1,A8,A1 h1,A3];exact ⟨_,_,_,_,rfl,fun _=>⟨rfl,rfl⟩⟩
  | k+1,t,p,l,hk,hle=>by
    rw [G8];unfold gfM;by_cases h1:p<b.length
    · obtain ⟨q,c,t',l',e,hc,hz⟩:=E5J hb hl most hmost t p l hk h1
      have e':R2 (b,(p:Int),0,(t.1,t.2),l) most=some ((b,q,c,t',l'),()):=e;simp only [A38,R1,A8,A0 (show (p:Int)<(b.length:Int) by omega),e',bO];rw [A6 h1];by_cases h2:(B2U b most t p l).1=0
      · obtain ⟨z1,z2,z3⟩:=hz h2
        subst z1 z2 z3;rw [A6 h2,hc,h2];have hk2:=D6s hmost.2 hk h2;exact D5W hb hl most hmost k _ _ _ hk2.1 (by omega)
      · rw [A4 h2,G8]
        have hc0:¬ c=0:=by rw [hc];exact h2
        simp only [A1 hc0,A3,A38];rw [hc];exact ⟨_,_,_,_,rfl,fun h=>absurd h h2⟩
    · have h1':¬ (p:Int)<(b.length:Int):=by omega
      rw [A4 h1];simp only [A38,R1,A8,A1 h1',A3];exact ⟨_,_,_,_,rfl,fun _=>⟨rfl,rfl⟩⟩
noncomputable def O2(t:D6)(most:Int)(b:List Int):List B1×D6×Int×Unit:=
  if (gfM b most b.length t 0 []).1=0 then ((gfM b most b.length t 0 []).2.2,(gfM b most b.length t 0 []).2.1,0,()) else ([],t,(gfM b most b.length t 0 []).1,())
theorem C69{t:D6}(ht:A1S t){most:Int}(hmost:most<=4096)(b:List Int):A1S (O2 t most b).2.1/\(O2 t most b).1.length<=100/\∀ f∈(O2 t most b).1,f.1.size<=10000/\f.2.size<=10000:=by
  unfold O2;by_cases h:(gfM b most b.length t 0 []).1=0
  · rw [A6 h]
    exact E1N hmost b.length t 0 [] ⟨ht,by omega,by simp,fun f hf=>by cases hf⟩ h
  · rw [A4 h]
    exact ⟨ht,by simp,fun f hf=>by cases hf⟩
theorem D2i{t:D6}(ht:A1S t){b:List Int}(hb:Byt b)(hl:b.length<=500000000){most:Int}(hmost:0<=most/\most<=4096):B1V t most b=some (O2 t most b):=by
  have htl:=A7v ht;obtain ⟨q,t1,t2,l',e,hz⟩:=D5W hb hl most hmost b.length t 0 [] ⟨ht,by omega,by simp,fun f hf=>by cases hf⟩ (by omega);rw [show ((0:Nat):Int)=0 from rfl] at e;simp only [B1V,B7R,R5,A0 hmost,D95 ht,B3t t (by omega),bO,C3,A3,bSl,e];unfold O2;by_cases h:(gfM b most b.length t 0 []).1=0
  · obtain ⟨z1,z2⟩:=hz h
    rw [A6 h,h,<- z1,<- z2];rfl
  · rw [A4 h,A1 h]
    rfl
set_option maxRecDepth 100000
def nmA(l:List B1)(k:Nat):X0:=(rd B8 l (k:Int)).1
def T9(l:List B1)(name:X0):Nat->Nat
  | 0=>0
  | k+1=>T9 l name k+(if ((nmA l k).toList == name.toList)=true then 1 else 0)
def A16(l:List B1)(name:X0):Nat->X0
  | 0=>⟨#[]⟩
  | k+1=>if ((nmA l k).toList == name.toList)=true then (if T9 l name k=0 then (rd B8 l (k:Int)).2 else A16 l name k) else A16 l name k
theorem D6t(l:List B1)(name:X0):∀ k,T9 l name k<=k
  | 0=>C1 _
  | k+1=>by have:=D6t l name k;unfold T9;split<;>omega
theorem A4V(l:List B1)(name:X0)(hl:l.length<=1000000):T4 l name=some (A16 l name l.length,(T9 l name l.length:Int),()):=by
  have e:=L3 (A7P l name) (fun k=>(A16 l name k,(T9 l name k:Int),(k:Int),())) l.length (A16 l name l.length,(T9 l name l.length:Int),()) (fun k hk=>by
    have h1:(k:Int)<(l.length:Int):=by omega
    have h2:(0:Int)<=(k:Int):=by omega
    have h3:=D6t l name k;have w1:i64.wrap ((k:Int)+1)=((k+1:Nat):Int):=by rw [w64 (by omega) (by omega)];omega
    have w2:i64.wrap ((T9 l name k:Int)+1)=((T9 l name k+1:Nat):Int):=by rw [w64 (by omega) (by omega)];omega
    simp only [A7P,A0 h1,A0 h2,A8,w1,w2];simp only [A16,T9];rw [show (rd B8 l (k:Int)).1=nmA l k from rfl];cases hq:((nmA l k).toList == name.toList) with
    | false=>simp only [A3,J7,L5,L0]
    | true=>
      simp only [A8,M0];by_cases h0:T9 l name k=0
      · rw [A0 (show (T9 l name k:Int)=0 by omega),A6 h0];rfl
      · rw [A1 (show ¬ (T9 l name k:Int)=0 by omega),A4 h0];rfl) (by
    have h1:¬ ((l.length:Nat):Int)<(l.length:Int):=by omega
    simp only [A7P,A1 h1,A3])
  simp only [T4,C2g];have e':F4 (A7P l name) ((⟨#[]⟩:X0),0,0,())=some (A16 l name l.length,(T9 l name l.length:Int),()):=e;rw [e'];rfl
theorem F1B{go:Nat->Bool}{n:Nat}{f:Int×Unit->Option ((Int×Unit)⊕(Unit⊕(Bool×Unit)))}(hs:∀ i:Nat,i<n->f ((i:Int),())=if go i then some (.inl (((i+1:Nat):Int),())) else some (.inr (.inr (false,()))))
    (he:f ((n:Int),())=some (.inr (.inl ()))) (g:Unit->Option (Bool×Unit)) (c:Bool) (hg:g ()=some (c,())):I2 (F4 f (0,())) g=some ((List.range n).all go&&c,()):=by
  obtain ⟨i,h1,h2,h3,h4⟩:=A3e f (fun i=>((i:Int),())) n (fun i=>if i<n then .inr (false,()) else .inl ()) go (fun i hi=>by
    simp only [A6 hi];exact hs i hi) (by simp only [A2W,L5];exact he)
  have h4':F4 f (0,())=some (if i<n then .inr (false,()) else .inl ()):=h4;rw [h4'];by_cases hi:i<n
  · rw [A6 hi]
    have:(List.range n).all go=false:=by
      rw [A3V];exact ⟨i,O8.2 hi,by simp [h3 hi]⟩
    simp [I2,this]
  · rw [A4 hi]
    have:(List.range n).all go=true:=by
      rw [C4];intro j hj;exact h2 j (by have:=O8.1 hj;omega)
    simp only [I2,this,hg,K2]
def C4f(s:X0)(i:Nat):Bool:=decide (65<=bt s (i:Int))&&decide (bt s (i:Int)<=90)
def C7p(s:X0):Bool:=(List.range s.size).all (fun i=>!C4f s i)&&!(s.toList == (⟨#[]⟩:X0).toList)
theorem D98(s:X0)(h:s.size<=1000000000):A8D s=some (C7p s,()):=by
  simp only [A8D,C5q];refine F1B (fun i hi=>?_) ?_ _ _ rfl
  · have h1:(i:Int)<(s.size:Int):=by omega
    have h2:(0:Int)<=(i:Int):=by omega
    have w1:i64.wrap ((i:Int)+1)=((i+1:Nat):Int):=by rw [w64 (by omega) (by omega)];omega
    simp only [C04,A0 h1,A0 h2,A8,w1];by_cases a:65<=bt s (i:Int)
    · rw [A0 (show bt s (i:Int)>=65 from a)]
      by_cases b:bt s (i:Int)<=90
      · rw [show C4f s i=true by unfold C4f;rw [A0 a,A0 b];rfl,A0 b];rfl
      · rw [show C4f s i=false by unfold C4f;rw [A0 a,A1 b];rfl,A1 b];rfl
    · rw [show C4f s i=false by unfold C4f;rw [A1 a];rfl,A1 (show ¬ bt s (i:Int)>=65 from a)];rfl
  · have h1:¬ (s.size:Int)<(s.size:Int):=by omega
    simp only [C04,A1 h1,A3]
theorem D2j{s:X0}(h:(!(s.toList == (⟨#[]⟩:X0).toList))=true):0<s.size:=by
  rcases Nat.eq_zero_or_pos s.size with h0 | h0
  · exfalso
    have:s=⟨#[]⟩:=ByteArray.ext (Array.eq_empty_of_size_eq_zero h0);rw [this] at h;simp at h
  · exact h0
theorem E1O{s:X0}(h:C7p s=true):0<s.size:=D2j (by
  unfold C7p at h;simp only [B5] at h;exact h.2)
abbrev nM:X0:=⟨#[58,109,101,116,104,111,100]⟩
abbrev nS:X0:=⟨#[58,115,99,104,101,109,101]⟩
abbrev nP:X0:=⟨#[58,112,97,116,104]⟩
abbrev nA:X0:=⟨#[58,97,117,116,104,111,114,105,116,121]⟩
def C6A(x:X0):Bool:=(x.toList == nM.toList)||(x.toList == nS.toList)||(x.toList == nP.toList)||(x.toList == nA.toList)
theorem D43(a b c d x:X0):K9 [a,b,c,d] x=some ((x.toList == a.toList)||(x.toList == b.toList)||(x.toList == c.toList)||(x.toList == d.toList),()):=by
  have s0:N2 [a,b,c,d] x (0,())=bif (x.toList == a.toList) then some (.inr (0,())) else some (.inl (1,())):=rfl
  have s1:N2 [a,b,c,d] x (1,())=bif (x.toList == b.toList) then some (.inr (1,())) else some (.inl (2,())):=rfl
  have s2:N2 [a,b,c,d] x (2,())=bif (x.toList == c.toList) then some (.inr (2,())) else some (.inl (3,())):=rfl
  have s3:N2 [a,b,c,d] x (3,())=bif (x.toList == d.toList) then some (.inr (3,())) else some (.inl (4,())):=rfl
  have s4:N2 [a,b,c,d] x (4,())=some (.inr (-1,())):=rfl;simp only [K9,A14,A1q,A1p];rw [G8,s0];cases (x.toList == a.toList)
  case true=>rfl
  simp only [A3];rw [G8,s1];cases (x.toList == b.toList)
  case true=>rfl
  simp only [A3];rw [G8,s2];cases (x.toList == c.toList)
  case true=>rfl
  simp only [A3];rw [G8,s3];cases (x.toList == d.toList)
  case true=>rfl
  simp only [A3];rw [G8,s4];rfl
def plN(l:List B1):Nat->Bool
  | 0=>false
  | k+1=>plN l k||!decide (bt (nmA l k) 0=58)
def C1m(l:List B1)(k:Nat):Bool:=C7p (nmA l k)&&(bif decide (bt (nmA l k) 0=58) then !plN l k&&C6A (nmA l k)&&decide (T9 l (nmA l k) l.length<=1) else true)
def D2k(l:List B1):Bool:=(List.range l.length).all (C1m l)&&(decide (1<=T9 l nM l.length)&&decide (1<=T9 l nS l.length)&&decide (1<=T9 l nP l.length))
theorem D99(l:List B1)(hl:l.length<=1000000)(hn:∀ f∈l,f.1.size<=1000000000)(k:Nat)(hk:k<l.length) :
    A6M A8D T4 K9 l (plN l k,(k:Int),())=if C1m l k then some (.inl (plN l (k+1),((k+1:Nat):Int),())) else some (.inr (.inr (false,()))):=by
  have h1:(k:Int)<(l.length:Int):=by omega
  have h2:(0:Int)<=(k:Int):=by omega
  have w1:i64.wrap ((k:Int)+1)=((k+1:Nat):Int):=by rw [w64 (by omega) (by omega)];omega
  have hz:(nmA l k).size<=1000000000:=by
    have e:rd B8 l (k:Int)=l[k]:=A15 (k:=B8) hk;unfold nmA;rw [e];exact hn _ (F3 hk)
  simp only [A6M,A0 h1,A0 h2,A8,w1];rw [show (rd B8 l (k:Int)).1=nmA l k from rfl,D98 _ hz];simp only [bO];unfold C1m;cases hq:C7p (nmA l k) with
  | false=>rfl
  | true=>
    have h0:=E1O hq;rw [A0 (show (0:Int)<((nmA l k).size:Int) by omega),A4V l _ hl,D43];simp only [C3,A3,A8,bO,K2,plN];by_cases h58:bt (nmA l k) 0=58
    · rw [A0 h58]
      simp only [C3,A3,A8,Bool.or_false];rw [show ((nmA l k).toList == nM.toList||(nmA l k).toList == nS.toList||(nmA l k).toList == nP.toList||(nmA l k).toList == nA.toList)=C6A (nmA l k) from rfl];cases plN l k with
      | true=>rfl
      | false=>
        cases C6A (nmA l k) with
        | false=>rfl
        | true=>
          by_cases hc:T9 l (nmA l k) l.length<=1
          · rw [A1 (show ¬ (T9 l (nmA l k) l.length:Int)>1 by omega),A0 hc];rfl
          · rw [A0 (show (T9 l (nmA l k) l.length:Int)>1 by omega),A1 hc];rfl
    · rw [A1 h58]
      simp
theorem F0A(l:List B1)(hl:l.length<=1000000):F4 (A6N T4 l) (0,())=some (decide (1<=T9 l nM l.length)&&decide (1<=T9 l nS l.length)&&decide (1<=T9 l nP l.length),()):=by
  have s0:A6N T4 l (0,())=A5 (T4 l nM) fun c55=>bif (decide (c55.2.1=0)) then some (.inr (false,())) else some (.inl (1,())):=rfl
  have s1:A6N T4 l (1,())=A5 (T4 l nS) fun c55=>bif (decide (c55.2.1=0)) then some (.inr (false,())) else some (.inl (2,())):=rfl
  have s2:A6N T4 l (2,())=A5 (T4 l nP) fun c55=>bif (decide (c55.2.1=0)) then some (.inr (false,())) else some (.inl (3,())):=rfl
  have s3:A6N T4 l (3,())=some (.inr (true,())):=rfl;have hd:∀ n:Nat,decide ((n:Int)=0)=!decide (1<=n):=fun n=>by
    by_cases h:1<=n
    · rw [A0 h,A1 (by omega)];rfl
    · rw [A1 h,A0 (by omega)];rfl
  rw [G8,s0,A4V l _ hl];simp only [bO,hd];cases decide (1<=T9 l nM l.length)
  case false=>rfl
  simp only [C3,A3];rw [G8,s1,A4V l _ hl];simp only [bO,hd];cases decide (1<=T9 l nS l.length)
  case false=>rfl
  simp only [C3,A3];rw [G8,s2,A4V l _ hl];simp only [bO,hd];cases decide (1<=T9 l nP l.length)
  case false=>rfl
  simp only [C3,A3];rw [G8,s3];rfl
theorem D9A(l:List B1)(hl:l.length<=1000000)(hn:∀ f∈l,f.1.size<=1000000000):C06 l=some (D2k l,()):=by
  simp only [C06,C5r];obtain ⟨i,h1,h2,h3,h4⟩:=A3e (A6M A8D T4 K9 l) (fun i=>(plN l i,(i:Int),())) l.length (fun i=>if i<l.length then .inr (false,()) else .inl ()) (C1m l) (fun i hi=>by
    simp only [A6 hi];exact D99 l hl hn i hi) (by
    have h1:¬ ((l.length:Nat):Int)<(l.length:Int):=by omega
    simp only [A2W,L5,A6M,A1 h1,A3])
  have h4':F4 (A6M A8D T4 K9 l) (false,0,())=some (if i<l.length then .inr (false,()) else .inl ()):=h4;rw [h4'];unfold D2k;by_cases hi:i<l.length
  · rw [A6 hi]
    have:(List.range l.length).all (C1m l)=false:=by
      rw [A3V];exact ⟨i,O8.2 hi,by simp [h3 hi]⟩
    simp [I2,this]
  · rw [A4 hi]
    have:(List.range l.length).all (C1m l)=true:=by
      rw [C4];intro j hj;exact h2 j (by have:=O8.1 hj;omega)
    simp only [I2,this,K2];exact F0A l hl
def opB(a:X0):Int:=
  bif ((⟨#[80,79,83,84]⟩:X0).toList == a.toList) then 1 else bif ((⟨#[72,69,65,68]⟩:X0).toList == a.toList) then 2 else bif ((⟨#[80,65,84,67,72]⟩:X0).toList == a.toList) then 3 else bif ((⟨#[80,85,84]⟩:X0).toList == a.toList) then 4 else bif ((⟨#[71,69,84]⟩:X0).toList == a.toList) then 5 else bif ((⟨#[68,69,76,69,84,69]⟩:X0).toList == a.toList) then 6 else 0
theorem E5K(a:X0):C7V a=some (opB a,()):=by
  have s1:A5p A28 a (1,())=bif ((⟨#[80,79,83,84]⟩:X0).toList == a.toList) then some (.inr (1,())) else some (.inl (2,())):=rfl
  have s2:A5p A28 a (2,())=bif ((⟨#[72,69,65,68]⟩:X0).toList == a.toList) then some (.inr (2,())) else some (.inl (3,())):=rfl
  have s3:A5p A28 a (3,())=bif ((⟨#[80,65,84,67,72]⟩:X0).toList == a.toList) then some (.inr (3,())) else some (.inl (4,())):=rfl
  have s4:A5p A28 a (4,())=bif ((⟨#[80,85,84]⟩:X0).toList == a.toList) then some (.inr (4,())) else some (.inl (5,())):=rfl
  have s5:A5p A28 a (5,())=bif ((⟨#[71,69,84]⟩:X0).toList == a.toList) then some (.inr (5,())) else some (.inl (6,())):=rfl
  have s6:A5p A28 a (6,())=bif ((⟨#[68,69,76,69,84,69]⟩:X0).toList == a.toList) then some (.inr (6,())) else some (.inl (7,())):=rfl
  have s7:A5p A28 a (7,())=some (.inr (0,())):=rfl;simp only [C7V,D27,opB];rw [G8,s1];cases ((⟨#[80,79,83,84]⟩:X0).toList == a.toList)
  case true=>rfl
  simp only [A3];rw [G8,s2];cases ((⟨#[72,69,65,68]⟩:X0).toList == a.toList)
  case true=>rfl
  simp only [A3];rw [G8,s3];cases ((⟨#[80,65,84,67,72]⟩:X0).toList == a.toList)
  case true=>rfl
  simp only [A3];rw [G8,s4];cases ((⟨#[80,85,84]⟩:X0).toList == a.toList)
  case true=>rfl
  simp only [A3];rw [G8,s5];cases ((⟨#[71,69,84]⟩:X0).toList == a.toList)
  case true=>rfl
  simp only [A3];rw [G8,s6];cases ((⟨#[68,69,76,69,84,69]⟩:X0).toList == a.toList)
  case true=>rfl
  simp only [A3];rw [G8,s7]
abbrev nUp:X0:=⟨#[47,117,112,47]⟩
theorem D2l(s:X0):A20 s nUp=some (bif decide (4<=s.size)&&((s.extract 0 4).toList == nUp.toList) then (s.extract 4 s.size,true,()) else (s,false,())):=by
  have h4:nUp.size=4:=rfl;simp only [A20,A7A,A0g,A0f,A0e,A0d,h4];by_cases h:4<=s.size
  · rw [A0 (show (s.size:Int)>=((4:Nat):Int) by omega),A0 h]
    simp only [show decide ((0:Int)<=((4:Nat):Int))=true from rfl,A8,bO,D5,K2];cases ((s.extract 0 4).toList == nUp.toList)<;>rfl
  · rw [A1 (show ¬ (s.size:Int)>=((4:Nat):Int) by omega),A1 h]
    rfl
def B5i(s:X0)(i:Nat):Bool:=decide (48<=bt s (i:Int))&&decide (bt s (i:Int)<=57)
def A2c(s:X0):Nat->Nat
  | 0=>0
  | k+1=>A2c s k*10+(bt s (k:Int)-48).toNat
theorem D6u(s:X0):∀ k,A2c s k+25<=25*10 ^ k
  | 0=>by simp [A2c]
  | k+1=>by
    have h1:=D6u s k;have h2:=C52 s (k:Int);rw [A2c,A4g];omega
def D9B(s:X0)(most:Int):Bool:=decide (1<=(s.size:Int)/\(s.size:Int)<=10)&&(List.range s.size).all (B5i s)&&decide ((A2c s s.size:Int)<=most)&&((itB (A2c s s.size:Int)).toList == s.toList)
theorem D44(s:X0)(most:Int)(hm:most<=4294967295):B3k s most=some (bif D9B s most then ((A2c s s.size:Int),true,()) else (0,false,())):=by
  simp only [B3k,C03,R5,bO];unfold D9B;by_cases hr:1<=(s.size:Int)/\(s.size:Int)<=10
  · rw [A0 hr]
    simp only [C3,A3,K2];obtain ⟨i,h1,h2,h3,h4⟩:=A3e (A5o s) (fun i=>((A2c s i:Int),(i:Int),())) s.size (fun i=>if i<s.size then .inr (0,false,()) else .inl ((A2c s s.size:Int),())) (B5i s) (fun i hi=>by
      have h1:(i:Int)<(s.size:Int):=by omega
      have h2:(0:Int)<=(i:Int):=by omega
      have w1:i64.wrap ((i:Int)+1)=((i+1:Nat):Int):=by rw [w64 (by omega) (by omega)];omega
      have b1:=D5K s (i:Int);have b2:=C52 s (i:Int);have hn:=D6u s i;have hp:10 ^ i<=10 ^ 10:=A0S (by omega) (by omega);simp only [A6 hi,A5o,A0 h1,A0 h2,A8,w1];by_cases c1:bt s (i:Int)<48
      · rw [show B5i s i=false by unfold B5i;rw [A1 (show ¬ 48<=bt s (i:Int) by omega)];rfl,A0 c1];rfl
      · rw [A1 c1]
        by_cases c2:bt s (i:Int)>57
        · rw [show B5i s i=false by unfold B5i;rw [A1 (show ¬ bt s (i:Int)<=57 by omega),B5g],A0 c2];rfl
        · rw [show B5i s i=true by unfold B5i;rw [A0 (show 48<=bt s (i:Int) by omega),A0 (show bt s (i:Int)<=57 by omega)];rfl,A1 c2]
          simp only [A3,bSl,M0];have e1:u8.wrap (bt s (i:Int)-48)=bt s (i:Int)-48:=by
            rw [show bt s (i:Int)-48=(((bt s (i:Int)-48).toNat:Nat):Int) by omega];exact D0F (by omega)
          rw [e1,w64 (n:=bt s (i:Int)-48) (by omega) (by omega),w64 (n:=(A2c s i:Int)*10) (by omega) (by omega),w64 (by omega) (by omega),A2c];rw [show (A2c s i:Int)*10+(bt s (i:Int)-48)=((A2c s i*10+(bt s (i:Int)-48).toNat:Nat):Int) by omega]) (by
      have h1:¬ ((s.size:Nat):Int)<(s.size:Int):=by omega
      simp only [A2W,L5,A5o,A1 h1,A3])
    have h4':F4 (A5o s) (0,0,())=some (if i<s.size then .inr (0,false,()) else .inl ((A2c s s.size:Int),())):=h4;rw [h4'];by_cases hi:i<s.size
    · rw [A6 hi]
      have:(List.range s.size).all (B5i s)=false:=by
        rw [A3V];exact ⟨i,O8.2 hi,by simp [h3 hi]⟩
      simp [I2,this]
    · rw [A4 hi]
      have ha:(List.range s.size).all (B5i s)=true:=by
        rw [C4];intro j hj;exact h2 j (by have:=O8.1 hj;omega)
      simp only [bSl,ha,K2];by_cases hq:(A2c s s.size:Int)<=most
      · rw [A1 (show ¬ (A2c s s.size:Int)>most by omega),A0 hq,F06 _ (by omega) (by omega)]
        simp only [A3,bO,K2];cases ((itB (A2c s s.size:Int)).toList == s.toList)<;>rfl
      · rw [A0 (show (A2c s s.size:Int)>most by omega),A1 hq]
        rfl
  · rw [A1 hr]
    rfl
set_option maxRecDepth 100000
theorem D6v{l:List B1}(hl:∀ f∈l,f.1.size<=10000/\f.2.size<=10000)(name:X0):∀ k,k<=l.length->(A16 l name k).size<=10000
  | 0,_=>by simp [A16,ByteArray.size]
  | k+1,h=>by
    have h1:=D6v hl name k (by omega);have e:rd B8 l (k:Int)=l[k]:=A15 (k:=B8) (by omega);unfold A16;split
    · split
      · rw [e];exact (hl _ (F3 _)).2
      · exact h1
    · exact h1
def A8s(op:Int):X0×Int:=if op=1 then (⟨#[117,112,108,111,97,100,45,108,101,110,103,116,104]⟩,1000000000) else if op=3 then (⟨#[117,112,108,111,97,100,45,111,102,102,115,101,116]⟩,1000000000) else if op=4 then (⟨#[117,112,108,111,97,100,45,115,117,109]⟩,4294967295) else (⟨#[]⟩,0)
theorem C97(op:Int):A7n op=some ((A8s op).1,(A8s op).2,()):=by
  simp only [A7n,B2o];unfold A8s;by_cases h1:op=1
  · rw [A0 h1,A6 h1];rfl
  rw [A1 h1,A4 h1];by_cases h3:op=3
  · rw [A0 h3,A6 h3];rfl
  rw [A1 h3,A4 h3];by_cases h4:op=4
  · rw [A0 h4,A6 h4];rfl
  · rw [A1 h4,A4 h4];rfl
theorem E5L(op:Int):(A8s op).2<=4294967295:=by
  unfold A8s;split
  · simp
  · split
    · simp
    · split<;>simp
abbrev noR:B7G:=(0,⟨#[]⟩,0)
def B8U(s:X0):X0×Bool:=bif decide (4<=s.size)&&((s.extract 0 4).toList == nUp.toList) then (s.extract 4 s.size,true) else (s,false)
def A46(l:List B1):B7G×Int:=
  bif D2k l then
    (if opB (A16 l nM l.length)=0 then (noR,2)
     else bif (B8U (A16 l nP l.length)).2&&idB (B8U (A16 l nP l.length)).1 then
      (bif ((A8s (opB (A16 l nM l.length))).1.toList == (⟨#[]⟩:X0).toList) then ((opB (A16 l nM l.length),(B8U (A16 l nP l.length)).1,0),0)
       else bif decide (T9 l (A8s (opB (A16 l nM l.length))).1 l.length=1)&&D9B (A16 l (A8s (opB (A16 l nM l.length))).1 l.length) (A8s (opB (A16 l nM l.length))).2
         then ((opB (A16 l nM l.length),(B8U (A16 l nP l.length)).1,(A2c (A16 l (A8s (opB (A16 l nM l.length))).1 l.length) (A16 l (A8s (opB (A16 l nM l.length))).1 l.length).size:Int)),0) else (noR,4))
     else (noR,3))
  else (noR,1)
theorem E1P(s:X0)(a b:Nat):(s.extract a b).size<=s.size:=by rw [C1f];omega
theorem E8Q(s:X0):(B8U s).1.size<=s.size:=by
  unfold B8U;cases decide (4<=s.size)&&((s.extract 0 4).toList == nUp.toList)
  · exact C1 _
  · exact E1P _ _ _
theorem E1Q(l:List B1)(hl:l.length<=1000)(hn:∀ f∈l,f.1.size<=10000/\f.2.size<=10000):C4H l=some ((A46 l).1,(A46 l).2,()):=by
  have hv:=fun name=>D6v hn name l.length (C1 _)
  have hi:(B8U (A16 l nP l.length)).1.size<=maxLen:=by have:=E8Q (A16 l nP l.length);have:=hv nP;simp only [maxLen];omega
  simp only [C4H,C8t,D9A l (by omega) (fun f hf=>by have:=(hn f hf).1;omega),bO];unfold A46;cases D2k l
  case false=>rfl
  simp only [C3,A3,A8];have v1:=A4V l nM (by omega);have v2:=A4V l nP (by omega);simp only [v1,v2,bO,E5K];by_cases h0:opB (A16 l nM l.length)=0
  · rw [A0 h0,A6 h0];rfl
  rw [A1 h0,A4 h0];simp only [A3];have hc:A20 (A16 l nP l.length) nUp=some ((B8U (A16 l nP l.length)).1,(B8U (A16 l nP l.length)).2,()):=by
    rw [D2l];unfold B8U;cases decide (4<=(A16 l nP l.length).size)&&(((A16 l nP l.length).extract 0 4).toList == nUp.toList)<;>rfl
  rw [hc];simp only [bO,E9s _ hi,C97];cases (B8U (A16 l nP l.length)).2
  case false=>rfl
  cases idB (B8U (A16 l nP l.length)).1
  case false=>rfl
  simp only [C3,A3,bSl,Bool.and_self,A8];cases ((A8s (opB (A16 l nM l.length))).1.toList == (⟨#[]⟩:X0).toList)
  case true=>rfl
  simp only [A3];rw [A4V l _ (by omega)];simp only [bO];rw [D44 _ _ (E5L _)];simp only [bO];by_cases h1:T9 l (A8s (opB (A16 l nM l.length))).1 l.length=1
  · rw [A0 (show (T9 l (A8s (opB (A16 l nM l.length))).1 l.length:Int)=1 by omega),A0 h1]
    simp only [C3,A3,K2];cases D9B (A16 l (A8s (opB (A16 l nM l.length))).1 l.length) (A8s (opB (A16 l nM l.length))).2<;>rfl
  · rw [A1 (show ¬ (T9 l (A8s (opB (A16 l nM l.length))).1 l.length:Int)=1 by omega),A1 h1]
    rfl
noncomputable def stV(st ev:Int):Int×Int:=match A08 st ev with
  | some x=>(x.1,x.2.1)
  | none=>(0,1)
theorem E5M(ev:Int):∃ a b,B3g ev=some (a,b,()):=by
  simp only [B3g,B9v];cases decide (ev=1)<;>cases decide (ev=2)<;>cases decide (ev=6)<;>cases decide (ev=7)<;>exact ⟨_,_,rfl⟩
theorem E5N(ev:Int):∃ a b,B3i ev=some (a,b,()):=by
  simp only [B3i,B9w];cases decide (ev=1)<;>cases decide (ev=2)<;>cases decide (ev=4)<;>cases decide (ev=7)<;>cases decide (ev=9)<;>cases decide (ev=5)<;>cases decide (ev=10)<;>exact ⟨_,_,rfl⟩
theorem E1R(ev:Int):∃ a b,A5J ev=some (a,b,()):=by
  simp only [A5J,A9O];cases decide (ev=5)<;>cases decide (ev=6)<;>cases decide (ev=7)<;>cases decide (ev=8)<;>cases decide (ev=9)<;>cases decide (ev=10)<;>exact ⟨_,_,rfl⟩
theorem E5O(ev:Int):∃ a b,A6J ev=some (a,b,()):=by
  simp only [A6J,B0j];cases decide (ev=1)<;>cases decide (ev=2)<;>cases decide (ev=3)<;>cases decide (ev=4)<;>cases decide (ev=5)<;>cases decide (ev=10)<;>exact ⟨_,_,rfl⟩
end Go.Proofs.YthnfghmjipikhaaGreatDoor.Ev
