/- What the plain functions of the program and of the reference answer: laws of plain data. -/
import Derived.Test.YthnfghmjipikhaaGreatDoorPu
import Derived.Laws.Strings
import Derived.Lib.Split
import Derived.Lib.Atoi
import Derived.Laws.BitsLemmas
import Derived.Lib.ItoaNum
set_option linter.unusedVariables false
set_option linter.unusedSimpArgs false
set_option linter.unusedSectionVars false
namespace Go.Proofs.YthnfghmjipikhaaGreatDoor.Ev
open IntKind (i64 u8 u64 u32)
theorem w64{n:Int}(h0:-9223372036854775808<=n)(h1:n<9223372036854775808):i64.wrap n=n:=by
  simp only [IntKind.wrap,IntKind.bits,IntKind.signed,B0a];simp;split<;>omega
theorem B8F{α β:Type}(f:α->Option (α⊕β))(μ:α->Nat)(I:α->Prop)(Q:β->Prop)
    (h:∀ x,I x->(∃ y,f x=some (.inl y)/\I y/\μ y<μ x)\/∃ z,f x=some (.inr z)/\Q z):∀ x,I x->∃ z,G5 f x=some z/\Q z:=by
  intro x;generalize hn:μ x=n
  induction n using Nat.strongRecOn generalizing x with
  | ind n ih=>
    intro hx;rw [O2];rcases h x hx with ⟨y,e,hy,hl⟩ | ⟨z,e,hz⟩
    · rw [e];exact ih (μ y) (by omega) y rfl hy
    · rw [e];exact ⟨z,rfl,hz⟩
theorem D0b{α β:Type}(f:α->Option (α⊕β))(μ:α->Nat)(I:α->Prop)(z:β)
    (h:∀ x,I x->(∃ y,f x=some (.inl y)/\I y/\μ y<μ x)\/f x=some (.inr z)) (x:α) (hx:I x):G5 f x=some z:=by
  obtain ⟨z',h1,rfl⟩:=B8F f μ I (·=z) (fun x hx=>(h x hx).imp id fun h=>⟨_,h,rfl⟩) x hx;exact h1
theorem I9{α β:Type}(f:α->Option (α⊕β))(s:Nat->α)(n:Nat)(z:β)(h:∀ i,i<n->f (s i)=some (.inl (s (i+1))))(he:f (s n)=some (.inr z)):G5 f (s 0)=some z:=by
  have key:∀ k i,i+k=n->G5 f (s i)=some z:=by
    intro k
    induction k with
    | zero=>intro i hi;rw [O2,show i=n by omega,he]
    | succ k ih=>intro i hi;rw [O2,h i (by omega)];exact ih (i+1) (by omega)
  exact key n 0 (by omega)
theorem B6O{α β:Type}(f:α->Option (α⊕β))(s:Nat->α)(n:Nat)(z:Nat->β)(go:Nat->Bool)(h:∀ i,i<n->f (s i)=if go i then some (.inl (s (i+1))) else some (.inr (z i)))(he:f (s n)=some (.inr (z n))) :
    ∃ i,i<=n/\(∀ j,j<i->go j=true)/\(i<n->go i=false)/\G5 f (s 0)=some (z i):=by
  have key:∀ k i,i+k=n->(∀ j,j<i->go j=true)->∃ i',i'<=n/\(∀ j,j<i'->go j=true)/\(i'<n->go i' = false)/\G5 f (s i)=some (z i'):=by
    intro k
    induction k with
    | zero=>
      intro i hi hg;obtain rfl:i=n:=by omega
      exact ⟨i,C5 _,hg,fun h=>absurd h (by omega),by rw [O2,he]⟩
    | succ k ih=>
      intro i hi hg;cases hgo:go i with
      | true=>
        obtain ⟨i',h1,h2,h3,h4⟩:=ih (i+1) (by omega) (fun j hj=>by
          by_cases h:j<i
          · exact hg j h
          · rw [show j=i by omega];exact hgo)
        refine ⟨i',h1,h2,h3,?_⟩;rw [O2,h i (by omega),F9 hgo];exact h4
      | false=>
        refine ⟨i,by omega,hg,fun _=>hgo,?_⟩;rw [O2,h i (by omega),hgo];rfl
  exact key n 0 (by omega) (fun j hj=>by omega)
theorem C9P(s:X0)(i:Int):0<=bt s i:=by unfold bt;omega
theorem C16(s:X0)(i:Int):bt s i<256:=by
  have:=(s.data.toList.getD i.toNat 0).toNat_lt;unfold bt;omega
theorem A0S{k:K}{xs:List k.T}{i:Nat}(h:i<xs.length):rd k xs (i:Int)=xs[i]:=by
  unfold rd;rw [E2];simp [List.getD,h]
theorem C7d{U:IntKind}{xs:List Int}{i:Nat}(h:i<xs.length):rd (.int U) xs (i:Int)=xs[i]:=A0S (k:=.int U) h
theorem D5j{U:IntKind}{n:Int}(h:Wf (.int U) n):U.min<=n/\n<=U.max:=by
  simp only [Wf,Lit.wf,B4,K2] at h;exact h
theorem wf_u8{n:Int}(h:Wf (.int .u8) n):0<=n/\n<256:=by
  have:=D5j h;simp only [IntKind.min,IntKind.max,IntKind.signed,IntKind.bits] at this;simp at this;omega
def Byt(a:List Int):Prop:=∀ x∈a,0<=x/\x<256
theorem byt_wf{a:List Int}(h:∀ x∈a,Wf (.int .u8) x):Byt a:=fun x hx=>wf_u8 (h x hx)
theorem pe{α β:Type}(p:α×β):(p.1,p.2)=p:=rfl
theorem A0{p:Prop} [Decidable p] (h:p):decide p=true:=A0j h
theorem A9{p:Prop} [Decidable p] (h:¬ p):decide p=false:=T2 h
def Sm(N:Nat):(k:K)->k.T->Prop
  | .int _,_=>True
  | .bool,_=>True
  | .fnc _,_=>True
  | .str,s=>s.size<=N
  | .sl _ k,xs=>xs.length<=N/\∀ x∈xs,Sm N k x
  | .rs _ k,xs=>xs.length<=N/\∀ x∈xs,Sm N k x
  | .pa _ _,_=>True
  | .pair a b,x=>Sm N a x.1/\Sm N b x.2
theorem sm_wf:∀ {k:K} {x:k.T},Wf k x->Sm maxLen k x
  | .int _,_,_=>trivial
  | .bool,_,_=>trivial
  | .fnc _,_,_=>trivial
  | .str,_,h=>h
  | .sl _ _,_,h=>⟨h.1,fun x hx=>sm_wf (h.2 x hx)⟩
  | .rs _ _,_,h=>⟨h.1,fun x hx=>sm_wf (h.2 x hx)⟩
  | .pa _ _,_,_=>trivial
  | .pair _ _,_,h=>⟨sm_wf h.1,sm_wf h.2⟩
theorem Sm.l{N:Nat}{a b:K}{x:(K.pair a b).T}(h:Sm N (.pair a b) x):Sm N a x.1:=h.1
theorem Sm.r{N:Nat}{a b:K}{x:(K.pair a b).T}(h:Sm N (.pair a b) x):Sm N b x.2:=h.2
theorem Sm.len{N e:Nat}{k:K}{xs:(K.sl e k).T}(h:Sm N (.sl e k) xs):List.length xs<=N:=h.1
theorem Sm.el{N e:Nat}{k:K}{xs:(K.sl e k).T}(h:Sm N (.sl e k) xs):∀ x,x∈(show List k.T from xs)->Sm N k x:=h.2
def C17(P:Int->Option (Int×Unit))(S:Prop):Prop:=∀ l:Int,0<=l->l<=1048576->∃ r,P l=some (r,())/\r<=l/\(0<=r->S)
theorem C9Q{T:Type}(f:T->Int->Option (Int×Unit))(S:T->Prop)(L:Int×Int×Unit->Option ((Int×Int×Unit)⊕(Int×Unit)))(a:List T)(hn:a.length<=maxLen)(hf:∀ x∈a,C17 (f x) (S x))
    (hs:∀ (i:Nat) (hi:i<a.length) (l:Int),L (l,(i:Int),())=A7 (f a[i] l) fun c=>bif decide (c.1<0) then some (.inr (-1,())) else some (.inl (c.1,i64.wrap ((i:Int)+1),())))
    (he:∀ l,L (l,(a.length:Int),())=some (.inr (l,()))):C17 (fun l=>G5 L (l,0,())) (∀ x∈a,S x):=by
  have key:∀ k i,i+k=a.length->∀ l:Int,0<=l->l<=1048576->∃ r,G5 L (l,(i:Int),())=some (r,())/\r<=l/\(0<=r->∀ j (hj:j<a.length),i<=j->S a[j]):=by
    intro k
    induction k with
    | zero=>
      intro i hi l h0 h1;obtain rfl:i=a.length:=by omega
      exact ⟨l,by rw [O2,he],A3m _,fun _ j hj hi=>by omega⟩
    | succ k ih=>
      intro i hi l h0 h1;have hlt:i<a.length:=by omega
      obtain ⟨r,e,h2,h3⟩:=hf a[i] (J2 hlt) l h0 h1;rw [O2,hs i hlt,e];simp only [A7];by_cases hr:r<0
      · rw [A0 hr]
        exact ⟨-1,rfl,by omega,fun h=>by omega⟩
      · rw [A9 hr]
        simp only [B1];rw [w64 (by omega) (by simp only [maxLen] at hn;omega)];obtain ⟨r',e',h4,h5⟩:=ih (i+1) (by omega) r (by omega) (by omega);refine ⟨r',by simpa using e',by omega,fun h j hj hij=>?_⟩;by_cases hji:j=i
        · subst hji;exact h3 (by omega)
        · exact h5 h j hj (by omega)
  intro l h0 h1;obtain ⟨r,e,h2,h3⟩:=key a.length 0 (by omega) l h0 h1;refine ⟨r,by simpa using e,h2,fun h x hx=>?_⟩;obtain ⟨j,hj,rfl⟩:=List.getElem_of_mem hx;exact h3 h j hj (by omega)
theorem C9R(L:Int×Unit->Option ((Int×Unit)⊕(Bool×Unit)))(n:Nat)(hn:n<=maxLen)(hs:∀ i:Nat,i<n->L ((i:Int),())=some (.inl (i64.wrap ((i:Int)+1),())))
    (he:L ((n:Int),())=some (.inr (true,()))):G5 L (0,())=some (true,()):=by
  refine I9 L (fun i=>((i:Int),())) n (true,()) (fun i hi=>?_) he;rw [hs i hi,w64 (by omega) (by simp only [maxLen] at hn;omega)];rfl
theorem C9S{T:Type}(L:Int×List T×Unit->Option ((Int×List T×Unit)⊕(List T×Unit)))(a:List T)(z:T)(hn:a.length<=maxLen)
    (hs:∀ (i:Nat) (hi:i<a.length) (b:List T),b.length=a.length->L ((i:Int),b,())=some (.inl (i64.wrap ((i:Int)+1),b.set i a[i],())))
    (he:∀ b,L ((a.length:Int),b,())=some (.inr (b,()))):G5 L (0,List.replicate a.length z,())=some (a,()):=by
  have key:=I9 L (fun i=>((i:Int),a.take i++List.replicate (a.length-i) z,())) a.length (a,()) (fun i hi=>?_) ?_
  · simpa using key
  · have hl:(a.take i++List.replicate (a.length-i) z).length=a.length:=by simp;omega
    rw [hs i hi _ hl,w64 (by omega) (by simp only [maxLen] at hn;omega)];have:(a.take i++List.replicate (a.length-i) z).set i a[i]=a.take (i+1)++List.replicate (a.length-(i+1)) z:=by
      rw [List.set_append_right _ _ (by simp;omega)];rw [L2 hi,A8]
      congr 1
      rw [show (a.take i).length=i by simp;omega,Nat.sub_self,show a.length-i=(a.length-(i+1))+1 by omega,W5];rfl
    rw [this];rfl
  · rw [he]
    simp
def A2d(go:Nat->Bool):Nat->Nat->Nat
  | i,0=>i
  | i,k+1=>if go i then A2d go (i+1) k else i
theorem B4H{α β:Type}(f:α->Option (α⊕β))(s:Nat->α)(n:Nat)(z:Nat->β)(go:Nat->Bool)(h:∀ i,i<n->f (s i)=if go i then some (.inl (s (i+1))) else some (.inr (z i)))(he:f (s n)=some (.inr (z n))) :
    G5 f (s 0)=some (z (A2d go 0 n)):=by
  have key:∀ k i,i+k=n->G5 f (s i)=some (z (A2d go i k)):=by
    intro k
    induction k with
    | zero=>
      intro i hi;obtain rfl:i=n:=by omega
      rw [O2,he];rfl
    | succ k ih=>
      intro i hi;rw [O2,h i (by omega)];simp only [A2d];cases go i with
      | true=>simp only [Q5];exact ih (i+1) (by omega)
      | false=>rfl
  exact key n 0 (by omega)
theorem B7V(a:List Int)(h:a.length<=maxLen):A0K a a=some (true,()):=by
  simp only [A0K,B42];simp only [A1r,G9,B1];refine I9 (A5n a a) (fun i=>((i:Int),())) a.length (true,()) (fun i hi=>?_) ?_
  · have h1:((i:Int)<(a.length:Int)):=by omega
    have h2:(0:Int)<=(i:Int):=by omega
    simp only [A5n,A0 h1,A0 h2,B7,A1r,G9,B1];rw [w64 (by omega) (by simp only [maxLen] at h;omega)];rfl
  · simp [A5n]
theorem C7e(a:List Int)(h:a.length<=281474976710656):A1d a=some (a,()):=by
  simp only [A1d,B4D];have h1:(0:Int)<=(a.length:Int):=by omega
  rw [A0 h1,E2,A0 (show a.length<=9223372036854775807 by omega),A0 (show 1*a.length<=281474976710656 by omega)];simp only [B7];have key:=I9 (A5w a) (fun i=>((i:Int),a.take i++List.replicate (a.length-i) 0,())) a.length (a,()) (fun i hi=>?_) ?_
  · simpa using key
  · have h1:((i:Int)<(a.length:Int)):=by omega
    have h2:(0:Int)<=(i:Int):=by omega
    have hl:(a.take i++List.replicate (a.length-i) (0:Int)).length=a.length:=by simp;omega
    simp only [A5w,hl,A0 h1,A0 h2,B7];rw [w64 (by omega) (by omega),E2,A0S hi];have:(a.take i++List.replicate (a.length-i) (0:Int)).set i a[i]=a.take (i+1)++List.replicate (a.length-(i+1)) 0:=by
      rw [List.set_append_right _ _ (by simp;omega)];rw [L2 hi,A8]
      congr 1
      rw [show (a.take i).length=i by simp;omega,Nat.sub_self,show a.length-i=(a.length-(i+1))+1 by omega,W5];rfl
    rw [this];rfl
  · simp [A5w]
abbrev D2s:=X0×List Int×Int×Int
theorem C7f(a:List Int)(l:Int)(h0:l<=1048576)(h1:0<=l)(h:a.length<=maxLen):A1b a l=some (if (a.length:Int)<=l then (l-a.length:Int) else -1,()):=by
  simp only [A1b,B45,maxLen] at *
  rw [w64 (by omega) (by omega)];split
  · rw [A9 (by omega)];rfl
  · rw [A0 (by omega)];rfl
def marked(m:Int)(n:Nat):List Int:=(List.range n).map fun j=>u8.wrap (m+(j:Nat))
theorem C44(a:List Int)(m:Int)(h0:0<=m)(h:m+a.length<9223372036854775808):S4 a m=some (m+a.length,marked m a.length,()):=by
  simp only [S4,B04];have key:=I9 A35 (fun i=>(m+(i:Int),(i:Int),marked m i++a.drop i,())) a.length (m+a.length,marked m a.length,()) (fun i hi=>?_) ?_
  · simpa [marked] using key
  · have h1:((i:Int)<(a.length:Int)):=by omega
    have h2:(0:Int)<=(i:Int):=by omega
    have hl:(marked m i++a.drop i).length=a.length:=by simp [marked];omega
    simp only [A35,hl,A0 h1,A0 h2,B7];rw [w64 (by omega) (by omega),w64 (by omega) (by omega),E2];have:(marked m i++a.drop i).set i (u8.wrap (m+(i:Int)))=marked m (i+1)++a.drop (i+1):=by
      rw [List.set_append_right _ _ (by simp [marked])];rw [show (marked m i).length=i by simp [marked],Nat.sub_self,I3 hi,List.set_cons_zero];simp [marked,List.range_succ]
    rw [this];simp only [Int.natCast_add,Int.natCast_one,Int.add_assoc]
  · simp [A35,marked]
theorem C45(n:Nat)(m:Int)(h0:0<=m)(h:m+n<9223372036854775808):S5 (marked m n) m=some (m+n,()):=by
  simp only [S5,B05];have hl:(marked m n).length=n:=by simp [marked]
  have key:=I9 (A36 (marked m n)) (fun i=>(m+(i:Int),(i:Int),())) n (m+n,()) (fun i hi=>?_) ?_
  · simpa [marked] using key
  · have h1:((i:Int)<(n:Int)):=by omega
    have h2:(0:Int)<=(i:Int):=by omega
    simp only [A36,hl,A0 h1,A0 h2,B7];have hr:rd (.int .u8) (marked m n) (i:Int)=u8.wrap (m+(i:Int)):=by
      rw [A0S (by rw [hl];exact hi)];simp [marked]
    rw [hr,w64 (by omega) (by omega),w64 (by omega) (by omega)];simp only [A1r,G9,B1,Int.natCast_add,Int.natCast_one,Int.add_assoc]
  · simp [A36,hl]
theorem B6P(a:List Int)(h:Sm maxLen (.sl 0 (.int .u8)) a):C17 (A1b a) (Sm 1048576 (.sl 0 (.int .u8)) a):=by
  intro l h0 h1;refine ⟨_,C7f a l h1 h0 h.1,?_,fun hr=>⟨?_,fun x _=>trivial⟩⟩
  · split<;>omega
  · split at hr<;>omega
theorem B6Q(a:List Int)(h:Sm 1048576 (.sl 0 (.int .u8)) a):A1d a=some (a,()):=C7e a (by have:=h.1;omega)
theorem B6R(a:List Int)(h:Sm maxLen (.sl 0 (.int .u8)) a):A0K a a=some (true,()):=B7V a h.1
theorem D2t(a:B88)(h:Sm maxLen A1w a):C17 (B58 a) (Sm 1048576 A1w a):=by
  intro l h0 h1;simp only [B58,B89];have z1:a.2.1.size<=9223372036854775807:=(Sm.l (Sm.r h));rw [w64 (n:=l-(a.2.1.size:Int)) (by omega) (by omega)];by_cases n1:l-(a.2.1.size:Int)<0
  · rw [A0 n1];exact ⟨-1,rfl,by omega,fun h=>by omega⟩
  rw [A9 n1];simp only [B1];exact ⟨_,rfl,by omega,fun _=>⟨by simp [Sm],⟨by show a.2.1.size<=1048576;omega,by simp [Sm]⟩⟩⟩
theorem C5W(a:L4)(h:Sm maxLen A1S a):C17 (A7F a) (Sm 1048576 A1S a):=by
  intro l h0 h1;simp only [A7F,B1a];obtain ⟨r1,e1,u1,v1⟩:=B6P a.2.2 (Sm.r (Sm.r h)) l (by omega) (by omega);rw [e1];simp only [A7];by_cases n1:r1<0
  · rw [A0 n1];exact ⟨-1,rfl,by omega,fun h=>by omega⟩
  rw [A9 n1];simp only [B1];exact ⟨_,rfl,by omega,fun _=>⟨by simp [Sm],⟨by simp [Sm],v1 (by omega)⟩⟩⟩
theorem C7g(a:B9)(h:Sm maxLen B6 a):C17 (A3d a) (Sm 1048576 B6 a):=by
  intro l h0 h1;simp only [A3d,B43];have z1:a.1.size<=9223372036854775807:=(Sm.l h);rw [w64 (n:=l-(a.1.size:Int)) (by omega) (by omega)];by_cases n1:l-(a.1.size:Int)<0
  · rw [A0 n1];exact ⟨-1,rfl,by omega,fun h=>by omega⟩
  rw [A9 n1];simp only [B1];have z2:a.2.size<=9223372036854775807:=(Sm.r h);rw [w64 (n:=(l-(a.1.size:Int))-(a.2.size:Int)) (by omega) (by omega)];by_cases n2:(l-(a.1.size:Int))-(a.2.size:Int)<0
  · rw [A0 n2];exact ⟨-1,rfl,by omega,fun h=>by omega⟩
  rw [A9 n2];simp only [B1];exact ⟨_,rfl,by omega,fun _=>⟨by show a.1.size<=1048576;omega,by show a.2.size<=1048576;omega⟩⟩
theorem C5a(a:List B9)(h:Sm maxLen (.sl 161 B6) a):C17 (A7D a) (Sm 1048576 (.sl 161 B6) a):=by
  have hl:a.length<=9223372036854775807:=h.1;intro l h0 h1;simp only [A7D,B1W];rw [w64 (by omega) (by omega)];by_cases hn:l-(a.length:Int)<0
  · rw [A0 hn];exact ⟨-1,rfl,by omega,fun h=>by omega⟩
  rw [A9 hn];simp only [B1];obtain ⟨r,e,h2,h3⟩:=C9Q A3d (fun x=>Sm 1048576 B6 x) (A44 A3d a) a h.1 (fun x hx=>C7g x (h.2 x hx)) (by
    intro i hi l;have g1:((i:Int)<(a.length:Int)):=by omega
    have g2:(0:Int)<=(i:Int):=by omega
    simp only [A44,A0 g1,A0 g2,B7];rw [A0S (k:=B6) (xs:=a) hi]
    ) (fun l=>by simp [A44]) (l-(a.length:Int)) (by omega) (by omega)
  exact ⟨r,e,by omega,fun h=>⟨by omega,h3 h⟩⟩
theorem C18(a:F0)(h:Sm maxLen B7I a):C17 (A9K a) (Sm 1048576 B7I a):=by
  intro l h0 h1;simp only [A9K,B44];obtain ⟨r1,e1,u1,v1⟩:=C5a a.2 (Sm.r h) l (by omega) (by omega);rw [e1];simp only [A7];by_cases n1:r1<0
  · rw [A0 n1];exact ⟨-1,rfl,by omega,fun h=>by omega⟩
  rw [A9 n1];simp only [B1];exact ⟨_,rfl,by omega,fun _=>⟨by simp [Sm],v1 (by omega)⟩⟩
theorem D2u(a:R5)(h:Sm maxLen F6 a):C17 (A81 a) (Sm 1048576 F6 a):=by
  intro l h0 h1;simp only [A81,B8A];obtain ⟨r1,e1,u1,v1⟩:=D2t a.2.2.1 (Sm.l (Sm.r (Sm.r h))) l (by omega) (by omega);rw [e1];simp only [A7];by_cases n1:r1<0
  · rw [A0 n1];exact ⟨-1,rfl,by omega,fun h=>by omega⟩
  rw [A9 n1];simp only [B1];obtain ⟨r2,e2,u2,v2⟩:=B6P a.2.2.2 (Sm.r (Sm.r (Sm.r h))) r1 (by omega) (by omega);rw [e2];simp only [A7];by_cases n2:r2<0
  · rw [A0 n2];exact ⟨-1,rfl,by omega,fun h=>by omega⟩
  rw [A9 n2];simp only [B1];exact ⟨_,rfl,by omega,fun _=>⟨by simp [Sm],⟨by simp [Sm],⟨v1 (by omega),v2 (by omega)⟩⟩⟩⟩
theorem D0c(a:List R5)(h:Sm maxLen (.sl 180 F6) a):C17 (B1c a) (Sm 1048576 (.sl 180 F6) a):=by
  have hl:a.length<=9223372036854775807:=h.1;intro l h0 h1;simp only [B1c,B64];rw [w64 (by omega) (by omega)];by_cases hn:l-(a.length:Int)<0
  · rw [A0 hn];exact ⟨-1,rfl,by omega,fun h=>by omega⟩
  rw [A9 hn];simp only [B1];obtain ⟨r,e,h2,h3⟩:=C9Q A81 (fun x=>Sm 1048576 F6 x) (A7G A81 a) a h.1 (fun x hx=>D2u x (h.2 x hx)) (by
    intro i hi l;have g1:((i:Int)<(a.length:Int)):=by omega
    have g2:(0:Int)<=(i:Int):=by omega
    simp only [A7G,A0 g1,A0 g2,B7];rw [A0S (k:=F6) (xs:=a) hi]
    ) (fun l=>by simp [A7G]) (l-(a.length:Int)) (by omega) (by omega)
  exact ⟨r,e,by omega,fun h=>⟨by omega,h3 h⟩⟩
theorem D0d(a:I4)(h:Sm maxLen C0o a):C17 (A8E a) (Sm 1048576 C0o a):=by
  intro l h0 h1;simp only [A8E,B65];obtain ⟨r1,e1,u1,v1⟩:=B6P a.2.1 (Sm.l (Sm.r h)) l (by omega) (by omega);rw [e1];simp only [A7];by_cases n1:r1<0
  · rw [A0 n1];exact ⟨-1,rfl,by omega,fun h=>by omega⟩
  rw [A9 n1];simp only [B1];obtain ⟨r2,e2,u2,v2⟩:=C5W a.2.2.1 (Sm.l (Sm.r (Sm.r h))) r1 (by omega) (by omega);rw [e2];simp only [A7];by_cases n2:r2<0
  · rw [A0 n2];exact ⟨-1,rfl,by omega,fun h=>by omega⟩
  rw [A9 n2];simp only [B1];obtain ⟨r3,e3,u3,v3⟩:=C18 a.2.2.2.1 (Sm.l (Sm.r (Sm.r (Sm.r h)))) r2 (by omega) (by omega);rw [e3];simp only [A7];by_cases n3:r3<0
  · rw [A0 n3];exact ⟨-1,rfl,by omega,fun h=>by omega⟩
  rw [A9 n3];simp only [B1];obtain ⟨r4,e4,u4,v4⟩:=C18 a.2.2.2.2.1 (Sm.l (Sm.r (Sm.r (Sm.r (Sm.r h))))) r3 (by omega) (by omega);rw [e4];simp only [A7];by_cases n4:r4<0
  · rw [A0 n4];exact ⟨-1,rfl,by omega,fun h=>by omega⟩
  rw [A9 n4];simp only [B1];obtain ⟨r5,e5,u5,v5⟩:=D0c a.2.2.2.2.2.1 (Sm.l (Sm.r (Sm.r (Sm.r (Sm.r (Sm.r h)))))) r4 (by omega) (by omega);rw [e5];simp only [A7];by_cases n5:r5<0
  · rw [A0 n5];exact ⟨-1,rfl,by omega,fun h=>by omega⟩
  rw [A9 n5];simp only [B1];exact ⟨_,rfl,by omega,fun _=>⟨by simp [Sm],⟨v1 (by omega),⟨v2 (by omega),⟨v3 (by omega),⟨v4 (by omega),⟨v5 (by omega),⟨by simp [Sm],by simp [Sm]⟩⟩⟩⟩⟩⟩⟩⟩
theorem D2v(a:B88)(h:Sm 1048576 A1w a):B5C a=some (a,()):=by
  simp only [B5C,B8B,A7]
theorem C5b(a:L4)(h:Sm 1048576 A1S a):A7M a=some (a,()):=by
  simp only [A7M,B1u,A7,B6Q a.2.2 (Sm.r (Sm.r h))]
theorem C7h(a:B9)(h:Sm 1048576 B6 a):A9V a=some (a,()):=by
  simp only [A9V,B4B,A7]
theorem C5c(a:List B9)(h:Sm 1048576 (.sl 161 B6) a):A7K a=some (a,()):=by
  have hl:a.length<=1048576:=h.1;simp only [A7K,B1t];rw [A0 (show (0:Int)<=(a.length:Int) by omega),E2,A0 (by omega),A0 (by omega)];simp only [B7];refine C9S _ a _ (by simp only [maxLen];omega) (fun i hi b hb=>?_) (fun b=>by simp [A8I]);have h1:((i:Int)<(a.length:Int)):=by omega
  have h2:(0:Int)<=(i:Int):=by omega
  simp only [A8I,hb,A0 h1,A0 h2,B7];rw [A0S (k:=B6) (xs:=a) hi];rw [C7h _ (h.2 _ (J2 hi))];rfl
theorem C19(a:F0)(h:Sm 1048576 B7I a):A9a a=some (a,()):=by
  simp only [A9a,B4C,A7,C5c a.2 (Sm.r h)]
theorem D2w(a:R5)(h:Sm 1048576 F6 a):B5D a=some (a,()):=by
  simp only [B5D,B8C,A7,D2v a.2.2.1 (Sm.l (Sm.r (Sm.r h))),B6Q a.2.2.2 (Sm.r (Sm.r (Sm.r h)))]
theorem D0e(a:List R5)(h:Sm 1048576 (.sl 180 F6) a):B20 a=some (a,()):=by
  have hl:a.length<=1048576:=h.1;simp only [B20,B6E];rw [A0 (show (0:Int)<=(a.length:Int) by omega),E2,A0 (by omega),A0 (by omega)];simp only [B7];refine C9S _ a _ (by simp only [maxLen];omega) (fun i hi b hb=>?_) (fun b=>by simp [B1v]);have h1:((i:Int)<(a.length:Int)):=by omega
  have h2:(0:Int)<=(i:Int):=by omega
  simp only [B1v,hb,A0 h1,A0 h2,B7];rw [A0S (k:=F6) (xs:=a) hi];rw [D2w _ (h.2 _ (J2 hi))];rfl
theorem D0f(a:I4)(h:Sm 1048576 C0o a):A8J a=some (a,()):=by
  simp only [A8J,B6F,A7,B6Q a.2.1 (Sm.l (Sm.r h)),C5b a.2.2.1 (Sm.l (Sm.r (Sm.r h))),C19 a.2.2.2.1 (Sm.l (Sm.r (Sm.r (Sm.r h)))),C19 a.2.2.2.2.1 (Sm.l (Sm.r (Sm.r (Sm.r (Sm.r h))))),D0e a.2.2.2.2.2.1 (Sm.l (Sm.r (Sm.r (Sm.r (Sm.r (Sm.r h))))))]
theorem D30(a:B88)(h:Sm maxLen A1w a):B5F a a=some (true,()):=by
  simp [B5F,B8D,A7]
theorem C2E(a:L4)(h:Sm maxLen A1S a):A7W a a=some (true,()):=by
  simp [A7W,B2M,A7,B6R a.2.2 (Sm.r (Sm.r h))]
theorem C46(a:B9)(h:Sm maxLen B6 a):A9e a a=some (true,()):=by
  simp [A9e,B4F,A7]
theorem C2F(a:List B9)(h:Sm maxLen (.sl 150 B6) a):A7U a a=some (true,()):=by
  simp only [A7U,B2L,A1r,G9,B1];refine C9R _ a.length h.1 (fun i hi=>?_) (by simp [A8Q]);have h1:((i:Int)<(a.length:Int)):=by omega
  have h2:(0:Int)<=(i:Int):=by omega
  simp only [A8Q,A0 h1,A0 h2,B7];rw [A0S (k:=B6) (xs:=a) hi,C46 _ (h.2 _ (J2 hi))];rfl
theorem B7W(a:F0)(h:Sm maxLen A40 a):A9g a a=some (true,()):=by
  simp [A9g,B4G,A7,C2F a.2 (Sm.r h)]
theorem C7i(a:R5)(h:Sm maxLen F6 a):B5G a a=some (true,()):=by
  simp [B5G,B8E,A7,D30 a.2.2.1 (Sm.l (Sm.r (Sm.r h))),B6R a.2.2.2 (Sm.r (Sm.r (Sm.r h)))]
theorem C5d(a:List R5)(h:Sm maxLen (.sl 113 F6) a):B2P a a=some (true,()):=by
  simp only [B2P,B6M,A1r,G9,B1];refine C9R _ a.length h.1 (fun i hi=>?_) (by simp [B2N]);have h1:((i:Int)<(a.length:Int)):=by omega
  have h2:(0:Int)<=(i:Int):=by omega
  simp only [B2N,A0 h1,A0 h2,B7];rw [A0S (k:=F6) (xs:=a) hi,C7i _ (h.2 _ (J2 hi))];rfl
theorem B99(a:I4)(h:Sm maxLen A8C a):A8R a a=some (true,()):=by
  simp [A8R,B6N,A7,B6R a.2.1 (Sm.l (Sm.r h)),C2E a.2.2.1 (Sm.l (Sm.r (Sm.r h))),B7W a.2.2.2.1 (Sm.l (Sm.r (Sm.r (Sm.r h)))),B7W a.2.2.2.2.1 (Sm.l (Sm.r (Sm.r (Sm.r (Sm.r h))))),C5d a.2.2.2.2.2.1 (Sm.l (Sm.r (Sm.r (Sm.r (Sm.r (Sm.r h))))))]
theorem A11(a b c:Int):A05 a b c=some (decide (b<=a/\a<=c),()):=by
  simp only [A05,C0p];by_cases h:b<=a<;>by_cases h2:a<=c<;>simp [h,h2]
theorem A8c(a b c:Int):W9 a b c=some (decide (b<=a/\a<=c),()):=A11 a b c
theorem D31{R:Type}(a:Option R):eqO a a=a:=by
  unfold eqO;rw [F9 rfl]
theorem C2G(a:List Int)(h:a.length<=140737488355328):H7 a=some (a,()):=by
  simp only [H7,U2];have e:(bif decide (([]:List Int).length+a.length<=9223372036854775807) then bif decide ((([]:List Int).length+a.length)*1<=140737488355328) then some (([]++a),()) else none else none)=some (a,()):=by
    rw [A0 (by simp;omega),A0 (by simp;omega)];simp
  rw [e];cases a with
  | nil=>simp [D31]
  | cons x xs=>simp
def D32(n:Int)(k j:Nat):Int:=u8.wrap (n.fdiv (2 ^ (8*(k-1-j))))
def big(n:Int)(k:Nat):List Int:=(List.range k).map (D32 n k)
theorem B7a(n:Int)(k:Nat):(big n k).length=k:=by simp [big]
theorem D6o{n:Int}(h0:0<=n)(h1:n<18446744073709551616):u64.wrap n=n:=by
  simp only [IntKind.wrap,IntKind.bits,IntKind.signed];simp;omega
theorem C9T(v:Int)(b:List Int)(k:Nat)(hk:k<=8)(hb:b.length+8<=140737488355328):G5 (A10 (v,())) ((k:Int)-1,b,())=some (b++big v k,()):=by
  have key:=I9 (A10 (v,())) (fun j=>((k:Int)-1-(j:Int),b++(List.range j).map (D32 v k),())) k (b++big v k,()) (fun j hj=>?_) ?_
  · simpa using key
  · have h1:(k:Int)-1-(j:Int)>=0:=by omega
    have e1:(k:Int)-1-(j:Int)=((k-1-j:Nat):Int):=by omega
    have hs:u64.wrap (i64.wrap (8*((k:Int)-1-(j:Int))))=((8*(k-1-j):Nat):Int):=by
      rw [w64 (by omega) (by omega),D6o (by omega) (by omega)];omega
    have hm:min (8*(k-1-j)) i64.bits=8*(k-1-j):=T3 (by simp only [IntKind.bits];omega);simp only [A10,A0 h1,B7,hs,E2,hm];rw [A9 (by omega)];simp only [B1];have hl:(b++(List.range j).map (D32 v k)).length=b.length+j:=by simp
    rw [A0 (by rw [hl];simp;omega),A0 (by rw [hl];simp;omega)];simp only [B7];rw [w64 (by omega) (by omega),List.range_succ,A74,A8];have e2:(k:Int)-1-(j:Int)-1=(k:Int)-1-((j+1:Nat):Int):=by omega
    rw [e2];rfl
  · have h1:¬ ((k:Int)-1-(k:Int)>=0):=by omega
    simp only [A10,A9 h1,B1];rfl
def A9h(n:Int):Int:=if n<0 then 0 else n
theorem B9A(b:List Int)(n:Int)(k:Nat)(h1:1<=k)(hk:k<=8)(hb:b.length+8<=140737488355328):B1n b n (k:Int)=some (b++big (A9h n) k,()):=by
  simp only [B1n,B6A];rw [A0 (by simp;omega),A0 (by simp;omega)];have e:(bif decide (n<0) then some ((0:Int),()) else some (n,()))=some (A9h n,()):=by
    unfold A9h;by_cases h:n<0<;>simp [h]
  simp only [B7,e,A7,A11];rw [A0 (by omega)];simp only [G9,B1,F5];rw [w64 (by omega) (by omega)];exact C9T _ b k hk hb
theorem B9B(b:List Int)(n:Int)(k:Nat)(hk:k<=8)(hb:b.length+8<=140737488355328):B2G b n (k:Int)=some (b++big (A9h n) k,()):=by
  simp only [B2G,B6K];have e:B2E n=A10 (A9h n,()):=by
    funext l
    have:(bif decide (0>n) then (0:Int) else n)=A9h n:=by
      unfold A9h;by_cases h:n<0<;>simp [h]
    simp only [B2E,A10,this]
  rw [e,w64 (by omega) (by omega)];exact C9T _ b k hk hb
abbrev Frame:=Int×Int×Int×List Int
def U8(f:Frame):Bool:=decide (0<=f.1/\f.1<=255)&&decide (0<=f.2.1/\f.2.1<=255)&&decide (0<=f.2.2.1/\f.2.2.1<=2147483647)&&decide ((f.2.2.2.length:Int)<=1000)
theorem C47(f:Frame):A9R f=some (U8 f,()):=by
  simp only [A9R,B49,A11,A7,U8];cases decide (0<=f.1/\f.1<=255)<;>cases decide (0<=f.2.1/\f.2.1<=255)<;>cases decide (0<=f.2.2.1/\f.2.2.1<=2147483647)<;>simp
def B6S(f:Frame):List Int:=big (f.2.2.2.length:Int) 3 ++ [u8.wrap f.1,u8.wrap f.2.1]++big (A9h f.2.2.1) 4++f.2.2.2
theorem C2H(b:List Int)(f:Frame)(h:b.length+f.2.2.2.length+24<=140737488355328):A4H b f=some (b++B6S f,()):=by
  simp only [A4H,B2H];rw [show (3:Int)=((3:Nat):Int) from rfl,B9B b _ 3 (by omega) (by omega)];have hc:A9h (f.2.2.2.length:Int)=(f.2.2.2.length:Int):=by unfold A9h;rw [D8 (by omega)]
  simp only [A7,hc];have hl:=B7a (f.2.2.2.length:Int) 3;rw [A0 (by simp [hl];omega),A0 (by simp [hl];omega)];simp only [B7];rw [show (4:Int)=((4:Nat):Int) from rfl,B9B _ _ 4 (by omega) (by simp [hl];omega)];simp only [A7];have hl4:=B7a (A9h f.2.2.1) 4;rw [A0 (by simp [hl,hl4];omega),A0 (by simp [hl,hl4];omega)];simp [B6S]
theorem C2I(f:Frame)(h:f.2.2.2.length+24<=140737488355328):A4A f=some (if U8 f then B6S f else [],()):=by
  simp only [A4A,B1o,pe,C47,A7];cases U8 f with
  | false=>rfl
  | true=>
    simp only [G9,B1];rw [show (3:Int)=((3:Nat):Int) from rfl,B9A [] _ 3 (by omega) (by omega) (by simp)];have hc:A9h (f.2.2.2.length:Int)=(f.2.2.2.length:Int):=by unfold A9h;rw [D8 (by omega)]
    simp only [hc];have hl:=B7a (f.2.2.2.length:Int) 3;rw [A0 (by simp [hl]),A0 (by simp [hl])];simp only [B7];rw [show (4:Int)=((4:Nat):Int) from rfl,B9A _ _ 4 (by omega) (by omega) (by simp [hl])];have hl4:=B7a (A9h f.2.2.1) 4;simp only;rw [A0 (by simp [hl,hl4];omega),A0 (by simp [hl,hl4];omega)];simp [B6S]
theorem D33{n:Nat}(h:n<9223372036854775808):i64.wrap (n:Int)=(n:Int):=w64 (by omega) (by omega)
theorem bits_nat{w x:Nat}(h:x<2 ^ w):(BitVec.ofInt w (x:Int)).toNat=x:=by
  rw [BitVec.ofInt_natCast,BitVec.toNat_ofNat];exact Nat.mod_eq_of_lt h
abbrev D5k:=Int×Int
def A6B(r:D5k):Bool:=decide (100<=r.1/\r.1<=599)&&decide (-1<=r.2/\r.2<=1000000000)
theorem A6e(r:D5k):A8G r=some (A6B r,()):=by
  simp only [A8G,B6C,A11,A7,A6B];cases decide (100<=r.1/\r.1<=599)<;>simp
theorem A9i(r:D5k):A8O r=some (A6B r,()):=by
  simp only [A8O,B6L,A8c,A7,A6B];cases decide (100<=r.1/\r.1<=599)<;>simp
def far(c:D2s)(off:Int):D2s:=if 0<=off/\off<=(c.2.1.length:Int) then (if off=(c.2.1.length:Int) then (c.1,c.2.1,4,off) else (c.1,c.2.1,3,off)) else (c.1,c.2.1,6,c.2.2.2)
theorem C5e:B28=A45:=rfl
theorem C7j:A6b=U6:=rfl
theorem B5h(g:L4):∃ b,A45 g=some (b,()):=by
  simp only [A45,B1e,A11,A7];by_cases h1:g.1=0
  · rw [A0 h1]
    cases g.2.1<;>exact ⟨_,rfl⟩
  · rw [A9 h1]
    cases decide (1<=g.1/\g.1<=2147483647)<;>exact ⟨_,rfl⟩
theorem C5f(t:F0)(h:t.2.length<=maxLen):∃ b,A3M t=some (b,()):=by
  obtain ⟨z,e,_⟩:=B8F (A20 A8F t) (fun l=>((t.2.length:Int)-l.2.1).toNat) (fun l=>0<=l.2.1) (fun _=>True) (fun l hl=>by
    simp only [A20];by_cases hi:l.2.1<(t.2.length:Int)
    · simp only [A0 hi,A0 hl,B7,A8F,B7J,A7]
      rw [w64 (n:=l.2.1+1) (by omega) (by simp only [maxLen] at h;omega)];exact .inl ⟨_,rfl,by simp only;omega,by simp only;omega⟩
    · simp only [A9 hi,B1]
      exact .inr ⟨_,rfl,trivial⟩) (0,0,()) (by simp)
  exact ⟨z.1,e⟩
theorem A7e(t:F0)(h:t.2.length<=maxLen):∃ b,U6 t=some (b,()):=by
  obtain ⟨b,hb⟩:=C5f t h;simp only [U6,A6V,A11,A7,hb];cases decide (0<=t.1/\t.1<=4096)<;>exact ⟨_,rfl⟩
def A8d(c:I4)(i:Nat):Bool:=
  decide ((rd F6 c.2.2.2.2.2.1 (i:Int)).1.tmod 2=1)&&decide (1<=(rd F6 c.2.2.2.2.2.1 (i:Int)).1/\(rd F6 c.2.2.2.2.2.1 (i:Int)).1<=c.2.2.2.2.2.2.1) &&
  (decide (i=0)||!decide ((rd F6 c.2.2.2.2.2.1 (i:Int)).1<=(rd F6 c.2.2.2.2.2.1 ((i:Int)-1)).1)) &&
  (decide ((rd F6 c.2.2.2.2.2.1 (i:Int)).2.1=1)||decide ((rd F6 c.2.2.2.2.2.1 (i:Int)).2.1=2))&&!decide ((List.length (rd F6 c.2.2.2.2.2.1 (i:Int)).2.2.2:Int)>2000)
theorem C9U{L:Int×Unit->Option ((Int×Unit)⊕(Unit⊕(Bool×Unit)))}{n:Nat}{go:Nat->Bool}(hs:∀ i:Nat,i<n->L ((i:Int),())=bif go i then some (.inl (((i+1:Nat):Int),())) else some (.inr (.inr (false,()))))
    (he:L ((n:Int),())=some (.inr (.inl ()))) (g:Unit->Option (Bool×Unit)) (b:Bool) (hg:g ()=some (b,())):S0 (G5 L (0,())) g=some (decide (A2d go 0 n=n)&&b,()):=by
  have h:=B4H L (fun i=>((i:Int),())) n (fun i=>if i=n then .inl () else .inr (false,())) go (fun i hi=>by
    rw [hs i hi];cases go i with
    | true=>rfl
    | false=>simp only [A0A,A0k,B1];rw [D8 (by omega)]) (by rw [he,F9 rfl])
  have h':G5 L (0,())=_:=h;rw [h'];by_cases hn:A2d go 0 n=n
  · rw [F9 hn,A0 hn];simp [S0,hg]
  · rw [D8 hn,A9 hn];simp [S0]
theorem C5g(c:I4)(h:c.2.2.2.2.2.1.length<=maxLen)(i:Nat)(hi:i<c.2.2.2.2.2.1.length):A5o A05 c ((i:Int),())=bif A8d c i then some (.inl (((i+1:Nat):Int),())) else some (.inr (.inr (false,()))):=by
  have h1:((i:Int)<(c.2.2.2.2.2.1.length:Int)):=by omega
  have h2:(0:Int)<=(i:Int):=by omega
  simp only [maxLen] at h;simp only [A5o,A0 h1,A0 h2,B7,A11,A7,A8d];rw [w64 (n:=(i:Int)+1) (by omega) (by omega),w64 (n:=(i:Int)-1) (by omega) (by omega)];have e1:((i+1:Nat):Int)=(i:Int)+1:=by omega
  rw [e1];have hge:decide ((rd F6 c.2.2.2.2.2.1 ((i:Int)-1)).1>=(rd F6 c.2.2.2.2.2.1 (i:Int)).1)=decide ((rd F6 c.2.2.2.2.2.1 (i:Int)).1<=(rd F6 c.2.2.2.2.2.1 ((i:Int)-1)).1):=rfl;rw [hge];by_cases hz:i=0
  · have g1:¬ (i:Int)>0:=by omega
    simp only [A9 g1,A0 hz,B1,Bool.true_or,Bool.and_true];generalize decide ((rd F6 c.2.2.2.2.2.1 (i:Int)).1.tmod 2=1)=x1;generalize decide (1<=(rd F6 c.2.2.2.2.2.1 (i:Int)).1/\(rd F6 c.2.2.2.2.2.1 (i:Int)).1<=c.2.2.2.2.2.2.1)=x2;generalize decide ((rd F6 c.2.2.2.2.2.1 (i:Int)).2.1=1)=x4;generalize decide ((rd F6 c.2.2.2.2.2.1 (i:Int)).2.1=2)=x5;generalize decide ((List.length (rd F6 c.2.2.2.2.2.1 (i:Int)).2.2.2:Int)>2000)=x6;cases x1<;>cases x2<;>cases x4<;>cases x5<;>cases x6<;>rfl
  · have g1:(i:Int)>0:=by omega
    have g2:(0:Int)<=(i:Int)-1:=by omega
    have g3:(i:Int)-1<(c.2.2.2.2.2.1.length:Int):=by omega
    simp only [A0 g1,A0 g2,A0 g3,A9 hz,B7,B5p];generalize decide ((rd F6 c.2.2.2.2.2.1 (i:Int)).1.tmod 2=1)=x1;generalize decide (1<=(rd F6 c.2.2.2.2.2.1 (i:Int)).1/\(rd F6 c.2.2.2.2.2.1 (i:Int)).1<=c.2.2.2.2.2.2.1)=x2;generalize decide ((rd F6 c.2.2.2.2.2.1 (i:Int)).1<=(rd F6 c.2.2.2.2.2.1 ((i:Int)-1)).1)=x3;generalize decide ((rd F6 c.2.2.2.2.2.1 (i:Int)).2.1=1)=x4;generalize decide ((rd F6 c.2.2.2.2.2.1 (i:Int)).2.1=2)=x5;generalize decide ((List.length (rd F6 c.2.2.2.2.2.1 (i:Int)).2.2.2:Int)>2000)=x6;cases x1<;>cases x2<;>cases x3<;>cases x4<;>cases x5<;>cases x6<;>rfl
theorem C5h(c:I4)(h:c.2.2.2.2.2.1.length<=maxLen)(i:Nat)(hi:i<c.2.2.2.2.2.1.length):A7P W9 c ((i:Int),())=bif A8d c i then some (.inl (((i+1:Nat):Int),())) else some (.inr (.inr (false,()))):=by
  have h1:((i:Int)<(c.2.2.2.2.2.1.length:Int)):=by omega
  have h2:(0:Int)<=(i:Int):=by omega
  simp only [maxLen] at h;simp only [A7P,A0 h1,A0 h2,B7,A8c,A7,A8d];rw [w64 (n:=(i:Int)+1) (by omega) (by omega),w64 (n:=(i:Int)-1) (by omega) (by omega)];have e1:((i+1:Nat):Int)=(i:Int)+1:=by omega
  rw [e1];by_cases hz:i=0
  · have g1:¬ (i:Int)>0:=by omega
    simp only [A9 g1,A0 hz,B1,Bool.true_or,Bool.and_true];generalize decide ((rd F6 c.2.2.2.2.2.1 (i:Int)).1.tmod 2=1)=x1;generalize decide (1<=(rd F6 c.2.2.2.2.2.1 (i:Int)).1/\(rd F6 c.2.2.2.2.2.1 (i:Int)).1<=c.2.2.2.2.2.2.1)=x2;generalize decide ((rd F6 c.2.2.2.2.2.1 (i:Int)).2.1=1)=x4;generalize decide ((rd F6 c.2.2.2.2.2.1 (i:Int)).2.1=2)=x5;generalize decide ((List.length (rd F6 c.2.2.2.2.2.1 (i:Int)).2.2.2:Int)>2000)=x6;cases x1<;>cases x2<;>cases x4<;>cases x5<;>cases x6<;>rfl
  · have g1:(i:Int)>0:=by omega
    have g2:(0:Int)<=(i:Int)-1:=by omega
    have g3:(i:Int)-1<(c.2.2.2.2.2.1.length:Int):=by omega
    simp only [A0 g1,A0 g2,A0 g3,A9 hz,B7,B5p];generalize decide ((rd F6 c.2.2.2.2.2.1 (i:Int)).1.tmod 2=1)=x1;generalize decide (1<=(rd F6 c.2.2.2.2.2.1 (i:Int)).1/\(rd F6 c.2.2.2.2.2.1 (i:Int)).1<=c.2.2.2.2.2.2.1)=x2;generalize decide ((rd F6 c.2.2.2.2.2.1 (i:Int)).1<=(rd F6 c.2.2.2.2.2.1 ((i:Int)-1)).1)=x3;generalize decide ((rd F6 c.2.2.2.2.2.1 (i:Int)).2.1=1)=x4;generalize decide ((rd F6 c.2.2.2.2.2.1 (i:Int)).2.1=2)=x5;generalize decide ((List.length (rd F6 c.2.2.2.2.2.1 (i:Int)).2.2.2:Int)>2000)=x6;cases x1<;>cases x2<;>cases x3<;>cases x4<;>cases x5<;>cases x6<;>rfl
def B5i(c:I4):Bool:=decide (A2d (A8d c) 0 c.2.2.2.2.2.1.length=c.2.2.2.2.2.1.length)&&decide ((c.2.2.2.2.2.1.length:Int)<=100)
theorem C3P(c:I4)(h:c.2.2.2.2.2.1.length<=maxLen):A9M c=some (B5i c,()):=by
  simp only [A9M,B47];exact C9U (C5g c h) (by simp [A5o]) _ _ rfl
theorem D0g(c:I4)(h:c.2.2.2.2.2.1.length<=maxLen):B2A c=some (B5i c,()):=by
  simp only [B2A,B6H];exact C9U (C5h c h) (by simp [A7P]) _ _ rfl
theorem D4d{x y:Nat}(hx:x<9223372036854775808)(hy:y<9223372036854775808):bOr .i64 (x:Int) (y:Int)=((x ||| y:Nat):Int):=by
  have h:x ||| y<2 ^ 63:=B7p (by omega) (by omega);unfold bOr;rw [BitVec.toNat_or,bits_nat (by simp only [IntKind.bits];omega),bits_nat (by simp only [IntKind.bits];omega)];exact D33 (by omega)
def A1U(b:List Int)(at_:Nat):Nat->Nat
  | 0=>0
  | j+1=>(A1U b at_ j*256) ||| (b.getD (at_+j) 0).toNat
theorem C5i{b:List Int}(hb:Byt b)(i:Nat):0<=b.getD i 0/\b.getD i 0<256:=by
  by_cases h:i<b.length
  · simp only [List.getD,C1 h,U1]
    exact hb _ (J2 h)
  · simp only [List.getD,List.getElem?_eq_none (show b.length<=i by omega),Option.getD_none]
    omega
theorem B9o{b:List Int}(hb:Byt b)(at_:Nat):∀ j,A1U b at_ j<2 ^ (8*j)
  | 0=>by simp [A1U]
  | j+1=>by
    have h1:=B9o hb at_ j;have h2:=C5i hb (at_+j);have e:2 ^ (8*(j+1))=2 ^ (8*j)*256:=by rw [show 8*(j+1)=8*j+8 by omega,Nat.pow_add]
    refine B7p ?_ ?_
    · rw [e];exact Nat.mul_lt_mul_of_pos_right h1 (by omega)
    · have:1<=2 ^ (8*j):=Nat.one_le_two_pow
      rw [e];omega
theorem C5j{b:List Int}(hb:Byt b)(at_ j:Nat)(hj:j<7)(x:Int)(hx:x=b.getD (at_+j) 0):bOr .i64 (i64.wrap (((A1U b at_ j:Nat):Int)*256)) (i64.wrap x)=((A1U b at_ (j+1):Nat):Int):=by
  have h1:=B9o hb at_ j;have h2:=C5i hb (at_+j);have h3:2 ^ (8*j)<=2 ^ 48:=Nat.pow_le_pow_right (by omega) (by omega);subst hx;rw [show ((A1U b at_ j:Nat):Int)*256=((A1U b at_ j*256:Nat):Int) by omega,D33 (by omega),show b.getD (at_+j) 0=(((b.getD (at_+j) 0).toNat:Nat):Int) by omega,D33 (by omega),D4d (by omega) (by omega)];simp only [A1U,E2]
def A1g(b:List Int)(a:Int)(k:Nat):Int×Bool×Unit:=if 0<=a/\a<=(b.length:Int)-k then ((A1U b a.toNat k:Int),true,()) else (0,false,())
theorem B7b(b:List Int)(hb:Byt b)(h:b.length<=1000000000000000)(a:Int)(k:Nat)(hk:1<=k/\k<=7):B1g b a (k:Int)=some (A1g b a k):=by
  simp only [B1g,B67,A11,A7,A1g];rw [A0 (show (1:Int)<=(k:Int)/\(k:Int)<=7 by omega),w64 (by omega) (by omega)];simp only [G9,B1];by_cases h1:a<0
  · rw [A0 h1,D8 (by omega)];rfl
  rw [A9 h1];by_cases h2:a>(b.length:Int)-k
  · rw [A0 h2,D8 (by omega)];rfl
  rw [A9 h2,F9 (by omega)];simp only [B1,S0];have key:=I9 (A46 (k:Int) a b) (fun j=>((A1U b a.toNat j:Int),(j:Int),())) k ((A1U b a.toNat k:Int),()) (fun j hj=>?_) ?_
  · have e:G5 (A46 (k:Int) a b) (0,0,())=_:=key
    rw [e]
  · have g1:(j:Int)<(k:Int):=by omega
    simp only [A46,A0 g1,B7];rw [w64 (n:=a+(j:Int)) (by omega) (by omega)];have g2:0<=a+(j:Int):=by omega
    have g3:a+(j:Int)<(b.length:Int):=by omega
    rw [A0 g2,A0 g3];simp only [B7];rw [C5j hb a.toNat j (by omega) _ (by
      rw [show a+(j:Int)=((a.toNat+j:Nat):Int) by omega,C7d (by omega)];simp [List.getD,show a.toNat+j<b.length by omega]),show (j:Int)+1=((j+1:Nat):Int) by omega,D33 (by omega)]
  · simp [A46]
theorem B7c(b:List Int)(hb:Byt b)(h:b.length<=1000000000000000)(a:Int)(k:Nat)(hk:1<=k/\k<=7):B26 b a (k:Int)=some (A1g b a k):=by
  simp only [B26,B6G,A8c,A7,A1g];rw [A0 (show (1:Int)<=(k:Int)/\(k:Int)<=7 by omega),w64 (n:=(b.length:Int)-(k:Int)) (by omega) (by omega)];simp only [G9,B1];by_cases h1:a<0
  · rw [A0 h1,D8 (by omega)];rfl
  rw [A9 h1];by_cases h2:a>(b.length:Int)-k
  · rw [A0 h2,D8 (by omega)];rfl
  rw [A9 h2,F9 (by omega)];simp only [B1,S0];rw [w64 (n:=a+(k:Int)) (by omega) (by omega),A0 (show 0<=a by omega),A0 (show a<=a+(k:Int) by omega),A0 (show a+(k:Int)<=(b.length:Int) by omega)];simp only [B7];have hlen:((b.take (a+(k:Int)).toNat).drop a.toNat).length=k:=by simp;omega
  have key:=I9 (A4D b a (k:Int)) (fun j=>((A1U b a.toNat j:Int),(j:Int),())) k ((A1U b a.toNat k:Int),()) (fun j hj=>?_) ?_
  · have e:G5 (A4D b a (k:Int)) (0,0,())=_:=key
    rw [e]
  · have g1:(j:Int)<(k:Int):=by omega
    have g2:(0:Int)<=(j:Int):=by omega
    simp only [A4D];rw [w64 (n:=a+(k:Int)) (by omega) (by omega)];simp only [hlen,A0 g1,A0 g2,B7];rw [C5j hb a.toNat j (by omega) _ (by
      rw [C7d (by rw [hlen];exact hj)];simp [List.getD,show a.toNat+j<b.length by omega]),show (j:Int)+1=((j+1:Nat):Int) by omega,D33 (by omega)]
  · simp only [A4D]
    rw [w64 (n:=a+(k:Int)) (by omega) (by omega)];simp [hlen]
def A8e(b:List Int)(a:Int):H5×Int×Int×Unit:=
  if 0<=a/\a<=(b.length:Int)-9 then
    (if (A1U b a.toNat 3:Int)>1000 then ((0,0,0,[]),a,2,())
      else if (A1U b a.toNat 3:Int)>(b.length:Int)-a-9 then ((0,0,0,[]),a,1,())
      else ((rd (.int .u8) b (a+3),rd (.int .u8) b (a+4),A6T .i64 (A1U b (a+5).toNat 4:Int) 2147483647,(b.take (a+9+(A1U b a.toNat 3:Int)).toNat).drop (a+9).toNat),a+9+(A1U b a.toNat 3:Int),0,()))
  else ((0,0,0,[]),a,1,())
theorem B9p{b:List Int}(hb:Byt b){i:Int}(h0:0<=i)(h1:i<(b.length:Int)):i64.wrap (rd (.int .u8) b i)=rd (.int .u8) b i:=by
  obtain ⟨n,rfl⟩:∃ n:Nat,i=(n:Int):=⟨i.toNat,by omega⟩;rw [C7d (by omega)];have:=hb b[n] (J2 (by omega));exact w64 (by omega) (by omega)
theorem C1A(b:List Int)(hb:Byt b)(h:b.length<=1000000000000000)(a:Int)(ha:-9223372036854775808<=a/\a<9223372036854775808):A47 b a=some (A8e b a):=by
  simp only [A47,B1h];rw [show (3:Int)=((3:Nat):Int) from rfl,B7b b hb h a 3 (by omega),show (4:Int)=((4:Nat):Int) from rfl,B7b b hb h _ 4 (by omega)];simp only [A7,A8e];by_cases hin:0<=a/\a<=(b.length:Int)-9
  · have hn:=B9o hb a.toNat 3
    rw [F9 hin];have e3:A1g b a 3=((A1U b a.toNat 3:Int),true,()):=by unfold A1g;rw [F9 (by omega)]
    have e5:i64.wrap (a+5)=a+5:=w64 (by omega) (by omega);have e4:A1g b (a+5) 4=((A1U b (a+5).toNat 4:Int),true,()):=by unfold A1g;rw [F9 (by omega)]
    simp only [e5,e3,e4,G9,B1];by_cases h1:(A1U b a.toNat 3:Int)>1000
    · rw [A0 h1,F9 h1];rfl
    rw [A9 h1,D8 h1];have e9:i64.wrap (i64.wrap ((b.length:Int)-a)-9)=(b.length:Int)-a-9:=by rw [w64 (n:=(b.length:Int)-a) (by omega) (by omega)];exact w64 (by omega) (by omega)
    rw [e9];by_cases h2:(A1U b a.toNat 3:Int)>(b.length:Int)-a-9
    · rw [A0 h2,F9 h2];rfl
    rw [A9 h2,D8 h2];simp only [B1,S0];have w3:i64.wrap (a+((3:Nat):Int))=a+3:=w64 (by omega) (by omega);have w4:i64.wrap (a+((4:Nat):Int))=a+4:=w64 (by omega) (by omega);have w9:i64.wrap (a+9)=a+9:=w64 (by omega) (by omega);have wn:i64.wrap (a+9+(A1U b a.toNat 3:Int))=a+9+(A1U b a.toNat 3:Int):=w64 (by omega) (by omega);simp only [w3,w4,w9,wn];rw [A0 (show 0<=a+3 by omega),A0 (show a+3<(b.length:Int) by omega),A0 (show 0<=a+4 by omega),A0 (show a+4<(b.length:Int) by omega),A0 (show 0<=a+9 by omega),A0 (show a+9<=a+9+(A1U b a.toNat 3:Int) by omega),A0 (show a+9+(A1U b a.toNat 3:Int)<=(b.length:Int) by omega),A0 (by simp;omega),A0 (by simp;omega)];simp only [B7,F5];rw [B9p hb (show 0<=a+3 by omega) (by omega),B9p hb (show 0<=a+4 by omega) (by omega)]
  · rw [D8 hin]
    by_cases h3:0<=a/\a<=(b.length:Int)-3
    · have e5:i64.wrap (a+5)=a+5:=w64 (by omega) (by omega)
      have e4:A1g b (a+5) 4=(0,false,()):=by unfold A1g;rw [D8 (by omega)]
      simp only [e5,e4];cases (A1g b a 3).2.1<;>rfl
    · have e3:A1g b a 3=(0,false,()):=by unfold A1g;rw [D8 (by omega)]
      simp only [e3];rfl
theorem C1B(b:List Int)(hb:Byt b)(h:b.length<=1000000000000000)(a:Int)(ha:-9223372036854775808<=a/\a<9223372036854775808):A4E b a=some (A8e b a):=by
  simp only [A4E,B27];rw [w64 (n:=(b.length:Int)-9) (by omega) (by omega)];simp only [A8e];by_cases h1:a<0
  · rw [A0 h1,D8 (by omega)];rfl
  rw [A9 h1];by_cases h2:a>(b.length:Int)-9
  · rw [A0 h2,D8 (by omega)];rfl
  rw [A9 h2,F9 (by omega)];have hn:=B9o hb a.toNat 3;simp only [B1,S0];rw [show (3:Int)=((3:Nat):Int) from rfl,B7c b hb h a 3 (by omega),show (4:Int)=((4:Nat):Int) from rfl,B7c b hb h _ 4 (by omega)];have e3:A1g b a 3=((A1U b a.toNat 3:Int),true,()):=by unfold A1g;rw [F9 (by omega)]
  have e5:i64.wrap (a+5)=a+5:=w64 (by omega) (by omega);have e4:A1g b (a+5) 4=((A1U b (a+5).toNat 4:Int),true,()):=by unfold A1g;rw [F9 (by omega)]
  have w9:i64.wrap (a+9)=a+9:=w64 (by omega) (by omega);simp only [A7,e5,e3,e4,w9];by_cases h3:(A1U b a.toNat 3:Int)>1000
  · rw [A0 h3,F9 h3];rfl
  rw [A9 h3,D8 h3,w64 (n:=(b.length:Int)-(a+9)) (by omega) (by omega)];by_cases h4:(A1U b a.toNat 3:Int)>(b.length:Int)-a-9
  · rw [A0 (show (A1U b a.toNat 3:Int)>(b.length:Int)-(a+9) by omega),F9 h4];rfl
  rw [A9 (show ¬ (A1U b a.toNat 3:Int)>(b.length:Int)-(a+9) by omega),D8 h4];simp only [B1];have w3:i64.wrap (a+((3:Nat):Int))=a+3:=w64 (by omega) (by omega);have w4:i64.wrap (a+((4:Nat):Int))=a+4:=w64 (by omega) (by omega);have wn:i64.wrap (a+9+(A1U b a.toNat 3:Int))=a+9+(A1U b a.toNat 3:Int):=w64 (by omega) (by omega);simp only [w3,w4,wn];rw [A0 (show 0<=a+3 by omega),A0 (show a+3<(b.length:Int) by omega),A0 (show 0<=a+4 by omega),A0 (show a+4<(b.length:Int) by omega),A0 (show 0<=a+9 by omega),A0 (show a+9<=a+9+(A1U b a.toNat 3:Int) by omega),A0 (show a+9+(A1U b a.toNat 3:Int)<=(b.length:Int) by omega)];simp only [B7];rw [C2G _ (by simp;omega),B9p hb (show 0<=a+3 by omega) (by omega),B9p hb (show 0<=a+4 by omega) (by omega)];rfl
theorem B5j(b:List Int)(hb:Byt b)(h:b.length<=1048576)(a:Int)(ha:-9223372036854775808<=a/\a<9223372036854775808):A47 b a=some (A8e b a):=C1A b hb (by omega) a ha
theorem C2J(b:List Int)(hb:Byt b)(h:b.length<=1048576)(a:Int)(ha:-9223372036854775808<=a/\a<9223372036854775808):A4E b a=some (A8e b a):=C1B b hb (by omega) a ha
theorem B6T(xs:List Int):(strOf xs).size=xs.length:=strOfNums_size xs
theorem D34(a b:X0):(a++b).size=a.size+b.size:=B3b
theorem C5k(k:Int)(h:k<4611686018427387904):∃ s,P5 k=some (s,()):=by
  simp only [P5,B2R];by_cases h0:k<=0
  · rw [A0 h0];exact ⟨_,rfl⟩
  rw [A9 h0];obtain ⟨z,e,hz⟩:=B8F A8S (fun l=>l.1.toNat) (fun l=>0<=l.1/\(l.2.1.size:Int)+l.1<=k) (fun z=>(z.1.size:Int)<=k) (fun l hl=>by
    obtain ⟨n,out,u⟩:=l;simp only at hl ⊢;simp only [A8S];by_cases hp:n>0
    · refine .inl ⟨(n.tdiv 10,strOf [u8.wrap (i64.wrap (48+n.tmod 10))]++out,()),?_,?_,?_⟩
      · rw [A0 hp]
        simp only [B7];rw [A9 (by rw [B6T];simp [IntKind.max,IntKind.signed,IntKind.bits];omega)];simp only [B1];rw [w64 (n:=n.tdiv 10) (by rw [P0 (by omega)];omega) (by rw [P0 (by omega)];omega)]
      · simp only
        rw [D34,B6T,P0 (by omega)];simp only [H2];omega
      · simp only
        rw [P0 (by omega)];omega
    · rw [A9 hp]
      exact .inr ⟨_,rfl,by simp only;omega⟩) (k,⟨#[]⟩,()) (by
      constructor
      · simp only;omega
      · show ((0:Nat):Int)+k<=k
        omega)
  rw [e];simp only [A7,B1];have h1:(⟨#[109]⟩:X0).size=1:=rfl;rw [A9 (by rw [h1];simp [IntKind.max,IntKind.signed,IntKind.bits];omega)];exact ⟨_,rfl⟩
noncomputable def mt(k:Int):X0:=match P5 k with
  | some (s,_)=>s
  | none=>⟨#[]⟩
theorem A6f(k:Int)(h:k<4611686018427387904):P5 k=some (mt k,()):=by
  obtain ⟨s,hs⟩:=C5k k h;unfold mt;rw [hs]
theorem wrap_u8(x:Int):0<=u8.wrap x/\u8.wrap x<256:=by
  simp only [IntKind.wrap,IntKind.bits,IntKind.signed];simp;omega
theorem A7f{a b:List Int}(ha:Byt a)(hb:Byt b):Byt (a++b):=fun x hx=>(C9.1 hx).elim (ha x) (hb x)
theorem C5l(s:X0):Byt (bytesOf s):=by
  intro x hx;obtain ⟨b,_,rfl⟩:=D5.1 hx;have:=b.toNat_lt;omega
theorem B4I(go:Nat->Bool):∀ k i j,i<=j->j<A2d go i k->go j=true
  | 0,i,j,h1,h2=>by simp only [A2d] at h2;omega
  | k+1,i,j,h1,h2=>by
    simp only [A2d] at h2;split at h2
    · rename_i hg
      by_cases e:j=i
      · rw [e];exact hg
      · exact B4I go k (i+1) j (by omega) h2
    · omega
theorem D5l{k:K}{b:List k.T}{i:Nat}(h:i<b.length)(u:k.T):rd k (b.set i u) (i:Int)=u:=by
  rw [A0S (xs:=b.set i u) (by simpa using h)];simp
def MH{T:Type}(mark:Int->Option (Int×T×Unit))(held:T->Int->Option (Int×Unit))(n:Nat):Prop:=
  ∀ m:Int,0<=m->m+n<4611686018427387904->∃ m' y,mark m=some (m',y,())/\m<=m'/\m'<=m+n/\held y m=some (m',())
def cost{T:Type}(c:T->Nat)(a:List T):Nat:=(a.map c).sum
theorem D0h{T:Type}(c:T->Nat){a:List T}{i:Nat}(h:i<a.length):cost c (a.drop i)=c a[i]+cost c (a.drop (i+1)):=by
  rw [I3 h];simp only [cost,G4,List.sum_cons]
theorem D4e{T:Type}(Lm:Int×Int×List T×Unit->Option ((Int×Int×List T×Unit)⊕(Int×List T×Unit)))(Lh:List T->Int×Int×Unit->Option ((Int×Int×Unit)⊕(Int×Unit)))(c:T->Nat)(a:List T)(hn:a.length<=1048576)
    (hs:∀ (i:Nat) (hi:i<a.length) (m:Int),0<=m->m+c a[i]<4611686018427387904->∃ m' u,m<=m'/\m'<=m+c a[i]/\(∀ (b:List T) (hb:b.length=a.length),b[i]'(by omega)=a[i]->Lm (m,(i:Int),b,())=some (.inl (m',(i:Int)+1,b.set i u,())))/\
      ∀ (b:List T) (hb:b.length=a.length),b[i]'(by omega)=u->Lh b (m,(i:Int),())=some (.inl (m',(i:Int)+1,())))
    (he:∀ m (b:List T),b.length=a.length->Lm (m,(a.length:Int),b,())=some (.inr (m,b,()))) (hf:∀ m (b:List T),b.length=a.length->Lh b (m,(a.length:Int),())=some (.inr (m,()))) :
    MH (fun m=>G5 Lm (m,0,a,())) (fun y m=>G5 (Lh y) (m,0,())) (cost c a):=by
  have key:∀ k i,i+k=a.length->∀ m:Int,0<=m->m+cost c (a.drop i)<4611686018427387904->∃ m' us,us.length=k/\m<=m'/\m'<=m+cost c (a.drop i)/\
      (∀ pre:List T,pre.length=i->G5 Lm (m,(i:Int),pre++a.drop i,())=some (m',pre++us,()))/\∀ pre:List T,pre.length=i->G5 (Lh (pre++us)) (m,(i:Int),())=some (m',()):=by
    intro k
    induction k with
    | zero=>
      intro i hi m h0 h1;obtain rfl:i=a.length:=by omega
      refine ⟨m,[],rfl,A3m _,by omega,fun pre hp=>?_,fun pre hp=>?_⟩
      · rw [O2,he _ _ (by simp [hp])]
        simp
      · rw [O2,hf _ _ (by simp [hp])]
    | succ k ih=>
      intro i hi m h0 h1;have hlt:i<a.length:=by omega
      rw [D0h c hlt] at h1 ⊢;obtain ⟨m1,u,g1,g2,g3,g4⟩:=hs i hlt m h0 (by omega);obtain ⟨m',us,h2,h3,h4,h5,h6⟩:=ih (i+1) (by omega) m1 (by omega) (by omega);have e1:(i:Int)+1=((i+1:Nat):Int):=by omega
      rw [e1] at g3 g4;refine ⟨m',u::us,by simp [h2],by omega,by omega,fun pre hp=>?_,fun pre hp=>?_⟩
      · have hl:(pre++a.drop i).length=a.length:=by simp [hp];omega
        have hg:(pre++a.drop i)[i]'(by omega)=a[i]:=by
          rw [J1 (by omega)];simp [hp]
        rw [O2,g3 _ hl hg];have hset:(pre++a.drop i).set i u=(pre ++ [u])++a.drop (i+1):=by
          rw [List.set_append_right _ _ (by omega),hp,Nat.sub_self,I3 hlt,List.set_cons_zero];simp
        rw [hset];have:=h5 (pre ++ [u]) (by simp [hp]);simp only [A8,T6] at this;simpa using this
      · have hl:(pre++u::us).length=a.length:=by simp [hp,h2];omega
        have hg:(pre++u::us)[i]'(by omega)=u:=by
          rw [J1 (by omega)];simp [hp]
        rw [O2,g4 _ hl hg];have:=h6 (pre ++ [u]) (by simp [hp]);simp only [A8,T6] at this;exact this
  intro m h0 h1;obtain ⟨m',us,h2,h3,h4,h5,h6⟩:=key a.length 0 (by omega) m h0 (by simpa using h1);exact ⟨m',us,by simpa using h5 [] rfl,h3,by simpa using h4,by simpa using h6 [] rfl⟩
theorem B7d(a:List Int):MH (S4 a) S5 a.length:=fun m h0 h1=>⟨_,_,C44 a m h0 (by omega),by omega,A3m _,C45 a.length m h0 (by omega)⟩
theorem B7e{N M:Nat}(h:N<=M):∀ {k:K} {x:k.T},Sm N k x->Sm M k x
  | .int _,_,_=>trivial
  | .bool,_,_=>trivial
  | .fnc _,_,_=>trivial
  | .str,_,g=>S9 g h
  | .sl _ _,_,g=>⟨S9 g.1 h,fun x hx=>B7e h (g.2 x hx)⟩
  | .rs _ _,_,g=>⟨S9 g.1 h,fun x hx=>B7e h (g.2 x hx)⟩
  | .pa _ _,_,_=>trivial
  | .pair _ _,_,g=>⟨B7e h g.1,B7e h g.2⟩
theorem C7k(c:I4)(hin:List.length c.2.1<=1048576)(hst:List.length c.2.2.2.2.2.1<=1048576)(hd:List.length c.2.2.2.1.2<=1048576)(he:List.length c.2.2.2.2.1.2<=1048576)(hb:Byt c.2.1):∃ r,A3N c=some (r,())/\A8L c=some (r,()):=by
  obtain ⟨g,hg⟩:=B5h c.2.2.1;obtain ⟨t1,ht1⟩:=A7e c.2.2.2.1 (by simp only [maxLen];omega);obtain ⟨t2,ht2⟩:=A7e c.2.2.2.2.1 (by simp only [maxLen];omega);simp only [A3N,B1j,A8L,B6I,C5e,C7j,hg,ht1,ht2,A11,A8c];rw [C3P c (by simp only [maxLen];omega),D0g c (by simp only [maxLen];omega),B5j _ hb hin 0 (by omega),C2J _ hb hin 0 (by omega)];have hz:decide (c.2.2.2.2.2.2.2>0)=(!decide (c.2.2.2.2.2.2.2=0)&&decide (0<=c.2.2.2.2.2.2.2)):=by
    by_cases h1:c.2.2.2.2.2.2.2=0
    · rw [A9 (by omega),A0 h1];rfl
    · by_cases h2:0<=c.2.2.2.2.2.2.2
      · rw [A0 (by omega),A9 h1,A0 h2];rfl
      · rw [A9 (by omega),A9 h1,A9 h2];rfl
  have hr:decide (0<=c.2.2.2.2.2.2.2/\c.2.2.2.2.2.2.2<=20)=true->decide (0<=c.2.2.2.2.2.2.2)=true:=by
    intro q;exact A0 (B0 q).1
  have hl0:decide ((List.length c.2.1:Int)=0)=!decide ((List.length c.2.1:Int)>0):=by
    by_cases h1:(List.length c.2.1:Int)>0
    · rw [A0 h1,A9 (by omega)];rfl
    · rw [A9 h1,A0 (by omega)];rfl
  have hs0:decide ((List.length c.2.2.2.2.2.1:Int)=0)=!decide ((List.length c.2.2.2.2.2.1:Int)>0):=by
    by_cases h1:(List.length c.2.2.2.2.2.1:Int)>0
    · rw [A0 h1,A9 (by omega)];rfl
    · rw [A9 h1,A0 (by omega)];rfl
  rw [hz,hl0,hs0];simp only [A7];revert hr;generalize decide (0<=c.1/\c.1<=24)=b1;generalize decide (0<=c.2.2.2.2.2.2.1/\c.2.2.2.2.2.2.1<=2147483647)=b2;generalize decide (0<=c.2.2.2.2.2.2.2/\c.2.2.2.2.2.2.2<=20)=b3;generalize decide (0<=c.2.2.2.2.2.2.2)=b4;generalize B5i c=b5;generalize decide ((List.length c.2.1:Int)>1100)=b6;generalize decide ((A8e c.2.1 0).2.2.1=1)=b7;generalize decide (c.1<24)=b8;generalize decide ((List.length c.2.1:Int)>0)=b9;generalize decide (c.2.2.2.2.2.2.2=0)=b10;generalize decide ((List.length c.2.2.2.2.2.1:Int)>0)=b11;generalize decide (c.2.2.1.1=0)=b12;intro hr;cases b1
  · exact ⟨_,rfl,rfl⟩
  cases g
  · exact ⟨_,rfl,rfl⟩
  cases t1
  · exact ⟨_,rfl,rfl⟩
  cases t2
  · exact ⟨_,rfl,rfl⟩
  cases b2
  · cases b5<;>exact ⟨_,rfl,rfl⟩
  cases b5
  · exact ⟨_,rfl,rfl⟩
  cases b6
  · cases b3
    · exact ⟨_,rfl,rfl⟩
    · rw [hr rfl]
      cases b7<;>cases b8<;>cases b9<;>cases b10<;>cases b11<;>cases b12<;>exact ⟨_,rfl,rfl⟩
  · cases b3<;>exact ⟨_,rfl,rfl⟩
theorem D0i(c:I4)(h:Sm 1048576 A8C c)(hb:Byt c.2.1):∃ r,A3N c=some (r,())/\A8L c=some (r,()):=
  C7k c (Sm.l (Sm.r h)).1 (Sm.l (Sm.r (Sm.r (Sm.r (Sm.r (Sm.r h)))))).1 (Sm.r (Sm.l (Sm.r (Sm.r (Sm.r h))))).1 (Sm.r (Sm.l (Sm.r (Sm.r (Sm.r (Sm.r h)))))).1 hb
set_option maxRecDepth 100000
def lensT:List Int:= [13,23,28,28,28,28,28,28,28,24,30,28,28,30,28,28,28,28,28,28,28,28,30,28,28,28,28,28,28,28,28,28,6,10,10,12,13,6,8,11,10,10,8,11,8,6,6,6,5,5,5,6,6,6,6,6,6,6,7,8,15,6,12,10,13,6,7,7,7,7,7,7,7,7,7,7,7,7,7,7,7,7,7,7,7,7,7,7,8,7,8,13,19,13,14,6,15,5,6,5,6,5,6,6,6,5,7,7,6,6,6,5,6,7,6,5,5,6,7,7,7,7,7,15,11,14,13,28,20,22,20,20,22,22,22,23,22,23,23,23,23,23,24,23,24,24,22,23,24,23,23,23,23,21,22,23,22,23,23,24,22,21,20,22,22,23,23,21,23,22,22,24,21,22,23,23,21,21,22,21,23,22,23,23,20,22,22,22,23,22,22,23,26,26,20,19,22,23,22,25,26,26,26,27,27,26,24,25,19,21,26,27,27,26,27,24,21,21,26,26,28,27,27,27,20,24,20,21,22,21,21,23,22,22,25,25,24,24,26,23,26,27,26,26,27,27,27,27,27,28,27,27,27,27,27,26,30]
theorem B9C:B1l=some (lensT,()):=rfl
theorem T7:lensT.length=257:=by kernel_rfl
theorem D0j:(lensT.all fun x=>decide (5<=x)&&decide (x<=30))=true:=by kernel_rfl
theorem u64_nonneg(x:Int):¬ (u64.wrap x<0):=by
  simp only [IntKind.wrap,IntKind.bits,IntKind.signed,A92];simp;omega
def cst(n:Int)(st:Int×Int×List Int)(sym:Nat):Int×Int×List Int:=
  if (lensT.getD sym 0)=n then
    (let code:=if st.2.1>0 then i64.wrap ((i64.wrap (st.1+1))*2 ^ (min (u64.wrap (i64.wrap (n-st.2.1))).toNat i64.bits)) else st.1
     (code,n,st.2.2.set sym code)) else st
def B5R(n:Int)(st:Int×Int×List Int):Nat->Int×Int×List Int
  | 0=>st
  | k+1=>cst n (B5R n st k) k
def lvl(st:Int×Int×List Int):Nat->Int×Int×List Int
  | 0=>st
  | k+1=>B5R ((k:Int)+1) (lvl st k) 257
def D35(b:Int×Int×List Int):List Int:=(lvl b 30).2.2
theorem C5m(b:Int×Int×List Int):D35 b=(lvl b 30).2.2:=rfl
def codesT:List Int:=D35 (0,0,List.replicate 257 0)
theorem D4f(n:Int)(st:Int×Int×List Int)(sym:Nat):(cst n st sym).2.2.length=st.2.2.length:=by
  unfold cst;split<;>simp
theorem C1C(n:Int)(st:Int×Int×List Int):∀ k,(B5R n st k).2.2.length=st.2.2.length
  | 0=>rfl
  | k+1=>by rw [B5R,D4f,C1C n st k]
theorem C48(st:Int×Int×List Int):∀ k,(lvl st k).2.2.length=st.2.2.length
  | 0=>rfl
  | k+1=>by rw [lvl,C1C,C48 st k]
theorem D4g{xs:List Int}{i:Nat}:rd (.int .i64) xs (i:Int)=xs.getD i 0:=by
  simp [rd,zd]
theorem C7l(c l s n:Int)(o:List Int)(ho:o.length=257)(hn:n<1000)(hn0:0<=n)(a b d:Int)(e:List Int) :
    G5 (A2j (lensT,()) (a,b,n,e,())) (c,l,0,o,())=some (.inl ((B5R n (c,l,o) 257).1,(B5R n (c,l,o) 257).2.1,n+1,(B5R n (c,l,o) 257).2.2,())):=by
  have hl:∀ k,(B5R n (c,l,o) k).2.2.length=257:=fun k=>by rw [C1C];exact ho
  refine I9 (A2j (lensT,()) (a,b,n,e,())) (fun k=>((B5R n (c,l,o) k).1,(B5R n (c,l,o) k).2.1,(k:Int),(B5R n (c,l,o) k).2.2,())) 257 _ (fun k hk=>?_) ?_
  · have h1:(k:Int)<=256:=by omega
    have h2:(0:Int)<=(k:Int):=by omega
    have h3:(k:Int)<(lensT.length:Int):=by rw [T7];omega
    have h4:(k:Int)<((B5R n (c,l,o) k).2.2.length:Int):=by rw [hl];omega
    have h5:i64.wrap ((k:Int)+1)=((k+1:Nat):Int):=by rw [w64 (by omega) (by omega)];omega
    simp only [A2j,A0 h1,A0 h2,A0 h3,A0 h4,B7,D4g,h5,A9 (u64_nonneg _),B1,E2,A7];have e1:B5R n (c,l,o) (k+1)=cst n (B5R n (c,l,o) k) k:=rfl;rw [e1];unfold cst;by_cases hq:lensT.getD k 0=n
    · simp only [hq,A1r,G9,B1,Q5]
      by_cases hg:(B5R n (c,l,o) k).2.1>0
      · simp only [A0 hg,B7,F9 hg]
      · simp only [A9 hg,B1,D8 hg]
    · simp only [A9 hq,A93,B7,D8 hq]
  · have h1:¬ ((257:Nat):Int)<=256:=by omega
    simp only [A2j,A9 h1,B1];rw [w64 (by omega) (by omega)]
theorem C49:A6W=some (codesT,()):=by
  show A6W=some (D35 (0,0,List.replicate 257 0),());rw [C5m];simp only [A6W,B48,B9C,A7];have hl:∀ k,(lvl (0,0,List.replicate 257 0) k).2.2.length=257:=fun k=>by rw [C48];simp
  refine I9 (A5r (lensT,())) (fun k=>((lvl (0,0,List.replicate 257 0) k).1,(lvl (0,0,List.replicate 257 0) k).2.1,((k:Int)+1),(lvl (0,0,List.replicate 257 0) k).2.2,())) 30 _ (fun k hk=>?_) ?_
  · have h1:(k:Int)+1<=30:=by omega
    simp only [A5r,A0 h1,B7];rw [C7l _ _ 0 _ _ (hl k) (by omega) (by omega) _ _ 0 _];simp only [lvl]
    congr 4
  · have h1:¬ ((30:Nat):Int)+1<=30:=by omega
    simp only [A5r,A9 h1,B1]
theorem A3P:codesT.length=257:=by
  show (D35 (0,0,List.replicate 257 0)).length=257;rw [C5m,C48];simp
set_option maxRecDepth 100000
def lensS:X0:=⟨#[49,51,32,50,51,32,50,56,32,50,56,32,50,56,32,50,56,32,50,56,32,50,56,32,50,56,32,50,52,32,51,48,32,50,56,32,50,56,32,51,48,32,50,56,32,50,56,32,50,56,32,50,56,32,50,56,32,50,56,32,50,56,32,50,56,32,51,48,32,50,56,32,50,56,32,50,56,32,50,56,32,50,56,32,50,56,32,50,56,32,50,56,32,50,56,32,54,32,49,48,32,49,48,32,49,50,32,49,51,32,54,32,56,32,49,49,32,49,48,32,49,48,32,56,32,49,49,32,56,32,54,32,54,32,54,32,53,32,53,32,53,32,54,32,54,32,54,32,54,32,54,32,54,32,54,32,55,32,56,32,49,53,32,54,32,49,50,32,49,48,32,49,51,32,54,32,55,32,55,32,55,32,55,32,55,32,55,32,55,32,55,32,55,32,55,32,55,32,55,32,55,32,55,32,55,32,55,32,55,32,55,32,55,32,55,32,55,32,55,32,56,32,55,32,56,32,49,51,32,49,57,32,49,51,32,49,52,32,54,32,49,53,32,53,32,54,32,53,32,54,32,53,32,54,32,54,32,54,32,53,32,55,32,55,32,54,32,54,32,54,32,53,32,54,32,55,32,54,32,53,32,53,32,54,32,55,32,55,32,55,32,55,32,55,32,49,53,32,49,49,32,49,52,32,49,51,32,50,56,32,50,48,32,50,50,32,50,48,32,50,48,32,50,50,32,50,50,32,50,50,32,50,51,32,50,50,32,50,51,32,50,51,32,50,51,32,50,51,32,50,51,32,50,52,32,50,51,32,50,52,32,50,52,32,50,50,32,50,51,32,50,52,32,50,51,32,50,51,32,50,51,32,50,51,32,50,49,32,50,50,32,50,51,32,50,50,32,50,51,32,50,51,32,50,52,32,50,50,32,50,49,32,50,48,32,50,50,32,50,50,32,50,51,32,50,51,32,50,49,32,50,51,32,50,50,32,50,50,32,50,52,32,50,49,32,50,50,32,50,51,32,50,51,32,50,49,32,50,49,32,50,50,32,50,49,32,50,51,32,50,50,32,50,51,32,50,51,32,50,48,32,50,50,32,50,50,32,50,50,32,50,51,32,50,50,32,50,50,32,50,51,32,50,54,32,50,54,32,50,48,32,49,57,32,50,50,32,50,51,32,50,50,32,50,53,32,50,54,32,50,54,32,50,54,32,50,55,32,50,55,32,50,54,32,50,52,32,50,53,32,49,57,32,50,49,32,50,54,32,50,55,32,50,55,32,50,54,32,50,55,32,50,52,32,50,49,32,50,49,32,50,54,32,50,54,32,50,56,32,50,55,32,50,55,32,50,55,32,50,48,32,50,52,32,50,48,32,50,49,32,50,50,32,50,49,32,50,49,32,50,51,32,50,50,32,50,50,32,50,53,32,50,53,32,50,52,32,50,52,32,50,54,32,50,51,32,50,54,32,50,55,32,50,54,32,50,54,32,50,55,32,50,55,32,50,55,32,50,55,32,50,55,32,50,56,32,50,55,32,50,55,32,50,55,32,50,55,32,50,55,32,50,54,32,51,48]⟩
def lensP:List (List UInt8):=Lib.splitK [32] 0 (Lib.count lensS.data.toList [32]) lensS.data.toList
theorem D36:(lensP.map Lib.atoi)=lensT.map some:=by kernel_rfl
theorem D37:(lensP.all fun x=>Nat.ble x.length 18)=true:=by kernel_rfl
theorem C5n:(Lib.splitB ⟨#[32]⟩ 0 (Lib.countB lensS ⟨#[32]⟩) lensS).map (·.data.toList)=lensP:=by
  rw [Lib.splitB_data];rfl
theorem D0k(s:X0)(P:List (List UInt8))(hs:s.size<4294967281)(h0:(Lib.splitB ⟨#[32]⟩ 0 (Lib.countB s ⟨#[32]⟩) s).map (·.data.toList)=P)(hP:(P.map Lib.atoi)=lensT.map some)(hz:(P.all fun x=>Nat.ble x.length 18)=true) :
    ∃ c:List X0,A5l s ⟨#[32]⟩=some (c,())/\c.length=257/\∀ k (h:k<c.length),B1H c[k]=some (lensT.getD k 0,(),()):=by
  have h1:(decide (s.size<4294967281)&&decide (1<=(⟨#[32]⟩:X0).size))=true:=by
    rw [A0 hs];rfl
  refine ⟨_,by simp only [A5l,h1,B7];rfl,?_,fun k hk=>?_⟩
  · have:=T5 List.length h0
    rw [P1] at this;rw [this];have h2:=T5 List.length hP;rw [P1,P1,T7] at h2;exact h2
  · generalize hc:Lib.splitB ⟨#[32]⟩ 0 (Lib.countB s ⟨#[32]⟩) s=c at *
    have e:=h0;have hk2:k<P.length:=by rw [<- e,P1];exact hk
    have e1:(c[k]).data.toList=P[k]:=by
      have:(c.map (·.data.toList))[k]? = P[k]?:=by rw [e]
      rw [L1,C1 hk,C1 hk2] at this;simpa using this
    have e2:Lib.atoi P[k]=some (lensT.getD k 0):=by
      have:(P.map Lib.atoi)[k]? = (lensT.map some)[k]?:=by rw [hP]
      rw [L1,C1 hk2,L1] at this;cases hq:lensT[k]? with
      | none=>rw [hq] at this;cases this
      | some v=>
        rw [hq] at this;simp only [N1,I6] at this;rw [this,C6,hq];rfl
    have e3:(c[k]).size<=18:=by
      have h4:=D0.1 hz P[k] (J2 hk2);have h5:=D7 h4;rw [<- e1] at h5;exact h5
    simp only [B1H,A0 e3,B7,e1,e2]
theorem D38:lensS.size<4294967281:=by
  have:Nat.ble (lensS.size+1) 4294967281=true:=by kernel_rfl
  exact D7 this
theorem D39:∃ c:List X0,A5l lensS ⟨#[32]⟩=some (c,())/\c.length=257/\∀ k (h:k<c.length),B1H c[k]=some (lensT.getD k 0,(),()):=
  D0k lensS lensP D38 C5n D36 D37
set_option maxRecDepth 100000
def szs(r:List (Int×Int)):Nat->List (Int×Int)
  | 0=>r
  | k+1=>(szs r k).set k (((szs r k).getD k (0,0)).1,lensT.getD k 0)
theorem C9V(r:List (Int×Int)):∀ k,(szs r k).length=r.length
  | 0=>rfl
  | k+1=>by rw [szs,W0,C9V r k]
theorem D4h:szs (List.replicate 257 (0,0)) 257=lensT.map fun n=>(0,n):=by kernel_rfl
def ist(n:Int)(st:Int×List (Int×Int))(sym:Nat):Int×List (Int×Int):=
  if (st.2.getD sym (0,0)).2=n then (i64.wrap (st.1+1),st.2.set sym (st.1,(st.2.getD sym (0,0)).2)) else st
def B8G(n:Int)(st:Int×List (Int×Int)):Nat->Int×List (Int×Int)
  | 0=>st
  | k+1=>ist n (B8G n st k) k
def B8H(st:Int×List (Int×Int)):Nat->Int×List (Int×Int)
  | 0=>st
  | k+1=>B8G ((k:Int)+1) (i64.wrap ((B8H st k).1*2),(B8H st k).2) 257
theorem D4i(n:Int)(st:Int×List (Int×Int))(sym:Nat):(ist n st sym).2.length=st.2.length:=by
  unfold ist;split<;>simp
theorem C1D(n:Int)(st:Int×List (Int×Int)):∀ k,(B8G n st k).2.length=st.2.length
  | 0=>rfl
  | k+1=>by rw [B8G,D4i,C1D n st k]
theorem C5o(st:Int×List (Int×Int)):∀ k,(B8H st k).2.length=st.2.length
  | 0=>rfl
  | k+1=>by rw [B8H,C1D,C5o st k]
def C5p(a:Int×List (Int×Int)):List (Int×Int):=(B8H a 30).2
theorem D0l(a:Int×List (Int×Int)):C5p a=(B8H a 30).2:=rfl
def D5m:List (Int×Int):=C5p (0,lensT.map fun n=>(0,n))
def C5q(n:Int)(a:Int×List (Int×Int))(b:Int×Int×List Int):Prop:=
  a.2=b.2.2.zip lensT/\b.2.2.length=257/\((b.2.1=0/\b.1=0/\a.1=0)\/(1<=b.2.1/\b.2.1<=n/\a.1=i64.wrap ((b.1+1)*2 ^ (n-b.2.1).toNat)))
theorem C5r(x y:Int):i64.wrap (i64.wrap x*y)=i64.wrap (x*y):=by
  simp only [B1G];generalize hq:(x+9223372036854775808) / 18446744073709551616=q;have e:(x+9223372036854775808) % 18446744073709551616-9223372036854775808=x-18446744073709551616*q:=by omega
  rw [e,Int.sub_mul,Int.mul_assoc];generalize x*y=z;generalize q*y=r;omega
theorem D4j{xs ys:List Int}{k:Nat}{c:Int}(h:k<ys.length):(xs.zip ys).set k (c,ys.getD k 0)=(xs.set k c).zip ys:=by
  refine A5g (by simp) fun i h1 h2=>?_
  simp only [List.getElem_set,List.getElem_zip];split
  · rename_i e
    subst e;rw [C6,C1 h];rfl
  · rfl
theorem D4k{xs:List Int}{k:Nat}(hx:xs.length=257)(hk:k<257):((xs.zip lensT).getD k (0,0)).2=lensT.getD k 0:=by
  have h1:k<(xs.zip lensT).length:=by rw [A1B,hx,T7];omega
  have h2:k<lensT.length:=by rw [T7];exact hk
  rw [C6,C6,C1 h1,C1 h2];simp
theorem D3A{n:Int}(hn:1<=n/\n<=30){a:Int×List (Int×Int)}{b:Int×Int×List Int}(h:C5q n a b){k:Nat}(hk:k<257):C5q n (ist n a k) (cst n b k):=by
  obtain ⟨c,tab⟩:=a;obtain ⟨code,p,codes⟩:=b;obtain ⟨h1,h2,h3⟩:=h;simp only at h1 h2 h3;subst h1;have hg:=D4k h2 hk;unfold ist cst;simp only [hg];by_cases hq:lensT.getD k 0=n
  case neg=>rw [D8 hq,D8 hq];exact ⟨rfl,h2,h3⟩
  rw [F9 hq,F9 hq];have hc:(if p>0 then i64.wrap (i64.wrap (code+1)*2 ^ (min (u64.wrap (i64.wrap (n-p))).toNat i64.bits)) else code)=c:=by
    rcases h3 with ⟨e1,e2,e3⟩ | ⟨e1,e2,e3⟩
    · rw [D8 (by omega),e2,e3]
    · rw [F9 (by omega),w64 (n:=n-p) (by omega) (by omega),C5r,e3]
      have e4:min (u64.wrap (n-p)).toNat i64.bits=(n-p).toNat:=by
        simp only [IntKind.wrap,IntKind.bits,IntKind.signed,A92];simp;omega
      rw [e4]
  simp only [hc];refine ⟨?_,by simpa using h2,.inr ⟨hn.1,A3m _,by simp⟩⟩;rw [<- D4j (by rw [T7];exact hk),hq]
theorem C9W{n:Int}(hn:1<=n/\n<=30){a:Int×List (Int×Int)}{b:Int×Int×List Int}(h:C5q n a b):∀ k,k<=257->C5q n (B8G n a k) (B5R n b k)
  | 0,_=>h
  | k+1,hk=>D3A hn (C9W hn h k (by omega)) (by omega)
theorem C9a{a:Int×List (Int×Int)}{b:Int×Int×List Int}(h:C5q 0 a b):∀ k:Nat,k<=30->C5q (k:Int) (B8H a k) (lvl b k)
  | 0,_=>h
  | k+1,hk=>by
    obtain ⟨h1,h2,h3⟩:=C9a h k (by omega);refine C9W (by omega) (a:=(i64.wrap ((B8H a k).1*2),(B8H a k).2)) ⟨h1,h2,?_⟩ 257 (C5 _);rcases h3 with ⟨e1,e2,e3⟩ | ⟨e1,e2,e3⟩
    · exact .inl ⟨e1,e2,by simp only [e3];rfl⟩
    · refine .inr ⟨e1,by omega,?_⟩
      simp only [e3];rw [C5r,show (((k+1:Nat):Int)-(lvl b k).2.1).toNat=((k:Int)-(lvl b k).2.1).toNat+1 by omega,Int.pow_succ,Int.mul_assoc]
theorem C5s:∀ xs:List Int,(xs.map fun n=>((0:Int),n))=(List.replicate xs.length (0:Int)).zip xs
  | []=>rfl
  | x::xs=>by simp only [G4,H0,W5,List.zip_cons_cons,C5s xs]
theorem D0m{a:Int×List (Int×Int)}{b:Int×Int×List Int}(h:C5q 0 a b):C5p a=(D35 b).zip lensT:=(C9a h 30 (C5 _)).1
theorem D6p:C5q 0 (0,lensT.map fun n=>(0,n)) (0,0,List.replicate 257 0):=⟨by have h:=C5s lensT;rw [T7] at h;exact h,A0C,.inl ⟨rfl,rfl,rfl⟩⟩
theorem D0n:D5m=codesT.zip lensT:=D0m D6p
theorem C5t{xs:List (Int×Int)}{i:Nat}:rd K9 xs (i:Int)=xs.getD i (0,0):=by
  simp [rd,zd]
theorem C7m(c n:Int)(o:List (Int×Int))(ho:o.length=257)(hn:n<1000)(hn0:0<=n)(a:Int)(e:List (Int×Int)) :
    G5 (A2m (a,n,e,())) (c,0,o,())=some (.inl ((B8G n (c,o) 257).1,n+1,(B8G n (c,o) 257).2,())):=by
  have hl:∀ k,(B8G n (c,o) k).2.length=257:=fun k=>by rw [C1D];exact ho
  refine I9 (A2m (a,n,e,())) (fun k=>((B8G n (c,o) k).1,(k:Int),(B8G n (c,o) k).2,())) 257 _ (fun k hk=>?_) ?_
  · have h1:(k:Int)<257:=by omega
    have h2:(0:Int)<=(k:Int):=by omega
    have h5:i64.wrap ((k:Int)+1)=((k+1:Nat):Int):=by rw [w64 (by omega) (by omega)];omega
    simp only [A2m,A0 h1,A0 h2,B7,C5t,h5,E2];have e1:B8G n (c,o) (k+1)=ist n (B8G n (c,o) k) k:=rfl;rw [e1];unfold ist;by_cases hq:((B8G n (c,o) k).2.getD k (0,0)).2=n
    · simp only [A0 hq,B7,F9 hq]
    · simp only [A9 hq,B1,D8 hq]
  · have h1:¬ ((257:Nat):Int)<257:=by omega
    simp only [A2m,A9 h1,B1];rw [w64 (by omega) (by omega)]
theorem C4A(a:Int×List (Int×Int))(ha:a.2.length=257):G5 (A1J) (a.1,1,a.2,())=some (C5p a,()):=by
  have hl:∀ k,(B8H a k).2.length=257:=fun k=>by rw [C5o,ha]
  rw [D0l];refine I9 A1J (fun k=>((B8H a k).1,((k:Int)+1),(B8H a k).2,())) 30 _ (fun k hk=>?_) ?_
  · have h1:(k:Int)+1<=30:=by omega
    simp only [A1J,A0 h1,B7];rw [C7m _ _ _ (hl k) (by omega) (by omega)];simp only [B8H]
    congr 4
  · have h1:¬ ((30:Nat):Int)+1<=30:=by omega
    simp only [A1J,A9 h1,B1]
theorem C4B:A6c=some (codesT.zip lensT,()):=by
  obtain ⟨c,hc,hcl,hca⟩:=D39;rw [<- D0n];show A6c=some (C5p (0,lensT.map fun n=>(0,n)),());have e0:A6c=A7 (A7 (A5l lensS ⟨#[32]⟩) fun c7=>G5 (A1I B1H c7) (0,(List.replicate 257 (0,0)),())) fun (m1:List R3×Unit)=>G5 (A1J) (0,1,m1.1,()):=rfl
  rw [e0,hc];have f1:G5 (A1I B1H (c,())) (0,(List.replicate 257 (0,0)),())=some (lensT.map fun n=>(0,n),()):=by
    have hl:∀ k,(szs (List.replicate 257 (0,0)) k).length=257:=fun k=>by rw [C9V];simp
    refine I9 (A1I B1H (c,())) (fun k=>((k:Int),szs (List.replicate 257 (0,0)) k,())) 257 _ (fun k hk=>?_) ?_
    · have h1:(k:Int)<257:=by omega
      have h2:(0:Int)<=(k:Int):=by omega
      have h3:(k:Int)<(c.length:Int):=by rw [hcl];omega
      have h5:i64.wrap ((k:Int)+1)=((k+1:Nat):Int):=by rw [w64 (by omega) (by omega)];omega
      have h6:rd .str c (k:Int)=c[k]'(by omega):=A0S (k:=.str) (by omega);simp only [A1I,A0 h1,A0 h2,A0 h3,B7,h6,hca k (by omega),A7,C5t,h5,E2];rfl
    · have h1:¬ ((257:Nat):Int)<(c.length:Int):=by rw [hcl];omega
      simp only [A1I,A9 h1,B1,D4h]
  simp only [A7,f1];exact C4A (0,lensT.map fun n=>(0,n)) (by simp only [P1,T7])
set_option maxRecDepth 100000
theorem gA{R:Type}{n:Nat}{X:Option R}(h:n<=140737488355328):(bif decide (n<=9223372036854775807) then bif decide (n*1<=140737488355328) then X else none else none)=X:=by
  rw [A0 (by omega),A0 (by omega)];rfl
theorem C7n{R:Type}{n:Nat}{X:Option R}(h:n<=1000000000000):(bif decide (n<=9223372036854775807) then bif decide (n*32<=140737488355328) then X else none else none)=X:=by
  rw [A0 (by omega),A0 (by omega)];rfl
theorem D5n{R:Type}{n:Nat}{X:Option R}(h:n<=1000000000000):(bif decide (n<=9223372036854775807) then bif decide (n*48<=140737488355328) then X else none else none)=X:=by
  rw [A0 (by omega),A0 (by omega)];rfl
theorem D3B(k:IntKind)(x y:Int):bOr k x y=bOr k y x:=by
  unfold bOr;rw [BitVec.or_comm]
def more:Nat->Int->List Int
  | 0,v=> [u8.wrap v]
  | k+1,v=>if v>127 then u8.wrap (bOr .i64 (A6T .i64 v 127) 128)::more k (v.fdiv 128) else [u8.wrap v]
theorem C5u:∀ k v,(more k v).length<=k+1
  | 0,v=>by simp [more]
  | k+1,v=>by
    have:=C5u k (v.fdiv 128);simp only [more];split<;>simp<;>omega
theorem C5v:∀ k v,Byt (more k v)
  | 0,v=>fun x hx=>by rcases A6.1 hx with rfl;exact wrap_u8 _
  | k+1,v=>by
    have ih:=C5v k (v.fdiv 128);simp only [more];split
    · intro x hx
      rcases B8.1 hx with rfl | hx
      · exact wrap_u8 _
      · exact ih x hx
    · exact fun x hx=>by rcases A6.1 hx with rfl;exact wrap_u8 _
theorem B8I:∀ (k:Nat) (v:Int) (b:List Int),0<=v->v<128 ^ (k+1)->b.length+k+2<=140737488355328->
    ∃ v' ex,G5 V8 (v,b,())=some (v',b++ex,())/\ex ++ [u8.wrap v']=more k v/\ex.length<=k
  | 0,v,b,h0,h1,hb=>by
    have h1':v<128:=by simpa using h1
    have h2:¬ v>127:=by omega
    refine ⟨v,[],?_,rfl,by simp⟩;rw [O2];simp only [V8,A9 h2,B1,F8]
  | k+1,v,b,h0,h1,hb=>by
    by_cases h2:v>127
    · have h3:v.fdiv 128=v / 128:=Int.fdiv_eq_ediv_of_nonneg _ (by omega)
      obtain ⟨v',ex,e1,e2,e3⟩:=B8I k (v.fdiv 128) (b ++ [u8.wrap (bOr .i64 (A6T .i64 v 127) 128)]) (by omega) (by rw [h3];rw [Int.pow_succ] at h1;omega) (by simp;omega);refine ⟨v',u8.wrap (bOr .i64 (A6T .i64 v 127) 128)::ex,?_,?_,by simp;omega⟩
      · rw [O2]
        simp only [V8,A0 h2,B7];rw [gA (by simp;omega)];simp only [e1];simp
      · simp only [more,F9 h2,C8,e2]
    · refine ⟨v,[],?_,by simp only [more,D8 h2,F5],by simp⟩
      rw [O2];simp only [V8,A9 h2,B1,F8]
def pfx(M F v:Int):List Int:=if v<M then [u8.wrap (bOr .i64 F v)] else u8.wrap (bOr .i64 F M)::more 3 (v-M)
theorem A9j(M F v:Int):(pfx M F v).length<=5:=by
  unfold pfx;split
  · simp
  · have:=C5u 3 (v-M);simp;omega
theorem B9q(M F v:Int):Byt (pfx M F v):=by
  unfold pfx;split
  · exact fun x hx=>by rcases A6.1 hx with rfl;exact wrap_u8 _
  · intro x hx
    rcases B8.1 hx with rfl | hx
    · exact wrap_u8 _
    · exact C5v _ _ x hx
theorem C9b(n f M F v:Int)(b:List Int)(h1:¬ (u64.wrap n<0))(h2:i64.wrap (i64.wrap (1*2 ^ (min (u64.wrap n).toNat i64.bits))-1)=M)(h3:A1R .i64 f M=F)(h5:1<=n/\n<=8)(h6:0<=f/\f<=255)
    (hM:15<=M/\M<=127) (hv:0<=v/\v<=16777216) (hb:b.length+16<=140737488355328):A1F b n f v=some (b++pfx M F v,()):=by
  have a1:¬ v>16777216:=by omega
  have a2:¬ v<0:=by omega
  simp only [A1F,B07,A11,A0 h5,A0 h6,A7,S0,G9,B1,A9 h1,h2,h3,A9 a1,A9 a2,F5];rw [gA (by simp;omega)];by_cases hq:v<M
  · rw [A0 hq,B7,gA (by simp;omega),pfx,F9 hq]
  · rw [A9 hq,B1,gA (by simp;omega),w64 (by omega) (by omega)]
    obtain ⟨v',ex,e1,e2,e3⟩:=B8I 3 (v-M) (b ++ [u8.wrap (bOr .i64 F M)]) (by omega) (by omega) (by simp;omega);rw [e1];simp only [A7];rw [gA (by simp;omega),pfx,D8 hq,<- e2];simp
theorem C9c(n f M F v:Int)(b:List Int)(h1:¬ (u64.wrap n<0))(h2:i64.wrap (i64.wrap (1*2 ^ (min (u64.wrap n).toNat i64.bits))-1)=M)(h3:A6T .i64 f (A1R .i64 255 M)=F)
    (hM:15<=M/\M<=127) (hv:0<=v/\v<=16777216) (hb:b.length+16<=140737488355328):A0Q b n f v=some (b++pfx M F v,()):=by
  have a1:¬ 16777216<v:=by omega
  have a2:(bif decide (v>0) then v else 0)=v:=by
    by_cases h:v>0
    · rw [A0 h,B7]
    · rw [A9 h,B1];omega
  have e0:A6v=V8:=by
    funext l
    simp only [A6v,V8,D3B .i64 128]
  simp only [A0Q,B0D,A7,A9 h1,B1,h2,h3,A9 a1,a2,e0];by_cases hq:v<M
  · rw [A0 hq,B7,gA (by simp;omega),pfx,F9 hq]
  · rw [A9 hq,B1,gA (by simp;omega),w64 (by omega) (by omega)]
    obtain ⟨v',ex,e1,e2,e3⟩:=B8I 3 (v-M) (b ++ [u8.wrap (bOr .i64 F M)]) (by omega) (by omega) (by simp;omega);rw [e1];simp only [A7];rw [gA (by simp;omega),pfx,D8 hq,<- e2];simp
def Pf(n f M:Int):Prop:=∀ (v:Int) (b:List Int),0<=v->v<=16777216->b.length+16<=140737488355328->A1F b n f v=some (b++pfx M f v,())/\A0Q b n f v=some (b++pfx M f v,())
theorem B7f:Pf 7 128 127:=fun v b h0 h1 hb=>⟨C9b 7 128 127 128 v b (by decide) (by rfl) (by rfl) (by omega) (by omega) (by omega) ⟨h0,h1⟩ hb,C9c 7 128 127 128 v b (by decide) (by rfl) (by rfl) (by omega) ⟨h0,h1⟩ hb⟩
theorem D3C:Pf 7 0 127:=fun v b h0 h1 hb=>⟨C9b 7 0 127 0 v b (by decide) (by rfl) (by rfl) (by omega) (by omega) (by omega) ⟨h0,h1⟩ hb,C9c 7 0 127 0 v b (by decide) (by rfl) (by rfl) (by omega) ⟨h0,h1⟩ hb⟩
theorem D4l:Pf 6 64 63:=fun v b h0 h1 hb=>⟨C9b 6 64 63 64 v b (by decide) (by rfl) (by rfl) (by omega) (by omega) (by omega) ⟨h0,h1⟩ hb,C9c 6 64 63 64 v b (by decide) (by rfl) (by rfl) (by omega) ⟨h0,h1⟩ hb⟩
theorem D4m:Pf 4 16 15:=fun v b h0 h1 hb=>⟨C9b 4 16 15 16 v b (by decide) (by rfl) (by rfl) (by omega) (by omega) (by omega) ⟨h0,h1⟩ hb,C9c 4 16 15 16 v b (by decide) (by rfl) (by rfl) (by omega) ⟨h0,h1⟩ hb⟩
set_option maxRecDepth 100000
def leA(s:X0)(k:Nat):Int:=lensT.getD (bt s k).toNat 0
def coA(s:X0)(k:Nat):Int:=codesT.getD (bt s k).toNat 0
theorem C7o(s:X0)(k:Int):(bt s k).toNat<257:=by have:=C9P s k;have:=C16 s k;omega
theorem B9r(s:X0)(k:Nat):5<=leA s k/\leA s k<=30:=by
  have h:=D0.1 D0j (leA s k) (by
    unfold leA;rw [C6,C1 (by rw [T7];exact C7o s k)];exact J2 _)
  simpa using h
theorem D3D(s:X0)(k:Nat):rd (.int .i64) lensT (bt s k)=leA s k:=by
  simp [rd,zd,leA]
theorem D3E(s:X0)(k:Nat):rd (.int .i64) codesT (bt s k)=coA s k:=by
  simp [rd,zd,coA]
theorem C9d(s:X0)(k:Nat)(xs:List (Int×Int))(hx:xs=codesT.zip lensT):rd K9 xs (bt s k)=(coA s k,leA s k):=by
  subst hx;have h1:(bt s k).toNat<codesT.length:=by rw [A3P];exact C7o s k
  have h2:(bt s k).toNat<lensT.length:=by rw [T7];exact C7o s k
  have h3:(bt s k).toNat<(codesT.zip lensT).length:=by rw [A1B];omega
  unfold rd;rw [C6,C1 h3];simp [coA,leA,C6,C1 h1,C1 h2]
def dr:Nat->Int->Int->Int×Int×List Int
  | 0,v,n=>(v,n,[])
  | k+1,v,n=>if n>=8 then ((dr k (A6T .i64 v (i64.wrap ((i64.wrap (1*2 ^ (min (u64.wrap (n-8)).toNat i64.bits)))-1))) (n-8)).1,(dr k (A6T .i64 v (i64.wrap ((i64.wrap (1*2 ^ (min (u64.wrap (n-8)).toNat i64.bits)))-1))) (n-8)).2.1,
      u8.wrap (v.fdiv (2 ^ (min (u64.wrap (n-8)).toNat i64.bits)))::(dr k (A6T .i64 v (i64.wrap ((i64.wrap (1*2 ^ (min (u64.wrap (n-8)).toNat i64.bits)))-1))) (n-8)).2.2) else (v,n,[])
theorem D6E:∀ (k:Nat) (v n:Int),0<=n->n<8*(k+1)->(dr k v n).2.1=n % 8/\((dr k v n).2.2.length:Int)=n / 8
  | 0,v,n,h0,h1=>⟨by simp only [dr];omega,by simp only [dr,K1];omega⟩
  | k+1,v,n,h0,h1=>by
    by_cases h:n>=8
    · have:=D6E k (A6T .i64 v (i64.wrap ((i64.wrap (1*2 ^ (min (u64.wrap (n-8)).toNat i64.bits)))-1))) (n-8) (by omega) (by omega)
      simp only [dr,F9 h,H0];omega
    · simp only [dr,D8 h,K1]
      omega
theorem C9e(l0:Int×Int×Int×List Int×Unit):∀ (k:Nat) (v n:Int) (o:List Int),0<=n->n<8*(k+1)->n<1000->o.length+k+1<=140737488355328->
    G5 (A5G l0) (v,n,o,())=some (.inl ((dr k v n).1,(dr k v n).2.1,i64.wrap (l0.2.2.1+1),o++(dr k v n).2.2,()))
  | 0,v,n,o,h0,h1,h2,hb=>by
    have h:¬ n>=8:=by omega
    rw [O2];simp only [A5G,A9 h,B1,dr,F8]
  | k+1,v,n,o,h0,h1,h2,hb=>by
    rw [O2];by_cases h:n>=8
    · have e1:i64.wrap (n-8)=n-8:=w64 (by omega) (by omega)
      simp only [A5G,A0 h,B7,e1,A9 (u64_nonneg _),B1];rw [gA (by simp;omega)];simp only [];rw [C9e l0 k _ (n-8) _ (by omega) (by omega) (by omega) (by simp;omega)];simp only [dr,F9 h,A8,T6,C8,F5]
    · simp only [A5G,A9 h,B1,dr,D8 h,F8]
theorem D3F(l0:Int×Int×Int×List Int×Unit):C13 l0=A5G l0:=rfl
def hst(s:X0):Nat->Int×Int×List Int
  | 0=>(0,0,[])
  | k+1=>let d:=dr 5 (bOr .i64 (i64.wrap ((hst s k).1*2 ^ (min (u64.wrap (leA s k)).toNat i64.bits))) (coA s k)) ((hst s k).2.1+leA s k);(d.1,d.2.1,(hst s k).2.2++d.2.2)
def bits(s:X0):Nat->Int
  | 0=>0
  | k+1=>bits s k+leA s k
theorem B13(s:X0):∀ k:Nat,0<=bits s k/\bits s k<=30*(k:Int)
  | 0=>⟨by simp [bits],by simp [bits]⟩
  | k+1=>by
    have:=B13 s k;have:=B9r s k;simp only [bits];omega
theorem C9f(s:X0):∀ k:Nat,(hst s k).2.1=bits s k % 8/\((hst s k).2.2.length:Int)=bits s k / 8
  | 0=>⟨by simp [hst,bits],by simp [hst,bits]⟩
  | k+1=>by
    have h1:=C9f s k;have h2:=B9r s k;have h3:=B13 s k;have h4:=D6E 5 (bOr .i64 (i64.wrap ((hst s k).1*2 ^ (min (u64.wrap (leA s k)).toNat i64.bits))) (coA s k)) ((hst s k).2.1+leA s k) (by omega) (by omega);simp only [hst,bits,A4];omega
theorem C9g(s:X0)(k:Nat)(h:k<=1000000000):(hst s k).2.2.length<=4000000000:=by
  have:=C9f s k;have:=B13 s k;omega
theorem D0o(s:X0)(a:List Int)(ha:a.length<=1000000000000)(hs:s.size<=1000000000)(k:Nat)(hk:k<s.size) :
    A0P s (lensT,()) (codesT,()) ((hst s k).1,(hst s k).2.1,(k:Int),a++(hst s k).2.2,())=some (.inl ((hst s (k+1)).1,(hst s (k+1)).2.1,((k+1:Nat):Int),a++(hst s (k+1)).2.2,())):=by
  have h1:(k:Int)<(s.size:Int):=by omega
  have h2:(0:Int)<=(k:Int):=by omega
  have h3:=C9P s k;have h4:bt s k<(lensT.length:Int):=by rw [T7];have:=C16 s k;omega
  have h5:bt s k<(codesT.length:Int):=by rw [A3P];have:=C16 s k;omega
  have h6:=B9r s k;have h7:=C9f s k;have h8:=C9g s k (by omega);simp only [A0P,A0 h1,A0 h2,A0 h3,A0 h4,A0 h5,B7,D3D,D3E,A9 (u64_nonneg _),B1];rw [w64 (n:=(hst s k).2.1+leA s k) (by omega) (by omega),C9e _ 5 _ _ _ (by omega) (by omega) (by omega) (by simp;omega),w64 (n:=(k:Int)+1) (by omega) (by omega)];simp only [hst,A8];rfl
theorem C7p(s:X0)(l:Int×Int×Int×List Int×Unit):B2D s (codesT.zip lensT) l=A0P s (lensT,()) (codesT,()) l:=by
  obtain ⟨v,n,k,o,u⟩:=l;simp only [B2D,A0P];by_cases h1:k<(s.size:Int)
  · by_cases h2:0<=k
    · obtain ⟨k,rfl⟩:=Int.eq_ofNat_of_zero_le h2
      have h3:=C9P s k;have h4:bt s k<(lensT.length:Int):=by rw [T7];have:=C16 s k;omega
      have h5:bt s k<(codesT.length:Int):=by rw [A3P];have:=C16 s k;omega
      have h6:bt s k<((codesT.zip lensT).length:Int):=by rw [A1B,A3P,T7];have:=C16 s k;omega
      have h7:0<(codesT.zip lensT).length:=by rw [A1B,A3P,T7];omega
      simp only [A0 h1,A0 h2,A0 h3,A0 h4,A0 h5,A0 h6,A0 h7,B7,D3D,D3E,C9d s k (codesT.zip lensT) rfl,D3F]
    · simp only [A9 h2,B1]
  · simp only [A9 h1,B1]
def A1T(s:X0):List Int:=
  if (hst s s.size).2.1>0 then (hst s s.size).2.2 ++ [u8.wrap (bOr .i64 (i64.wrap ((hst s s.size).1*2 ^ (min (u64.wrap (i64.wrap (8-(hst s s.size).2.1))).toNat i64.bits))) (i64.wrap ((i64.wrap (1*2 ^ (min (u64.wrap (i64.wrap (8-(hst s s.size).2.1))).toNat i64.bits)))-1)))] else (hst s s.size).2.2
theorem D0p(s:X0):((A1T s).length:Int)=(bits s s.size+7) / 8:=by
  have h:=C9f s s.size;have h2:=B13 s s.size;unfold A1T;split
  · simp only [A4,H2]
    omega
  · omega
theorem C5w(s:X0)(a:List Int)(ha:a.length<=1000000000000)(hs:s.size<=1000000000) :
    (A7 (G5 (A0P s (lensT,()) (codesT,())) (0,0,0,a,())) fun (m2:Int×Int×List Int×Unit)=>bif (decide (m2.2.1>0)) then bif decide ((u64.wrap (i64.wrap (8-m2.2.1)))<0) then none else bif decide ((u64.wrap (i64.wrap (8-m2.2.1)))<0) then none else bif decide (m2.2.2.1.length+([(u8.wrap (bOr .i64 (i64.wrap (m2.1*2 ^ (min (u64.wrap (i64.wrap (8-m2.2.1))).toNat i64.bits))) (i64.wrap ((i64.wrap (1*2 ^ (min (u64.wrap (i64.wrap (8-m2.2.1))).toNat i64.bits)))-1))))]:List Int).length<=9223372036854775807) then bif decide ((m2.2.2.1.length+([(u8.wrap (bOr .i64 (i64.wrap (m2.1*2 ^ (min (u64.wrap (i64.wrap (8-m2.2.1))).toNat i64.bits))) (i64.wrap ((i64.wrap (1*2 ^ (min (u64.wrap (i64.wrap (8-m2.2.1))).toNat i64.bits)))-1))))]:List Int).length)*1<=140737488355328) then some ((m2.2.2.1 ++ [(u8.wrap (bOr .i64 (i64.wrap (m2.1*2 ^ (min (u64.wrap (i64.wrap (8-m2.2.1))).toNat i64.bits))) (i64.wrap ((i64.wrap (1*2 ^ (min (u64.wrap (i64.wrap (8-m2.2.1))).toNat i64.bits)))-1))))]),()) else none else none else some (m2.2.2.1,()))=some (a++A1T s,()):=by
  have h1:G5 (A0P s (lensT,()) (codesT,())) (0,0,0,a,())=some ((hst s s.size).1,(hst s s.size).2.1,a++(hst s s.size).2.2,()):=by
    have:=I9 (A0P s (lensT,()) (codesT,())) (fun k=>((hst s k).1,(hst s k).2.1,(k:Int),a++(hst s k).2.2,())) s.size ((hst s s.size).1,(hst s s.size).2.1,a++(hst s s.size).2.2,()) (fun k hk=>D0o s a ha hs k hk) (by
      have h:¬ ((s.size:Nat):Int)<(s.size:Int):=by omega
      simp only [A0P,A9 h,B1])
    simpa [hst] using this
  have h8:=C9g s s.size (by omega);rw [h1];simp only [A7,A9 (u64_nonneg _),B1];by_cases h:(hst s s.size).2.1>0
  · rw [A0 h,B7,gA (by simp;omega),A1T,F9 h]
    simp
  · rw [A9 h,B1,A1T,D8 h]
theorem D0q(s:X0)(hs:s.size<=1000000000):B7L s=some (A1T s,()):=by
  have:=C5w s [] (by simp) hs;simp only [F5] at this;simp only [B7L,C0s,B9C,C49,A7];exact this
theorem D0r(s:X0)(a:List Int)(ha:a.length<=1000000000000)(hs:s.size<=1000000000):B7Q (codesT.zip lensT) a s=some (a++A1T s,()):=by
  simp only [B7Q,C14];rw [show B2D s (codesT.zip lensT)=A0P s (lensT,()) (codesT,()) from funext fun l=>C7p s l];exact C5w s a ha hs
theorem C4C(s:X0)(hs:s.size<=1000000000):A9d (codesT.zip lensT) s=some (((A1T s).length:Int),()):=by
  simp only [A9d,B4E];have h1:G5 (A2n s (codesT.zip lensT)) (0,0,())=some (bits s s.size,()):=by
    refine I9 (A2n s (codesT.zip lensT)) (fun k=>(bits s k,(k:Int),())) s.size _ (fun k hk=>?_) ?_
    · have h1:(k:Int)<(s.size:Int):=by omega
      have h2:(0:Int)<=(k:Int):=by omega
      have h3:=C9P s k;have h6:bt s k<((codesT.zip lensT).length:Int):=by rw [A1B,A3P,T7];have:=C16 s k;omega
      have h7:0<(codesT.zip lensT).length:=by rw [A1B,A3P,T7];omega
      have h8:=B13 s k;have h9:=B9r s k;simp only [A2n,A0 h1,A0 h2,A0 h3,A0 h6,A0 h7,B7,C9d s k (codesT.zip lensT) rfl];rw [w64 (by omega) (by omega),w64 (by omega) (by omega)];rfl
    · have h:¬ ((s.size:Nat):Int)<(s.size:Int):=by omega
      simp only [A2n,A9 h,B1]
  rw [h1];have h2:=B13 s s.size;simp only [A7];rw [w64 (n:=bits s s.size+7) (by omega) (by omega),D0p,P0 (by omega),w64 (by omega) (by omega)]
theorem D3G:∀ (k:Nat) (v n:Int),Byt (dr k v n).2.2
  | 0,v,n=>fun x hx=>by simp [dr] at hx
  | k+1,v,n=>by
    by_cases h:n>=8
    · have ih:=D3G k (A6T .i64 v (i64.wrap ((i64.wrap (1*2 ^ (min (u64.wrap (n-8)).toNat i64.bits)))-1))) (n-8)
      simp only [dr,F9 h];intro x hx;rcases B8.1 hx with rfl | hx
      · exact wrap_u8 _
      · exact ih x hx
    · simp only [dr,D8 h]
      exact fun x hx=>by cases hx
theorem C4D(s:X0):∀ k,Byt (hst s k).2.2
  | 0=>fun x hx=>by simp [hst] at hx
  | k+1=>A7f (C4D s k) (D3G _ _ _)
theorem D0s(s:X0):Byt (A1T s):=by
  unfold A1T;split
  · exact A7f (C4D s _) fun x hx=>by rcases A6.1 hx with rfl;exact wrap_u8 _
  · exact C4D s _
def B8J(s:X0):List Int:=if (A1T s).length<s.size then pfx 127 128 ((A1T s).length:Int)++A1T s else pfx 127 0 (s.size:Int)++bytesOf s
theorem C60(s:X0):(B8J s).length<=s.size+5:=by
  unfold B8J;split
  · have:=A9j 127 128 ((A1T s).length:Int);simp only [A4];omega
  · have:=A9j 127 0 (s.size:Int);simp only [A4,bytesOf_length];omega
theorem C1E(s:X0):Byt (B8J s):=by
  unfold B8J;split
  · exact A7f (B9q _ _ _) (D0s s)
  · exact A7f (B9q _ _ _) (C5l s)
theorem B4J(s:X0)(a:List Int)(ha:a.length<=100000000000)(hs:s.size<=16777216):A2k a s=some (a++B8J s,()):=by
  simp only [A2k,B08,D0q s (by omega),A7];by_cases h:(A1T s).length<s.size
  · have h':((A1T s).length:Int)<(s.size:Int):=by omega
    have hp:=A9j 127 128 ((A1T s).length:Int);rw [A0 h',B7,(B7f ((A1T s).length:Int) a (by omega) (by omega) (by omega)).1];simp only [];rw [gA (by simp only [A4];omega),B8J,F9 h,A8]
  · have h':¬ ((A1T s).length:Int)<(s.size:Int):=by omega
    have hp:=A9j 127 0 (s.size:Int);rw [A9 h',B1,(D3C (s.size:Int) a (by omega) (by omega) (by omega)).1];simp only [];rw [A0 (by simp only [A4];omega),B7,B8J,D8 h,A8]
theorem B4K(s:X0)(a:List Int)(ha:a.length<=100000000000)(hs:s.size<=16777216):A2o a s=some (a++B8J s,()):=by
  simp only [A2o,B0E,C4B,C4C s (by omega),A7];by_cases h:(A1T s).length<s.size
  · have h':((A1T s).length:Int)<(s.size:Int):=by omega
    have hp:=A9j 127 128 ((A1T s).length:Int);rw [A0 h',B7,(B7f ((A1T s).length:Int) a (by omega) (by omega) (by omega)).2];simp only [];rw [D0r s _ (by simp only [A4];omega) (by omega)];simp only [B8J,F9 h,A8]
  · have h':¬ ((A1T s).length:Int)<(s.size:Int):=by omega
    have hp:=A9j 127 0 (s.size:Int);rw [A9 h',B1,(D3C (s.size:Int) a (by omega) (by omega) (by omega)).2];simp only [];rw [A0 (by simp only [A4];omega),B7,B8J,D8 h,A8]
set_option maxRecDepth 100000
def fstS:X0:=⟨#[58,97,117,116,104,111,114,105,116,121,124,58,109,101,116,104,111,100,61,71,69,84,124,58,109,101,116,104,111,100,61,80,79,83,84,124,58,112,97,116,104,61,47,124,58,112,97,116,104,61,47,105,110,100,101,120,46,104,116,109,108,124,58,115,99,104,101,109,101,61,104,116,116,112,124,58,115,99,104,101,109,101,61,104,116,116,112,115,124,58,115,116,97,116,117,115,61,50,48,48,124,58,115,116,97,116,117,115,61,50,48,52,124,58,115,116,97,116,117,115,61,50,48,54,124,58,115,116,97,116,117,115,61,51,48,52,124,58,115,116,97,116,117,115,61,52,48,48,124,58,115,116,97,116,117,115,61,52,48,52,124,58,115,116,97,116,117,115,61,53,48,48,124,97,99,99,101,112,116,45,99,104,97,114,115,101,116,124,97,99,99,101,112,116,45,101,110,99,111,100,105,110,103,61,103,122,105,112,44,32,100,101,102,108,97,116,101,124,97,99,99,101,112,116,45,108,97,110,103,117,97,103,101,124,97,99,99,101,112,116,45,114,97,110,103,101,115,124,97,99,99,101,112,116,124,97,99,99,101,115,115,45,99,111,110,116,114,111,108,45,97,108,108,111,119,45,111,114,105,103,105,110,124,97,103,101,124,97,108,108,111,119,124,97,117,116,104,111,114,105,122,97,116,105,111,110,124,99,97,99,104,101,45,99,111,110,116,114,111,108,124,99,111,110,116,101,110,116,45,100,105,115,112,111,115,105,116,105,111,110,124,99,111,110,116,101,110,116,45,101,110,99,111,100,105,110,103,124,99,111,110,116,101,110,116,45,108,97,110,103,117,97,103,101,124,99,111,110,116,101,110,116,45,108,101,110,103,116,104,124,99,111,110,116,101,110,116,45,108,111,99,97,116,105,111,110,124,99,111,110,116,101,110,116,45,114,97,110,103,101,124,99,111,110,116,101,110,116,45,116,121,112,101,124,99,111,111,107,105,101,124,100,97,116,101,124,101,116,97,103,124,101,120,112,101,99,116,124,101,120,112,105,114,101,115,124,102,114,111,109,124,104,111,115,116,124,105,102,45,109,97,116,99,104,124,105,102,45,109,111,100,105,102,105,101,100,45,115,105,110,99,101,124,105,102,45,110,111,110,101,45,109,97,116,99,104,124,105,102,45,114,97,110,103,101,124,105,102,45,117,110,109,111,100,105,102,105,101,100,45,115,105,110,99,101,124,108,97,115,116,45,109,111,100,105,102,105,101,100,124,108,105,110,107,124,108,111,99,97,116,105,111,110,124,109,97,120,45,102,111,114,119,97,114,100,115,124,112,114,111,120,121,45,97,117,116,104,101,110,116,105,99,97,116,101,124,112,114,111,120,121,45,97,117,116,104,111,114,105,122,97,116,105,111,110,124,114,97,110,103,101,124,114,101,102,101,114,101,114,124,114,101,102,114,101,115,104,124,114,101,116,114,121,45,97,102,116,101,114,124,115,101,114,118,101,114,124,115,101,116,45,99,111,111,107,105,101,124,115,116,114,105,99,116,45,116,114,97,110,115,112,111,114,116,45,115,101,99,117,114,105,116,121,124,116,114,97,110,115,102,101,114,45,101,110,99,111,100,105,110,103,124,117,115,101,114,45,97,103,101,110,116,124,118,97,114,121,124,118,105,97,124,119,119,119,45,97,117,116,104,101,110,116,105,99,97,116,101]⟩
noncomputable def firstT:List B9:=match A9O with
  | some (x,_)=>x
  | none=> []
theorem C4E:A9O=some (firstT,()):=rfl
theorem B2W:firstT.length=61:=rfl
def fstP:List (List UInt8):=Lib.splitK [124] 0 (Lib.count fstS.data.toList [124]) fstS.data.toList
theorem D3H:(fstP.map fun x=>((Lib.cut x [61]).1,(Lib.cut x [61]).2.1))=firstT.map fun f=>(f.1.data.toList,f.2.data.toList):=by kernel_rfl
theorem D4n:(fstP.all fun x=>Nat.ble x.length 100)=true:=by kernel_rfl
theorem C7q:(Lib.splitB ⟨#[124]⟩ 0 (Lib.countB fstS ⟨#[124]⟩) fstS).map (·.data.toList)=fstP:=by
  rw [Lib.splitB_data];rfl
theorem D4o:fstS.size<4294967281:=by
  have:Nat.ble (fstS.size+1) 4294967281=true:=by kernel_rfl
  exact D7 this
theorem A3g{α β:Type}{f:α->Option (α⊕β)}{x y:α}(h:f x=some (.inl y)):G5 f x=G5 f y:=by rw [O2,h]
theorem D5A{l:List UInt8}{b:X0}(h:l=b.data.toList):(⟨l.toArray⟩:X0)=b:=by
  subst h;simp
theorem D0t(s:X0)(P:List (List UInt8))(F:List B9)(hs:s.size<4294967281)(h0:(Lib.splitB ⟨#[124]⟩ 0 (Lib.countB s ⟨#[124]⟩) s).map (·.data.toList)=P)
    (hP:(P.map fun x=>((Lib.cut x [61]).1,(Lib.cut x [61]).2.1))=F.map fun f=>(f.1.data.toList,f.2.data.toList)) (hz:(P.all fun x=>Nat.ble x.length 100)=true) :
    ∃ c:List X0,A5l s ⟨#[124]⟩=some (c,())/\c.length=F.length/\∀ k (h:k<c.length) (h2:k<F.length),∃ b,B9v c[k] ⟨#[61]⟩=some (F[k].1,F[k].2,b,()):=by
  have h1:(decide (s.size<4294967281)&&decide (1<=(⟨#[124]⟩:X0).size))=true:=by
    rw [A0 hs];rfl
  refine ⟨_,by simp only [A5l,h1,B7];rfl,?_,fun k hk hk3=>?_⟩
  · have:=T5 List.length h0
    rw [P1] at this;rw [this];have h2:=T5 List.length hP;rw [P1,P1] at h2;exact h2
  · generalize hc:Lib.splitB ⟨#[124]⟩ 0 (Lib.countB s ⟨#[124]⟩) s=c at *
    have e:=h0;have hk2:k<P.length:=by rw [<- e,P1];exact hk
    have e1:(c[k]).data.toList=P[k]:=by
      have:(c.map (·.data.toList))[k]? = P[k]?:=by rw [e]
      rw [L1,C1 hk,C1 hk2] at this;simpa using this
    have e2:((Lib.cut P[k] [61]).1,(Lib.cut P[k] [61]).2.1)=(F[k].1.data.toList,F[k].2.data.toList):=by
      have:(P.map fun x=>((Lib.cut x [61]).1,(Lib.cut x [61]).2.1))[k]? = (F.map fun f=>(f.1.data.toList,f.2.data.toList))[k]?:=by rw [hP]
      rw [L1,C1 hk2,L1,C1 hk3] at this;simpa only [N1,I6] using this
    have e3:(c[k]).size<=100:=by
      have h4:=D0.1 hz P[k] (J2 hk2);have h5:=D7 h4;rw [<- e1] at h5;exact h5
    refine ⟨(Lib.cut P[k] [61]).2.2,?_⟩;have e4:(c[k]).size<4294967281:=by omega
    have e5:(⟨#[61]⟩:X0).data.toList = [61]:=rfl;simp only [B9v,A0 e4,B7,e1,e5];rw [D5A (T5 Prod.fst e2),D5A (T5 Prod.snd e2)]
theorem B8K:A3D=some (firstT,()):=by
  obtain ⟨c,hc,hcl,hca⟩:=D0t fstS fstP firstT D4o C7q D3H D4n;have e0:A3D=A7 (A5l fstS ⟨#[124]⟩) fun c7=>G5 (A0L B9v c7) (0,[],()):=rfl
  rw [e0,hc];simp only [A7];have hF:=B2W;generalize firstT=F at *
  refine (I9 (A0L B9v (c,())) (fun k=>((k:Int),F.take k,())) 61 (F,()) (fun k hk=>?_) ?_)
  · have h1:(k:Int)<(c.length:Int):=by omega
    have h2:(0:Int)<=(k:Int):=by omega
    obtain ⟨b,hb⟩:=hca k (by omega) (by omega);have h6:rd .str c (k:Int)=c[k]'(by omega):=A0S (k:=.str) (by omega);simp only [A0L,A0 h1,A0 h2,B7,h6,hb,A7];rw [C7n (by simp;omega),w64 (by omega) (by omega)];have e7:F.take (k+1)=F.take k ++ [(F[k]'(by omega))]:=by
      rw [L2 (by omega)]
    rw [e7];rfl
  · have h1:¬ ((61:Nat):Int)<(c.length:Int):=by omega
    simp only [A0L,A9 h1,B1];rw [G2 (by omega)]
theorem C61(F T:List B9)(h1:F.length<=1000000000)(h2:T.length<=1000000000):L7 [F,T]=some (F++T,()):=by
  have r0:rd (.sl 150 B6) ([F,T]:List (List B9)) 0=F:=rfl;have r1:rd (.sl 150 B6) ([F,T]:List (List B9)) 1=T:=rfl;have hl:(([F,T]:List (List B9)).length:Int)=2:=rfl;have d0:decide ((0:Int)<2)=true:=rfl;have d1:decide ((0:Int)<=0)=true:=rfl;have d2:decide ((1:Int)<2)=true:=rfl;have d3:decide ((0:Int)<=1)=true:=rfl;have a1:G5 (K7 [F,T]) (0,0,())=some ((F.length:Int)+T.length,()):=by
    rw [A3g (y:=((F.length:Int),1,())) (by
      simp only [K7,hl,r0,d0,d1,B7,Int.zero_add];rw [w64 (n:=(F.length:Int)) (by omega) (by omega),A9 (p:=(F.length:Int)<0) (by omega)];rfl)]
    rw [A3g (y:=((F.length:Int)+T.length,2,())) (by
      simp only [K7,hl,r1,d2,d3,B7];rw [w64 (n:=(F.length:Int)+T.length) (by omega) (by omega),A9 (p:=(F.length:Int)+T.length<0) (by omega)];rfl)]
    rw [O2];rfl
  have a2:B7r ([]:List B9) ((F.length:Int)+T.length)=some ([],()):=by
    have:(([]:List B9).isEmpty&&decide (0<=(F.length:Int)+T.length)&&decide ((F.length:Int)+T.length<=1000000000000))=true:=by
      rw [A0 (by omega),A0 (by omega)];rfl
    simp only [B7r,this,B7]
  have a3:G5 (K8 [F,T]) (0,[],())=some (F++T,()):=by
    rw [A3g (y:=(1,F,())) (by
      simp only [K8,hl,r0,d0,d1,B7];rw [C7n (by simp;omega)];rfl)]
    rw [A3g (y:=(2,F++T,())) (by
      simp only [K8,hl,r1,d2,d3,B7];rw [C7n (by omega)];rfl)]
    rw [O2];rfl
  simp only [L7,P4,a1,A7];rw [show Q7=B7r from rfl,a2];exact a3
def B2a(all:List B9)(f:B9):Nat->Int
  | 0=>0
  | k+1=>if B2a all f k=0 then (if ((rd B6 all (k:Int)).1.toList == f.1.toList) then (k:Int)+1 else 0) else B2a all f k
theorem C62(all:List B9)(f:B9):∀ k:Nat,0<=B2a all f k/\B2a all f k<=k
  | 0=>⟨A3m _,A3m _⟩
  | k+1=>by
    have:=C62 all f k;simp only [B2a];split
    · split<;>omega
    · omega
def exa(all:List B9)(f:B9)(k:Nat):Bool:=!eqB [(rd B6 all (k:Int)).1,(rd B6 all (k:Int)).2] [f.1,f.2]
def fnd(all:List B9)(f:B9)(k:Nat):(Int×Unit)⊕(Int×Bool×Unit):=if k<all.length then .inr ((k:Int)+1,true,()) else .inl (B2a all f all.length,())
def B14(all:List B9)(f:B9):Int×Bool:=
  if A2d (exa all f) 0 all.length<all.length then ((A2d (exa all f) 0 all.length:Int)+1,true) else (B2a all f all.length,false)
theorem D0u(all:List B9)(f:B9):0<=(B14 all f).1/\(B14 all f).1<=all.length:=by
  unfold B14;split
  · exact ⟨by simp only [];omega,by simp only [];omega⟩
  · exact C62 all f all.length
theorem C63(all:List B9)(f:B9)(hl:all.length<=1000000000)(k:Nat)(hk:k<all.length) :
    A0I (all,()) f (B2a all f k,(k:Int),())=if exa all f k then some (.inl (B2a all f (k+1),((k+1:Nat):Int),())) else some (.inr (fnd all f k)):=by
  have h1:(k:Int)<(all.length:Int):=by omega
  have h2:(0:Int)<=(k:Int):=by omega
  simp only [A0I,A0 h1,A0 h2,B7];rw [w64 (by omega) (by omega)];unfold exa fnd;cases eqB [(rd B6 all (k:Int)).1,(rd B6 all (k:Int)).2] [f.1,f.2] with
  | true=>simp only [B7,G9,F9 hk];rfl
  | false=>
    simp only [B1,A93,Q5,B2a];by_cases hb:B2a all f k=0
    · simp only [hb,A1r,B7,Q5]
      cases ((rd B6 all (k:Int)).1.toList == f.1.toList)<;>simp
    · simp only [A9 hb,B1,D8 hb]
      rfl
theorem C9h(all:List B9)(f:B9):(S0 (some (fnd all f (A2d (exa all f) 0 all.length))) fun (m1:Int×Unit)=>some (m1.1,false,()))=some ((B14 all f).1,(B14 all f).2,()):=by
  unfold B14 fnd;by_cases h:A2d (exa all f) 0 all.length<all.length
  · simp only [F9 h,S0]
  · simp only [D8 h,S0]
theorem C7r(all:List B9)(f:B9)(hl:all.length<=1000000000):(S0 (G5 (A0I (all,()) f) (0,0,())) fun (m1:Int×Unit)=>some (m1.1,false,()))=some ((B14 all f).1,(B14 all f).2,()):=by
  have:=B4H (A0I (all,()) f) (fun k=>(B2a all f k,(k:Int),())) all.length (fnd all f) (exa all f) (fun k hk=>C63 all f hl k hk) (by
    have h1:¬ ((all.length:Nat):Int)<(all.length:Int):=by omega
    have h2:¬ all.length<all.length:=by omega
    simp only [A0I,A9 h1,B1,fnd,D8 h2])
  rw [show ((0:Int),(0:Int),())=(fun k:Nat=>(B2a all f k,(k:Int),())) 0 from rfl,this];exact C9h all f
theorem C1F(t:F0)(f:B9)(h:t.2.length<=900000000):A63 t f=some ((B14 (firstT++t.2) f).1,(B14 (firstT++t.2) f).2,()):=by
  have hF:=B2W;have:=C7r (firstT++t.2) f (by rw [A4];omega);simp only [A63,B0C,B8K,A7,C61 firstT t.2 (by omega) (by omega)];exact this
theorem D4p{F T:List B9}{k:Nat}(h:k<F.length):rd B6 (F++T) (k:Int)=rd B6 F (k:Int):=by
  unfold rd;simp only [E2,C6];rw [E5 h]
theorem D4q{F T:List B9}{k:Nat}{i:Int}(h:F.length<=k)(hi:i=(k:Int)-F.length):rd B6 (F++T) (k:Int)=rd B6 T i:=by
  subst hi;unfold rd;rw [show ((k:Int)-F.length).toNat=k-F.length by omega];simp only [E2,C6];rw [E7 h]
theorem C64(t:F0)(F:List B9)(hF:F.length=61)(f:B9)(hl:t.2.length<=900000000)(k:Nat)(hk:k<(F++t.2).length) :
    A19 t (F,()) f (B2a (F++t.2) f k,(k:Int)+1,())=if exa (F++t.2) f k then some (.inl (B2a (F++t.2) f (k+1),((k+1:Nat):Int)+1,())) else some (.inr (fnd (F++t.2) f k)):=by
  have hk':=hk;rw [A4,hF] at hk';have h0:i64.wrap (61+(t.2.length:Int))=61+t.2.length:=w64 (by omega) (by omega);have h1:(k:Int)+1<=61+t.2.length:=by omega
  have hm:(bif (decide ((k:Int)+1<=61)) then bif decide (0<=(i64.wrap ((k:Int)+1-1))) then bif decide ((i64.wrap ((k:Int)+1-1))<(F.length:Int)) then some ((rd B6 F (i64.wrap ((k:Int)+1-1))).1,(rd B6 F (i64.wrap ((k:Int)+1-1))).2,()) else none else none else bif decide (0<=(i64.wrap ((k:Int)+1-62))) then bif decide ((i64.wrap ((k:Int)+1-62))<(t.2.length:Int)) then some ((rd B6 t.2 (i64.wrap ((k:Int)+1-62))).1,(rd B6 t.2 (i64.wrap ((k:Int)+1-62))).2,()) else none else none)
      = some ((rd B6 (F++t.2) (k:Int)).1,(rd B6 (F++t.2) (k:Int)).2,()):=by
    by_cases h2:(k:Int)+1<=61
    · have e1:i64.wrap ((k:Int)+1-1)=(k:Int):=by rw [w64 (by omega) (by omega)];omega
      rw [A0 h2,B7,e1,A0 (by omega),A0 (by omega),D4p (by omega)];rfl
    · have e1:i64.wrap ((k:Int)+1-62)=(k:Int)-61:=by rw [w64 (by omega) (by omega)];omega
      rw [A9 h2,B1,e1,A0 (by omega),A0 (by omega),D4q (T:=t.2) (i:=(k:Int)-61) (by omega) (by omega)];rfl
  simp only [A19,h0,A0 h1,B7];rw [hm];simp only [A7];rw [w64 (by omega) (by omega)];unfold exa fnd;cases eqB [(rd B6 (F++t.2) (k:Int)).1,(rd B6 (F++t.2) (k:Int)).2] [f.1,f.2] with
  | true=>simp only [B7,G9,F9 hk];rfl
  | false=>
    simp only [B1,A93,Q5,B2a];by_cases hb:B2a (F++t.2) f k=0
    · simp only [hb,A1r,B7,Q5]
      cases ((rd B6 (F++t.2) (k:Int)).1.toList == f.1.toList)<;>simp
    · simp only [A9 hb,B1,D8 hb]
      rfl
theorem C1G(t:F0)(f:B9)(h:t.2.length<=900000000):A5q t f=some ((B14 (firstT++t.2) f).1,(B14 (firstT++t.2) f).2,()):=by
  have hF:=B2W;simp only [A5q,B06,C4E,A7];generalize firstT=F at *
  have:=B4H (A19 t (F,()) f) (fun k=>(B2a (F++t.2) f k,(k:Int)+1,())) (F++t.2).length (fnd (F++t.2) f) (exa (F++t.2) f) (fun k hk=>C64 t F hF f h k hk) (by
    have h0:i64.wrap (61+(t.2.length:Int))=61+t.2.length:=w64 (by omega) (by omega);have h1:¬ (((F++t.2).length:Nat):Int)+1<=61+t.2.length:=by rw [A4];omega
    have h2:¬ (F++t.2).length<(F++t.2).length:=by omega
    simp only [A19,h0,A9 h1,B1,fnd,D8 h2])
  rw [show ((0:Int),(1:Int),())=(fun k:Nat=>(B2a (F++t.2) f k,(k:Int)+1,())) 0 from rfl,this];exact C9h (F++t.2) f
set_option maxRecDepth 100000
def ofF(f:B9):Int:=(f.1.size:Int)+f.2.size+32
def szT:List B9->Int
  | []=>0
  | f::fs=>ofF f+szT fs
theorem B7g(f:B9):32<=ofF f:=by unfold ofF;omega
theorem A3F:∀ fs:List B9,32*(fs.length:Int)<=szT fs
  | []=>by simp [szT]
  | f::fs=>by
    have:=A3F fs;have:=B7g f;simp only [szT,H0];omega
theorem C4F:∀ a b:List B9,szT (a++b)=szT a+szT b
  | [],b=>by simp [szT]
  | f::a,b=>by simp only [C8,szT,C4F a b];omega
theorem C4G(fs:List B9)(i:Nat):szT (fs.take i)<=szT fs:=by
  have h:=C4F (fs.take i) (fs.drop i);rw [O0] at h;have:=A3F (fs.drop i);omega
theorem C65(fs:List B9){i j:Nat}(h:i<=j):szT (fs.take i)<=szT (fs.take j):=by
  have:=C4G (fs.take j) i;rw [O9,T3 h] at this;exact this
theorem C66(fs:List B9){i:Nat}(h:i<fs.length):szT (fs.take (i+1))=szT (fs.take i)+ofF fs[i]:=by
  rw [L2 h,C4F];simp [szT]
theorem C9i(f:B9)(h:ofF f<=10000000000000):A8F f=some (ofF f,()):=by
  unfold ofF at *
  simp only [A8F,B7J];rw [w64 (n:=(f.1.size:Int)+f.2.size) (by omega) (by omega),w64 (by omega) (by omega)]
theorem C67(f:B9)(h:ofF f<=10000000000000):A8K f=some (ofF f,()):=C9i f h
theorem B2b(m:Int)(fs:List B9)(h:szT fs<=10000000000000):A3M (m,fs)=some (szT fs,()):=by
  have hl:=A3F fs;simp only [A3M,B66];refine I9 (A20 A8F (m,fs)) (fun i=>(szT (fs.take i),(i:Int),())) fs.length _ (fun i hi=>?_) ?_
  · have h1:(i:Int)<(fs.length:Int):=by omega
    have h2:(0:Int)<=(i:Int):=by omega
    have h3:=C66 fs hi;have h4:=C4G fs (i+1);have h5:=A3F (fs.take i);have h6:rd B6 fs (i:Int)=fs[i]:=A0S (k:=B6) hi;have h7:=B7g fs[i];simp only [A20,A0 h1,A0 h2,B7,h6];rw [C9i _ (by omega)];simp only [A7];rw [w64 (n:=szT (fs.take i)+ofF fs[i]) (by omega) (by omega),w64 (by omega) (by omega),h3];rfl
  · have h1:¬ ((fs.length:Nat):Int)<(fs.length:Int):=by omega
    simp only [A20,A9 h1,B1];rw [G2 (by omega)]
theorem C68(xs:List B9)(h:xs.length<=1000000000):I7 xs=some (xs,()):=by
  simp only [I7,Q0];rw [C7n (by simp;omega)];by_cases h0:0<xs.length
  · rw [A0 h0,B7];rfl
  · rw [A9 h0,B1]
    have:xs = []:=A0n.1 (by omega);subst this;simp [eqO]
theorem B5H(t:F0)(h:t.2.length<=1000000000):A5E t=some (t,()):=by
  simp only [A5E,B68];rw [C7n (by simp;omega)];rfl
theorem B2c(t:F0)(h:t.2.length<=1000000000):A2l t=some (t,()):=by
  simp only [A2l,B0A,C68 t.2 h,A7]
theorem D6F(m:Int)(fs:List B9)(hm:0<=m)(hm2:m<=1000000)(hs:szT fs<=1000000000) :
    ∃ k,k<=fs.length/\(k<fs.length->decide (0<=m-szT (fs.take (k+1)))=false)/\A1f (m,fs)=some ((m,fs.take k),())/\szT (fs.take k)<=m:=by
  have hl:=A3F fs;obtain ⟨k,hk,ht,hf,he⟩:=B6O (A2A A8K I7 (m,fs)) (fun i=>(m-szT (fs.take i),(i:Int),())) fs.length (fun i=>((m,fs.take i),())) (fun i=>decide (0<=m-szT (fs.take (i+1)))) (fun i hi=>by
    have h1:(i:Int)<(fs.length:Int):=by omega
    have h2:(0:Int)<=(i:Int):=by omega
    have h22:(i:Int)<=(fs.length:Int):=by omega
    have h3:=C66 fs hi;have h4:=C4G fs (i+1);have h5:=A3F (fs.take i);have h6:rd B6 fs (i:Int)=fs[i]:=A0S (k:=B6) hi;have h7:=B7g fs[i];have h8:=A3F (fs.take (i+1));simp only [A2A,A0 h1,A0 h2,A0 h22,B7,h6,A0l,E2];rw [C67 _ (by omega),C68 _ (by simp;omega)];simp only [A7];rw [w64 (n:=m-szT (fs.take i)-ofF fs[i]) (by omega) (by omega),w64 (n:=(i:Int)+1) (by omega) (by omega)];by_cases hq:0<=m-szT (fs.take (i+1))
    · rw [A9 (by omega),B1,A0 hq,F9 rfl,h3]
      rw [show m-szT (fs.take i)-ofF fs[i]=m-(szT (fs.take i)+ofF fs[i]) by omega];rfl
    · rw [A0 (by omega),B7,A9 hq]
      rfl) (by
    have h1:¬ ((fs.length:Nat):Int)<(fs.length:Int):=by omega
    simp only [A2A,A9 h1,B1];rw [G2 (by omega)])
  have hkm:szT (fs.take k)<=m:=by
    cases k with
    | zero=>simp [szT];omega
    | succ k=>have:=B0 (ht k (by omega));omega
  refine ⟨k,hk,hf,?_,hkm⟩;simp only [A1f,A8M];have e0:(m,(0:Int),())=(fun i:Nat=>(m-szT (fs.take i),(i:Int),())) 0:=by simp [szT]
  rw [e0];exact he
theorem D5o(m:Int)(fs:List B9)(hm:0<=m)(hm2:m<=1000000)(hs:szT fs<=1000000000) :
    ∃ k,A1f (m,fs)=some ((m,fs.take k),())/\A38 (m,fs)=some ((m,fs.take k),())/\szT (fs.take k)<=m:=by
  have hl:=A3F fs;obtain ⟨k,hk,hf,hi,hkm⟩:=D6F m fs hm hm2 hs;refine ⟨k,hi,?_,hkm⟩
  · simp only [A38,A6t]
    refine D0b (A48 A3M) (fun x=>x.2.1.length) (fun x=>x.1=m/\∃ j,k<=j/\j<=fs.length/\x.2.1=fs.take j) _ (fun x hx=>?_) (m,fs,()) ⟨rfl,fs.length,hk,C5 _,by rw [G2 (by omega)]⟩;obtain ⟨a,b,u⟩:=x;obtain ⟨e1,j,hj1,hj2,e2⟩:=hx;simp only at e1 e2;subst e1 e2;have h4:=C4G fs j;have hjl:(fs.take j).length=j:=by rw [B3];omega
    simp only [A48];rw [B2b _ _ (by omega)];simp only [A7];by_cases hq:szT (fs.take j)>a
    · left
      have hjk:k<j:=by
        rcases Nat.lt_or_ge k j with h | h
        · exact h
        · have:=C65 fs h;omega
      have e3:i64.wrap (((fs.take j).length:Int)-1)=((j-1:Nat):Int):=by rw [w64 (by omega) (by omega)];omega
      rw [A0 hq,B7,e3,A0 (by omega),A0 (by omega)];refine ⟨(a,fs.take (j-1),()),?_,⟨rfl,j-1,by omega,by omega,rfl⟩,by simp only [B3];omega⟩;simp only [B7,E2,A0l,O9];rw [T3 (by omega)]
    · right
      rw [A9 hq,B1];have hjk:j=k:=by
        rcases Nat.lt_or_ge k j with h | h
        · have h5:=A90 (hf (by omega))
          have:=C65 fs (i:=k+1) (j:=j) (by omega);omega
        · omega
      rw [hjk]
theorem D5p(t:F0)(f:B9)(hm:0<=t.1)(hm2:t.1<=1000000)(hs:szT t.2+ofF f<=1000000000) :
    ∃ T,A61 t f=some ((t.1,T),())/\A3A t f=some ((t.1,T),())/\szT T<=t.1:=by
  obtain ⟨m,fs⟩:=t;have hl:=A3F fs;have hf:=B7g f;simp only at hm hm2 hs;obtain ⟨k,h1,h2,h3⟩:=D5o m (f::fs) hm hm2 (by simp only [szT];omega);refine ⟨(f::fs).take k,?_,?_,h3⟩
  · have e:C3N fs 0 [f]=some (f::fs,()):=by
      simp only [C3N];rw [A0 (by omega),A0 (by omega),A0 (by simp),A0 (by simp;omega)];rfl
    simp only [A61,B0B,show P3=C3N from rfl,e,A7,h1]
  · simp only [A3A,A6u]
    rw [C7n (by simp;omega)];simp only [T6,C8,F5,h2,A7]
def B9D(t:F0):Prop:=0<=t.1/\t.1<=4096/\szT t.2<=t.1
theorem C4H{t:F0}(h:B9D t):t.2.length<=128:=by
  have:=A3F t.2;obtain ⟨h0,h1,h2⟩:=h;omega
theorem D3I{t:F0}(h:B9D t):U6 t=some (true,()):=by
  obtain ⟨h0,h1,h2⟩:=h;obtain ⟨m,fs⟩:=t;simp only at h0 h1 h2;simp only [U6,A6V,A11,A7,B2b m fs (by omega)];rw [A0 ⟨h0,h1⟩,A0 h2];rfl
theorem D5q{t:F0}(hs:szT t.2<=10000000000000)(h:U6 t=some (true,())):B9D t:=by
  obtain ⟨m,fs⟩:=t;simp only at hs;simp only [U6,A6V,A11,A7,B2b m fs hs] at h;by_cases h1:0<=m/\m<=4096
  · rw [A0 h1,B7] at h
    simp only [I6,B5q,K2,and_true] at h;exact ⟨h1.1,h1.2,h⟩
  · rw [A9 h1,B1] at h
    simp at h
theorem bO{A B:Type}(x:A)(f:A->Option B):A7 (some x) f=f x:=rfl
theorem bSl{A B:Type}(x:A)(f:A->Option B):S0 (some (Sum.inl x)) f=f x:=rfl
theorem bSr{A B:Type}(y:B)(f:A->Option B):S0 (some (Sum.inr y)) f=some y:=rfl
theorem put_eq(t:F0)(f:B9)(q:Int)(hq:q=1\/q=3)(ht:B9D t)(h1:f.1.size<=10000)(h2:f.2.size<=10000)(b:List Int)(hb:b.length<=1000000000) :
    ∃ r T,R6 t f q=some (r,(t.1,T),())/\A0R t b f q=some (b++r,(t.1,T),())/\B9D (t.1,T)/\r.length<=30000/\Byt r:=by
  have hl:=C4H ht;have hr:=D0u (firstT++t.2) f;have hF:=B2W;rw [A4] at hr;obtain ⟨ht0,ht1,ht2⟩:=ht;have hcp:=B5H t (by omega);have hok:=D3I ⟨ht0,ht1,ht2⟩;have hfs:=C1G t f (by omega);have hfi:=C1F t f (by omega);generalize B14 (firstT++t.2) f=w at *
  obtain ⟨j,found⟩:=w;simp only at hr hfs hfi;have hq13:1<=q/\q<=3:=by omega
  have hcase:(found=true/\¬ q=3)\/¬ (found=true/\¬ q=3):=Classical.em _;simp only [R6,A3O,A0R,B0F,hcp,hok,hfs,hfi,A11,A0 hq13,bO,bSl,bSr,G9,B1];rcases hcase with ⟨hf,hq3⟩ | hnf
  · subst hf
    have hj:¬ (j:Int)<0:=by omega
    simp only [A9 hq3,B7,A93];rw [(B7f j [] (by omega) (by omega) (by simp)).1,(B7f j b (by omega) (by omega) (by omega)).2];have:=A9j 127 128 j;exact ⟨pfx 127 128 j,t.2,rfl,rfl,⟨ht0,ht1,ht2⟩,by omega,B9q _ _ _⟩
  · -- in full
    have e1:(bif found then some ((!decide (q=3)),()) else some (false,()))=some (false,()):=by
      cases found with
      | false=>rfl
      | true=>
        have:q=3:=by
          rcases Classical.em (q=3) with h | h
          · exact h
          · exact absurd ⟨rfl,h⟩ hnf
        rw [this];rfl
    have e2:(bif found then bif (!decide (q=3)) then (A7 (A0Q b 7 128 j) fun c28=>some (.inr (c28.1,t,()))) else some (.inl ()) else some (.inl ()))=some (Sum.inl (β:=List Int×F0×Unit) ()):=by
      cases found with
      | false=>rfl
      | true=>
        have:q=3:=by
          rcases Classical.em (q=3) with h | h
          · exact h
          · exact absurd ⟨rfl,h⟩ hnf
        rw [this];rfl
    rw [e1];simp only [B1,bO,bSl,bSr];rw [e2];simp only [bO,bSl,bSr];obtain ⟨n,fl,M,hP,hM1,hM2⟩:∃ n fl M,Pf n fl M/\B69 q=some (n,fl,())/\B6J q=some (n,fl,()):=by
      rcases hq with rfl | rfl
      · exact ⟨6,64,63,D4l,rfl,rfl⟩
      · exact ⟨4,16,15,D4m,rfl,rfl⟩
    rw [hM1,hM2];simp only [bO,bSl,bSr];have p1:=(hP j [] (by omega) (by omega) (by simp)).1;have p2:=(hP j b (by omega) (by omega) (by omega)).2;rw [p1,p2];have hpl:=A9j M fl j;have hpb:=B9q M fl j;generalize pfx M fl j=p at *
    simp only [F5,bO];obtain ⟨p',hp1,hp2,hp3,hp4⟩:∃ p',(bif (decide (j=0)) then (A7 (A2k p f.1) fun c56=>some (c56.1,())) else some (p,()))=some (p',())/\(bif (decide (j=0)) then (A7 (A2o (b++p) f.1) fun c56=>some (c56.1,())) else some (b++p,()))=some (b++p',())/\p'.length<=10020/\Byt p':=by
      by_cases hj:j=0
      · refine ⟨p++B8J f.1,?_,?_,?_,A7f hpb (C1E _)⟩
        · rw [A0 hj,B7,B4J _ _ (by omega) (by omega),bO]
        · rw [A0 hj,B7,B4K _ _ (by simp only [A4];omega) (by omega),bO]
          simp only [A8]
        · have:=C60 f.1
          simp only [A4];omega
      · exact ⟨p,by rw [A9 hj,B1],by rw [A9 hj,B1],by omega,hpb⟩
    rw [hp1,hp2];simp only [bO,bSl,bSr];rw [B4J _ _ (by omega) (by omega),B4K _ _ (by simp only [A4];omega) (by omega)];have hsl:=C60 f.2;simp only [bO,bSl,bSr];rcases hq with rfl | rfl
    · obtain ⟨T,a1,a2,a3⟩:=D5p t f ht0 (by omega) (by unfold ofF;omega)
      rw [a1,a2];exact ⟨p'++B8J f.2,T,rfl,by simp only [A8];rfl,⟨ht0,ht1,a3⟩,by simp only [A4];omega,A7f hp4 (C1E _)⟩
    · exact ⟨p'++B8J f.2,t.2,rfl,by simp only [A8];rfl,⟨ht0,ht1,ht2⟩,by simp only [A4];omega,A7f hp4 (C1E _)⟩
set_option maxRecDepth 100000
def itB(n:Int):X0:=⟨(Lib.itoa n).toArray⟩
theorem C3Q{n:Int}(h0:0<=n)(h1:n<10):itB n=strOf [u8.wrap (i64.wrap (48+n))]:=by
  have h2:u8.wrap (48+n)=48+n:=by
    simp only [IntKind.wrap,IntKind.bits,IntKind.signed,A92];simp;omega
  rw [w64 (by omega) (by omega),h2];unfold itB strOf strOfNums Lib.itoa;rw [D8 (by omega),Lib.decDigits_one (by omega)];simp only [G4,A7v];rw [show (48+n).toNat=48+n.toNat by omega]
theorem C9j{n:Int}(h1:¬ n<10):itB n=itB (n / 10)++strOf [u8.wrap (i64.wrap (48+n % 10))]:=by
  have h2:u8.wrap (48+n % 10)=48+n % 10:=by
    simp only [IntKind.wrap,IntKind.bits,IntKind.signed,A92];simp;omega
  rw [w64 (by omega) (by omega),h2];apply ByteArray.ext;rw [ByteArray.data_append];unfold itB strOf strOfNums Lib.itoa;rw [D8 (by omega),D8 (by omega),Lib.decDigits,dif_neg (by omega)];simp only [G4,A7v];rw [show (48+n % 10).toNat=48+n.toNat % 10 by omega,show (n / 10).toNat=n.toNat / 10 by omega];simp
theorem B4L(x:Int):(strOf [x]).size=1:=by rw [B6T];rfl
theorem A2s(f:Int->Option (X0×Unit))(N:Int)(s:Nat)(hs:s<=1000)(hN:N<=1000000000000)(hf:∀ n,1<=n->n<N->f n=some (itB n,())/\(itB n).size<=s)(n:Int)(h0:0<=n)(h1:n<10*N) :
    A0e f n=some (itB n,())/\(itB n).size<=s+1:=by
  by_cases h:n<10
  · refine ⟨?_,?_⟩
    · simp only [A0e,A0 h,B7]
      rw [<- C3Q h0 h]
    · rw [C3Q h0 h,B4L];omega
  · obtain ⟨e,hl⟩:=hf (n / 10) (by omega) (by omega)
    have e1:n.tdiv 10=n / 10:=P0 h0;have e2:n.tmod 10=n % 10:=Int.tmod_eq_emod_of_nonneg h0;refine ⟨?_,by rw [C9j h,B3b,B4L];omega⟩;simp only [A0e,A9 h,B1,e1,e2];rw [w64 (n:=n / 10) (by omega) (by omega),e];simp only [A7,B4L];rw [A9 (by simp only [IntKind.max,IntKind.signed,IntKind.bits];simp;omega),B1,<- C9j h]
theorem C9k(n:Int)(h0:0<=n)(h1:n<=4294967295):B6D n=some (itB n,())/\(itB n).size<=10:=by
  have a1:=A2s A8D 1 0 (by omega) (by omega) (fun n h h'=>by omega);have a2:=A2s A5I 10 1 (by omega) (by omega) (fun n h h'=>a1 n (by omega) (by omega));have a3:=A2s A5J 100 2 (by omega) (by omega) (fun n h h'=>a2 n (by omega) (by omega));have a4:=A2s A5K 1000 3 (by omega) (by omega) (fun n h h'=>a3 n (by omega) (by omega));have a5:=A2s A5L 10000 4 (by omega) (by omega) (fun n h h'=>a4 n (by omega) (by omega));have a6:=A2s A5M 100000 5 (by omega) (by omega) (fun n h h'=>a5 n (by omega) (by omega));have a7:=A2s A5N 1000000 6 (by omega) (by omega) (fun n h h'=>a6 n (by omega) (by omega));have a8:=A2s A5O 10000000 7 (by omega) (by omega) (fun n h h'=>a7 n (by omega) (by omega));have a9:=A2s A5P 100000000 8 (by omega) (by omega) (fun n h h'=>a8 n (by omega) (by omega));have a10:=A2s A5Q 1000000000 9 (by omega) (by omega) (fun n h h'=>a9 n (by omega) (by omega));exact a10 n h0 (by omega)
theorem C9l(n:Int)(h0:0<=n)(h1:n<=4294967295):A43 n=some (itB n,()):=by
  have e:(decide (-9223372036854775808<=n)&&decide (n<=9223372036854775807))=true:=by
    rw [A0 (by omega),A0 (by omega)];rfl
  rw [show A43 n=B9w n from rfl];simp only [B9w,e,B7];rfl
theorem C4I(t:F0)(fs:List B9)(ht:B9D t)(hl:fs.length<=1000)(hf:∀ f∈fs,f.1.size<=10000/\f.2.size<=10000) :
    ∃ r T,A0W t fs=some (r,(t.1,T),())/\A66 t fs=some (r,(t.1,T),())/\B9D (t.1,T)/\r.length<=30000*fs.length/\Byt r:=by
  have htl:=C4H ht;have key:∀ k,k<=fs.length->∃ T r,B9D (t.1,T)/\(r.length<=30000*k/\Byt r)/\G5 (N9 R6 fs) (0,t.1,t.2,[],())=G5 (N9 R6 fs) ((k:Int),t.1,T,r,())
      /\G5 (V9 A0R fs) (0,t.1,t.2,[],())=G5 (V9 A0R fs) ((k:Int),t.1,T,r,()):=by
    intro k
    induction k with
    | zero=>intro _;exact ⟨t.2,[],ht,⟨by simp,fun x hx=>by cases hx⟩,rfl,rfl⟩
    | succ k ih=>
      intro hk;obtain ⟨T,r,h1,⟨h2,h5⟩,h3,h4⟩:=ih (by omega);have hlt:k<fs.length:=by omega
      have a1:(k:Int)<(fs.length:Int):=by omega
      have a2:(0:Int)<=(k:Int):=by omega
      have a3:rd B6 fs (k:Int)=fs[k]:=A0S (k:=B6) hlt;have a4:=hf fs[k] (J2 hlt);cases hq:(fs[k].1.toList == (⟨#[97,117,116,104,111,114,105,122,97,116,105,111,110]⟩:X0).toList) with
      | true=>
        obtain ⟨r',T',b1,b2,b3,b4,b5⟩:=put_eq (t.1,T) fs[k] 3 (Or.inr rfl) h1 a4.1 a4.2 r (by omega);refine ⟨T',r++r',b3,⟨by simp only [A4];omega,A7f h5 b5⟩,?_,?_⟩
        · rw [h3]
          refine A3g ?_;simp only [N9,A0 a1,A0 a2,B7,a3,hq,bO,b1];rw [gA (by omega),w64 (by omega) (by omega)];rfl
        · rw [h4]
          refine A3g ?_;simp only [V9,A0 a1,A0 a2,B7,a3,hq,bO,b2];rw [w64 (by omega) (by omega)];rfl
      | false=>
        obtain ⟨r',T',b1,b2,b3,b4,b5⟩:=put_eq (t.1,T) fs[k] 1 (Or.inl rfl) h1 a4.1 a4.2 r (by omega);refine ⟨T',r++r',b3,⟨by simp only [A4];omega,A7f h5 b5⟩,?_,?_⟩
        · rw [h3]
          refine A3g ?_;simp only [N9,A0 a1,A0 a2,B7,B1,a3,hq,bO,b1];rw [gA (by omega),w64 (by omega) (by omega)];rfl
        · rw [h4]
          refine A3g ?_;simp only [V9,A0 a1,A0 a2,B7,B1,a3,hq,bO,b2];rw [w64 (by omega) (by omega)];rfl
  obtain ⟨T,r,h1,⟨h2,h5⟩,h3,h4⟩:=key fs.length (C5 _);have e1:¬ ((fs.length:Nat):Int)<(fs.length:Int):=by omega
  have f1:G5 (N9 R6 fs) ((fs.length:Int),t.1,T,r,())=some (t.1,T,r,()):=by
    rw [O2];simp only [N9,A9 e1,B1]
  have f2:G5 (V9 A0R fs) ((fs.length:Int),t.1,T,r,())=some (t.1,T,r,()):=by
    rw [O2];simp only [V9,A9 e1,B1]
  refine ⟨r,T,?_,?_,h1,h2,h5⟩
  · simp only [A0W,A2c,B5H t (by omega),bO]
    rw [h3,f1];rfl
  · have hok:A6b t=some (true,()):=D3I ht
    simp only [A66,B0G,B2c t (by omega),hok,bO,G9,B1];rw [h4,f2];rfl
set_option maxRecDepth 100000
def czN(a:Int):Nat:=if a<1 then 1 else if a>1000 then 1000 else a.toNat
theorem C9m(a:Int):1<=czN a/\czN a<=1000:=by
  unfold czN;split
  · omega
  · split<;>omega
theorem D6q(a:Int):(A7 (bif (decide (a<1)) then some ((1:Int),()) else some (a,())) fun (m0:Int×Unit)=>(bif (decide (m0.1>1000)) then some ((1000:Int),()) else some (m0.1,())))=some ((czN a:Int),()):=by
  unfold czN;by_cases h:a<1
  · rw [A0 h,B7,bO,F9 h];rfl
  · rw [A9 h,B1,bO,D8 h]
    by_cases h2:a>1000
    · rw [A0 h2,B7,F9 h2];rfl
    · rw [A9 h2,B1,D8 h2]
      rw [show ((a.toNat:Nat):Int)=a by omega]
theorem D6r(a:Int):(bif decide ((bif decide (1000<a) then 1000 else a)>1) then (bif decide (1000<a) then 1000 else a) else 1)=(czN a:Int):=by
  unfold czN;by_cases h2:1000<a
  · rw [A0 h2,B7,D8 (by omega),F9 (by omega)];rfl
  · rw [A9 h2,B1]
    by_cases h:a>1
    · rw [A0 h,B7,D8 (by omega),D8 (by omega)];omega
    · rw [A9 h,B1]
      by_cases h3:a<1
      · rw [F9 h3];rfl
      · rw [D8 h3,D8 (by omega)];omega
def ceN(n L:Nat):Nat:=(L+n-1) / n
theorem B8L{n L j:Nat}(hn:0<n):j<ceN n L↔j*n<L:=by
  unfold ceN;rw [Nat.lt_iff_add_one_le,A55 hn,H8];omega
theorem D3J{n L:Nat}(hn:0<n):L<=ceN n L*n:=by
  have h:¬ ceN n L<ceN n L:=Nat.lt_irrefl _;rw [B8L hn] at h;omega
theorem C4J{n L:Nat}(hn:0<n):ceN n L<=L:=by
  have h:¬ L<ceN n L:=by
    rw [B8L hn];have:=B1C L hn;omega
  omega
def frx(id fl:Int)(n:Nat)(xs:List Int)(j:Nat):H5:=(if j=0 then 1 else 9,if j=0 then fl else 0,id,A2b n xs j)
def frs(id fl:Int)(n:Nat)(xs:List Int):Nat->List H5
  | 0=> []
  | j+1=>frs id fl n xs j ++ [frx id fl n xs j]
theorem B5I(id fl:Int)(n:Nat)(xs:List Int):∀ j,(frs id fl n xs j).length=j
  | 0=>rfl
  | j+1=>by simp only [frs,A4,B5I id fl n xs j,H2]
def C7s(f:H5):H5:=(f.1,bOr .i64 f.2.1 4,f.2.2)
def B5k(id fl:Int)(n:Nat)(xs:List Int):List H5:=frs id fl n xs (max 1 (ceN n xs.length)-1) ++ [C7s (frx id fl n xs (max 1 (ceN n xs.length)-1))]
theorem C4K{A:List H5}{x:H5}:rd O7 (A ++ [x]) (A.length:Int)=x:=by
  simp [rd]
theorem C69{A:List H5}{x y:H5}:(A ++ [x]).set A.length y=A ++ [y]:=by
  simp [List.set_append_right]
theorem B5J(xs:List Int)(h:xs.length<=1000000000):H7 xs=some (xs,()):=by
  simp only [H7,U2];rw [gA (by simp;omega)];by_cases h0:0<xs.length
  · rw [A0 h0,B7];rfl
  · rw [A9 h0,B1]
    have:xs = []:=A0n.1 (by omega);subst this;simp [eqO]
theorem B15(n:Nat)(xs:List Int)(j:Nat):(A2b n xs j).length=min (j*n+n) xs.length-j*n:=by
  simp [A2b]
theorem C1H{X Y:Type}(G:X->Y->Option Y):∀ (xs:List X) (x:X) (y:Y),B3L G (xs ++ [x]) y=A7 (B3L G xs y) (G x)
  | [],x,y=>by
    simp only [F5,B3L,bO];cases G x y<;>rfl
  | z::xs,x,y=>by
    simp only [C8,B3L];cases G z y with
    | none=>rfl
    | some y'=>exact C1H G xs x y'
theorem D0v(id:Int)(a1:Bool)(xs:List Int)(a3:Int)(hid:1<=id/\id<=2147483647)(hx:xs.length<=100000000) :
    B7N id a1 xs a3=some (B5k id (if a1 then 1 else 0) (czN a3) xs,()):=by
  have hn:=C9m a3;have e0:=D6q a3;simp only [B7N,C0t,A11,A0 hid,bO,G9,B1];have e1:∀ (K:Int×Unit->Option (List H5×Unit)),(A7 (bif (decide (a3<1)) then some ((1:Int),()) else some (a3,())) fun (m0:Int×Unit)=>A7 (bif (decide (m0.1>1000)) then some ((1000:Int),()) else some (m0.1,())) K)=K ((czN a3:Int),()):=by
    intro K;rw [show K ((czN a3:Int),())=A7 (some ((czN a3:Int),())) K from rfl,<- e0];cases (bif (decide (a3<1)) then some ((1:Int),()) else some (a3,()))<;>rfl
  rw [e1];generalize czN a3=n at *
  have hn0:0<n:=by omega
  have hN1:1<=max 1 (ceN n xs.length):=Nat.le_max_left _ _;have hN2:max 1 (ceN n xs.length)<=100000000:=by have:=C4J (n:=n) (L:=xs.length) hn0;omega
  have hlt:∀ j,j<max 1 (ceN n xs.length)->j=0\/j*n<xs.length:=by
    intro j hj;rcases A94 j with h | h
    · exact Or.inl h
    · exact Or.inr ((B8L hn0).1 (by omega))
  have hlast:∀ j,j<max 1 (ceN n xs.length)->(xs.length<=j*n+n↔j=max 1 (ceN n xs.length)-1):=by
    intro j hj;have h1:=B8L (n:=n) (L:=xs.length) (j:=j+1) hn0;rw [H8] at h1;omega
  have hge:xs.length<=max 1 (ceN n xs.length)*n:=by
    have h1:=D3J (n:=n) (L:=xs.length) hn0;have h2:=E3 n (Nat.le_max_right 1 (ceN n xs.length));omega
  have hbig:∀ j,j<max 1 (ceN n xs.length)->j*n<=100000000:=by
    intro j hj;rcases hlt j hj with h | h
    · subst h;omega
    · omega
  unfold B5k;generalize max 1 (ceN n xs.length)=N at *
  have hfl:∀ (K:Int×Int×Int×Unit->Option ((Int×List H5×Unit)⊕(List H5×Unit))) (j:Nat),j*n<=100000000->(A7 (bif (decide (((j*n:Nat):Int)=0)) then bif a1 then some ((1:Int),(1:Int),id,()) else some (1,0,id,()) else some (9,0,id,())) K)=K ((if j=0 then 1 else 9),(if j=0 then (if a1 then 1 else 0) else 0),id,()):=by
    intro K j hj;rcases A94 j with h | h
    · subst h
      rw [show (((0*n:Nat):Int))=0 by simp];cases a1<;>rfl
    · have h2:0<j*n:=B9H h hn0
      rw [A9 (p:=((j*n:Nat):Int)=0) (by omega),B1,D8 (by omega),D8 (by omega)];rfl
  have hX:∀ l k f q,([(l,(k,(f,q)))]:List H5).length=1:=fun _ _ _ _=>rfl
  refine (I9 (B1p xs a1 id ((n:Int),())) (fun j=>(((j*n:Nat):Int),(if j<N then frs id (if a1 then 1 else 0) n xs j else frs id (if a1 then 1 else 0) n xs (N-1) ++ [C7s (frx id (if a1 then 1 else 0) n xs (N-1))]),())) N _ (fun j hj=>?_) ?_ |> fun h=>by
    rw [show ((0:Int),([]:List H5),())=(fun j:Nat=>(((j*n:Nat):Int),(if j<N then frs id (if a1 then 1 else 0) n xs j else frs id (if a1 then 1 else 0) n xs (N-1) ++ [C7s (frx id (if a1 then 1 else 0) n xs (N-1))]),())) 0 by
      simp only [A16,F9 (show 0<N by omega)];rfl]
    exact h)
  · have b1:=hlt j hj
    have b2:=hlast j hj;have b3:=hbig j hj;have b4:=B5I id (if a1 then 1 else 0) n xs j;have b5:j*n<=xs.length:=by
      rcases b1 with h | h
      · subst h;simp
      · omega
    have c1:(bif (decide (((j*n:Nat):Int)=0)) then some (Sum.inl ()) else bif (decide (((j*n:Nat):Int)<(xs.length:Int))) then some (Sum.inl ()) else some (Sum.inr (Sum.inr ((if j<N then frs id (if a1 then 1 else 0) n xs j else frs id (if a1 then 1 else 0) n xs (N-1) ++ [C7s (frx id (if a1 then 1 else 0) n xs (N-1))]),()))))=some (Sum.inl (β:=(Int×List H5×Unit)⊕(List H5×Unit)) ()):=by
      rcases b1 with h | h
      · subst h
        rw [show (((0*n:Nat):Int))=0 by simp];rfl
      · rw [A0 (p:=((j*n:Nat):Int)<(xs.length:Int)) (by omega)]
        cases decide (((j*n:Nat):Int)=0)<;>rfl
    simp only [B1p];rw [c1,bSl,hfl _ j b3];simp only [F9 hj];rw [w64 (n:=((j*n:Nat):Int)+(n:Int)) (by omega) (by omega)];by_cases hL:xs.length<=j*n+n
    · have hjN:j=N-1:=b2.1 hL
      have hp:(xs.take xs.length).drop (j*n)=A2b n xs j:=by
        unfold A2b;rw [G2 (C5 _),G2 hL]
      have hpl:=B15 n xs j;rw [A0 (by omega),B7,bO];simp only [E2,hp];rw [A0 (by omega),A0 (by omega),A0 (by omega)];simp only [B7,F5];rw [gA (by simp only [K1];omega),D5n (by rw [b4,hX];omega)];rw [D8 (show ¬ j+1<N by omega),hjN.symm,H8];simp only [C7s,frx]
      congr 4
    · have hjN:¬ j=N-1:=fun h=>hL (b2.2 h)
      have hp:(xs.take (((j*n:Nat):Int)+(n:Int)).toNat).drop (j*n)=A2b n xs j:=by
        unfold A2b;rw [show (((j*n:Nat):Int)+(n:Int)).toNat=j*n+n by omega]
      have hpl:=B15 n xs j;rw [A9 (by omega),B1,bO];simp only [E2,hp];rw [A0 (by omega),A0 (by omega),A0 (by omega)];simp only [B7,F5];rw [gA (by simp only [K1];omega),D5n (by rw [b4,hX];omega)];rw [F9 (show j+1<N by omega),H8];simp only [frs,frx]
      congr 4
  · have h2:0<N*n:=B9H (by omega) hn0
    have c1:decide (((N*n:Nat):Int)=0)=false:=A9 (by omega);have c2:decide (((N*n:Nat):Int)<(xs.length:Int))=false:=A9 (by omega);simp only [B1p,c1,c2,B1,bSr,D8 (show ¬ N<N by omega)]
theorem C6A(id fl:Int)(n:Nat)(xs:List Int)(hn:0<n)(hx:xs.length<=100000000):∀ j,j<=ceN n xs.length->
    B3L (B2I H7 id) ((List.range j).map (A2b n xs)) ([(1,(fl,(id,[])))],())=some (if j=0 then [(1,(fl,(id,[])))] else frs id fl n xs j,()):=by
  have hC:=C4J (n:=n) (L:=xs.length) hn;intro j
  induction j with
  | zero=>intro _;rfl
  | succ j ih=>
    intro hj;have hlt:=(B8L (n:=n) (L:=xs.length) (j:=j) hn).1 (by omega);have hpl:=B15 n xs j;rw [List.range_succ,A74,G4,A7v,C1H,ih (by omega),bO,D8 (Nat.succ_ne_zero j)];have hcl:=B5J (A2b n xs j) (by omega);cases j with
    | zero=>
      simp only [Q5,B2I,H2];rw [show i64.wrap (((1:Nat):Int)-1)=0 from rfl];have r0:rd O7 ([(1,(fl,(id,[])))]:List H5) 0=(1,(fl,(id,[]))):=rfl;rw [A0 (by omega),A0 (by omega),r0];simp only [B7,K1];rw [A9 (by omega),B1,hcl];rfl
    | succ j=>
      have hpl':=B15 n xs j;have hlt':=(B8L (n:=n) (L:=xs.length) (j:=j) hn).1 (by omega);rw [D8 (Nat.succ_ne_zero j)];have hfl:=B5I id fl n xs j;have e1:frs id fl n xs (j+1)=frs id fl n xs j ++ [frx id fl n xs j]:=rfl;have hl2:=B5I id fl n xs (j+1);have w1:i64.wrap (((frs id fl n xs (j+1)).length:Int)-1)=((frs id fl n xs j).length:Int):=by rw [hl2,hfl,w64 (by omega) (by omega)];omega
      have hl3:∀ y:H5,(frs id fl n xs (j+1) ++ [y]).length=j+2:=fun y=>by rw [A4,hl2];rfl
      have w2:∀ y:H5,i64.wrap (((frs id fl n xs (j+1) ++ [y]).length:Int)-1)=((frs id fl n xs (j+1)).length:Int):=fun y=>by rw [hl3,hl2,w64 (by omega) (by omega)];omega
      have hq:((rd O7 (frs id fl n xs (j+1)) ((frs id fl n xs j).length:Int)).2.2.2.length:Int)>0:=by
        rw [e1,C4K];simp only [frx];rw [hpl'];have:=H8 j n;omega
      simp only [B2I,w1,w2];rw [A0 (by omega),A0 (by rw [hfl,hl2];omega)];simp only [B7];rw [A0 hq,B7,D5n (by rw [hl2];simp;omega),A0 (by omega),A0 (by rw [hl2,hl3];omega),hcl];simp only [B7,bO,E2,C4K,C69];rfl
theorem D0w(id:Int)(a1:Bool)(xs:List Int)(a3:Int)(hid:1<=id/\id<=2147483647)(hx:xs.length<=100000000) :
    B7S id a1 xs a3=some (B5k id (if a1 then 1 else 0) (czN a3) xs,()):=by
  have hn:=C9m a3;have hn0:0<czN a3:=by omega
  have hC:=C4J (n:=czN a3) (L:=xs.length) hn0;have e1:(bif a1 then bif decide (0<(([(1,(0,(id,[])))]:List H5).length:Int)) then A7 (some (([(1,(0,(id,[])))]).set 0 ((rd O7 ([(1,(0,(id,[])))]) 0).1,(1,(rd O7 ([(1,(0,(id,[])))]) 0).2.2)))) fun (c9002:List H5)=>some (c9002,()) else none else some ([(1,(0,(id,[])))],()))=some (([(1,((if a1 then 1 else 0),(id,[])))]:List H5),()):=by
    cases a1<;>rfl
  simp only [bO] at e1;simp only [B7S,C15,A8c,A0 hid,bO,G9,B1,D6r];rw [e1];simp only [bO];have f1:=C6A id (if a1 then 1 else 0) (czN a3) xs hn0 hx (ceN (czN a3) xs.length) (C5 _);generalize (if a1 then (1:Int) else 0)=fl at *
  unfold B5k;generalize czN a3=n at *
  have hpc:pieces n xs=(List.range (ceN n xs.length)).map (A2b n xs):=rfl;rw [A0 (by omega),A0 (by omega),A0 (by omega)];simp only [B7,E2];rw [hpc,f1];simp only [bO];have e2:(if ceN n xs.length=0 then ([(1,(fl,(id,[])))]:List H5) else frs id fl n xs (ceN n xs.length))=frs id fl n xs (max 1 (ceN n xs.length)-1) ++ [frx id fl n xs (max 1 (ceN n xs.length)-1)]:=by
    by_cases h:ceN n xs.length=0
    · rw [F9 h,h]
      have hx0:xs = []:=by
        have:=D3J (n:=n) (L:=xs.length) hn0;rw [h] at this;exact A0n.1 (by omega)
      subst hx0;simp [frs,frx,A2b]
    · rw [D8 h,show max 1 (ceN n xs.length)=(max 1 (ceN n xs.length)-1)+1 by omega]
      have:ceN n xs.length=(max 1 (ceN n xs.length)-1)+1:=by omega
      conv=>lhs;rw [this]
      rfl
  have hl:=B5I id fl n xs (max 1 (ceN n xs.length)-1);rw [e2];generalize frs id fl n xs (max 1 (ceN n xs.length)-1)=A at *
  generalize frx id fl n xs (max 1 (ceN n xs.length)-1)=x at *
  have hl1:(A ++ [x]).length=A.length+1:=by simp
  have w1:i64.wrap (((A ++ [x]).length:Int)-1)=(A.length:Int):=by rw [hl1,w64 (by omega) (by omega)];omega
  simp only [w1,C4K,C69,E2];rw [A0 (by omega),A0 (by omega)];rfl
theorem fok(k fl id:Int)(q:List Int)(h1:0<=k/\k<=255)(h2:0<=fl/\fl<=255)(h3:0<=id/\id<=2147483647)(h4:(q.length:Int)<=1000):U8 (k,fl,id,q)=true:=by
  simp only [U8,A0 h1,A0 h2,A0 h3,A0 h4];rfl
theorem D3K(id:Int)(a1:Bool)(n:Nat)(xs:List Int)(hid:1<=id/\id<=2147483647)(hn:n<=1000)(j:Nat) :
    U8 (frx id (if a1 then 1 else 0) n xs j)=true/\U8 (C7s (frx id (if a1 then 1 else 0) n xs j))=true:=by
  have hpl:=B15 n xs j;have h1:((A2b n xs j).length:Int)<=1000:=by omega
  have h2:0<=id/\id<=2147483647:=by omega
  have b0:bOr .i64 0 4=4:=rfl;have b1:bOr .i64 1 4=5:=rfl;unfold C7s frx;rcases A94 j with h | h
  · subst h
    cases a1
    · exact ⟨fok 1 0 id _ (by omega) (by omega) h2 h1,fok 1 (bOr .i64 0 4) id _ (by omega) (by rw [b0];omega) h2 h1⟩
    · exact ⟨fok 1 1 id _ (by omega) (by omega) h2 h1,fok 1 (bOr .i64 1 4) id _ (by omega) (by rw [b1];omega) h2 h1⟩
  · simp only [D8 (show ¬ j=0 by omega)]
    exact ⟨fok 9 0 id _ (by omega) (by omega) h2 h1,fok 9 (bOr .i64 0 4) id _ (by omega) (by rw [b0];omega) h2 h1⟩
theorem D3L(id:Int)(a1:Bool)(n:Nat)(xs:List Int)(hid:1<=id/\id<=2147483647)(hn:n<=1000):∀ j,∀ f∈frs id (if a1 then 1 else 0) n xs j,U8 f=true
  | 0,f,hf=>by simp [frs] at hf
  | j+1,f,hf=>by
    simp only [frs,C9,A6] at hf;rcases hf with h | h
    · exact D3L id a1 n xs hid hn j f h
    · subst h;exact (D3K id a1 n xs hid hn j).1
theorem D3M(id:Int)(a1:Bool)(n:Nat)(xs:List Int)(hid:1<=id/\id<=2147483647)(hn:n<=1000):∀ f∈B5k id (if a1 then 1 else 0) n xs,U8 f=true:=by
  intro f hf;simp only [B5k,C9,A6] at hf;rcases hf with h | h
  · exact D3L id a1 n xs hid hn _ f h
  · subst h;exact (D3K id a1 n xs hid hn _).2
theorem D10(id fl:Int)(n:Nat)(xs:List Int)(hn:0<n):(B5k id fl n xs).length<=xs.length+1:=by
  have:=C4J (n:=n) (L:=xs.length) hn;simp only [B5k,A4,B5I,H2];omega
def C1I(fs:List H5):Nat->List Int
  | 0=> []
  | k+1=>C1I fs k++B6S (fs.getD k (0,0,0,[]))
theorem C1J(f:H5)(h:U8 f=true):(B6S f).length<=1009:=by
  simp only [U8,B4,K2] at h;simp only [B6S,A4,B7a,H0,K1];omega
theorem B7h(fs:List H5)(h:∀ f∈fs,U8 f=true):∀ k,k<=fs.length->(C1I fs k).length<=1009*k
  | 0,_=>by simp [C1I]
  | k+1,hk=>by
    have h1:=B7h fs h k (by omega);have h2:fs.getD k (0,0,0,[])=fs[k]:=by rw [C6,C1 (by omega)];rfl
    have h3:=C1J fs[k] (h _ (J2 (by omega)));simp only [C1I,A4,h2];omega
theorem B9E{f:H5}(h:U8 f=true):f.2.2.2.length<=1000:=by
  simp only [U8,B4,K2] at h;omega
theorem C1K(fs:List H5)(h:∀ f∈fs,U8 f=true)(hl:fs.length<=1000000000):A68 [] fs=some (C1I fs fs.length,()):=by
  simp only [A68,B0H];refine I9 (A3E A4H fs) (fun k=>((k:Int),C1I fs k,())) fs.length _ (fun k hk=>?_) ?_
  · have h1:(k:Int)<(fs.length:Int):=by omega
    have h2:(0:Int)<=(k:Int):=by omega
    have h3:rd O7 fs (k:Int)=fs[k]:=A0S (k:=O7) hk;have h4:fs.getD k (0,0,0,[])=fs[k]:=by rw [C6,C1 (by omega)];rfl
    have h5:=B7h fs h k (by omega);have h6:=B9E (h _ (J2 hk));simp only [A3E,A0 h1,A0 h2,B7,h3];rw [C2H _ _ (by omega),bO,w64 (by omega) (by omega)];simp only [C1I,h4];rfl
  · have h1:¬ ((fs.length:Nat):Int)<(fs.length:Int):=by omega
    simp only [A3E,A9 h1,B1]
theorem C6B(fs:List H5)(h:∀ f∈fs,U8 f=true)(hl:fs.length<=1000000000):A5u fs=some (C1I fs fs.length,()):=by
  simp only [A5u,B09];refine I9 (A3B A4A fs) (fun k=>((k:Int),C1I fs k,())) fs.length _ (fun k hk=>?_) ?_
  · have h1:(k:Int)<(fs.length:Int):=by omega
    have h2:(0:Int)<=(k:Int):=by omega
    have h3:rd O7 fs (k:Int)=fs[k]:=A0S (k:=O7) hk;have h4:fs.getD k (0,0,0,[])=fs[k]:=by rw [C6,C1 (by omega)];rfl
    have h5:=B7h fs h k (by omega);have hk2:=h _ (J2 hk);have h6:=B9E hk2;have h7:=C1J _ hk2;simp only [A3B,A0 h1,A0 h2,B7,h3];rw [C2I _ (by omega),F9 hk2,bO,gA (by simp only [];omega),w64 (by omega) (by omega)];simp only [C1I,h4];rfl
  · have h1:¬ ((fs.length:Nat):Int)<(fs.length:Int):=by omega
    simp only [A3B,A9 h1,B1]
set_option maxRecDepth 100000
set_option maxRecDepth 100000
set_option maxRecDepth 100000
noncomputable def mfs(m:Int)(n:Nat):List B9:=(List.range n).map fun j=>(mt (m+2*(j:Nat)),mt (m+2*(j:Nat)+1))
theorem A4d(m:Int)(n:Nat):(mfs m n).length=n:=by simp [mfs]
theorem D3N(m:Int)(n:Nat):mfs m (n+1)=mfs m n ++ [(mt (m+2*(n:Nat)),mt (m+2*(n:Nat)+1))]:=by
  simp [mfs,List.range_succ]
theorem C4L(t:F0)(m:Int)(h0:0<=m)(h1:m<=1000000000000)(h2:t.2.length<=1000000000):A2q t m=some (m+2*t.2.length,(t.1,mfs m t.2.length),()):=by
  have key:A4R t.2 m=some (m+2*t.2.length,mfs m t.2.length,()):=by
    obtain ⟨mm,fs⟩:=t;simp only at h2 ⊢;simp only [A4R,A8T];have:=I9 (A2B P5) (fun k=>(m+2*(k:Nat),(k:Int),mfs m k++fs.drop k,())) fs.length (m+2*fs.length,mfs m fs.length,()) (fun k hk=>by
      have hl:(mfs m k++fs.drop k).length=fs.length:=by rw [A4,A4d,C4];omega
      have a1:(k:Int)<((mfs m k++fs.drop k).length:Int):=by omega
      have a2:(0:Int)<=(k:Int):=by omega
      have e1:fs.drop k=fs[k]::fs.drop (k+1):=I3 hk;have hs:∀ x:B9,(mfs m k++fs.drop k).set k x=mfs m k++x::fs.drop (k+1):=by
        intro x;rw [e1,List.set_append_right _ _ (by rw [A4d];omega),A4d,Nat.sub_self];rfl
      have hr:∀ x:B9,rd B6 (mfs m k++x::fs.drop (k+1)) (k:Int)=x:=by
        intro x;unfold rd;rw [E2,C6,E7 (by rw [A4d];omega),A4d,Nat.sub_self];rfl
      have hs2:∀ x y:B9,(mfs m k++x::fs.drop (k+1)).set k y=mfs m k++y::fs.drop (k+1):=by
        intro x y;rw [List.set_append_right _ _ (by rw [A4d];omega),A4d,Nat.sub_self];rfl
      have hl2:∀ x:B9,(mfs m k++x::fs.drop (k+1)).length=fs.length:=by
        intro x;rw [A4,A4d,H0,C4];omega
      simp only [A2B,A0 a1,A0 a2,B7];rw [A6f _ (by omega),w64 (n:=m+2*(k:Int)+1) (by omega) (by omega),A6f _ (by omega)];simp only [A7,E2,hs,hr,hs2,hl2];rw [A0 (by omega),B7,w64 (by omega) (by omega),w64 (by omega) (by omega),D3N];simp only [A8,T6,C8,F5];rw [show m+2*(k:Int)+1+1=m+2*((k+1:Nat):Int) by omega];rfl) (by
      have a1:¬ ((fs.length:Nat):Int)<((mfs m fs.length).length:Int):=by rw [A4d];omega
      simp only [A2B,List.drop_length,F8,A9 a1,B1])
    simpa [mfs] using this
  simp only [A2q,B0I,key,A7]
theorem C4M(x:Int)(n:Nat)(m:Int)(h0:0<=m)(h1:m<=1000000000000)(h2:n<=1000000000):A2r (x,mfs m n) m=some (m+2*n,()):=by
  have key:A4W (mfs m n) m=some (m+2*n,()):=by
    simp only [A4W,A8W];have:=I9 (A2C P5 (mfs m n)) (fun k=>(m+2*(k:Nat),(k:Int),())) n (m+2*n,()) (fun k hk=>by
      have a1:(k:Int)<((mfs m n).length:Int):=by rw [A4d];omega
      have a2:(0:Int)<=(k:Int):=by omega
      have hr:rd B6 (mfs m n) (k:Int)=(mt (m+2*(k:Nat)),mt (m+2*(k:Nat)+1)):=by
        unfold rd mfs;simp [C6,hk]
      simp only [A2C,A0 a1,A0 a2,B7,hr];rw [A6f _ (by omega),w64 (n:=m+2*(k:Int)+1) (by omega) (by omega),A6f _ (by omega)];simp only [A7,beq_self_eq_true,G9,B1];rw [w64 (by omega) (by omega),w64 (by omega) (by omega),show m+2*(k:Int)+1+1=m+2*((k+1:Nat):Int) by omega];rfl) (by
      have a1:¬ ((n:Nat):Int)<((mfs m n).length:Int):=by rw [A4d];omega
      simp only [A2C,A9 a1,B1])
    simpa using this
  simp only [A2r,B0J,key,A7];rw [A9 (by omega)];rfl
theorem D3O:∀ fs:List B9,szT fs<=1000000000->∀ x∈fs,Sm maxLen B6 x
  | [],_,x,hx=>by simp at hx
  | f::fs,h,x,hx=>by
    have hp:=A3F fs;have hf:=B7g f;simp only [szT] at h;rcases B8.1 hx with e | e
    · subst e
      have:ofF x<=1000000000:=by omega
      unfold ofF at this;exact ⟨show x.1.size<=maxLen by simp only [maxLen];omega,show x.2.size<=maxLen by simp only [maxLen];omega⟩
    · exact D3O fs (by omega) x e
set_option maxRecDepth 100000
theorem D4r{R:Type}{n:Nat}{X:Option R}(h:n<=1000000000000):(bif decide (n<=9223372036854775807) then bif decide (n*72<=140737488355328) then X else none else none)=X:=by
  rw [A0 (by omega),A0 (by omega)];rfl
def C1L(c:I4):Prop:=c.2.1.length<=2000000/\c.2.2.1.2.2.length<=2000000/\c.2.2.2.1.2.length<=2000000/\c.2.2.2.2.1.2.length<=2000000/\c.2.2.2.2.2.1.length<=2000000/\∀ x∈c.2.2.2.2.2.1,x.2.2.2.length<=2000000
theorem D11(g:L4)(h:g.2.2.length<=2000000):B1r g=some (g,()):=by
  simp only [B1r,B6B];rw [gA (by simp;omega)];rfl
theorem C2K(g:L4)(h:g.2.2.length<=2000000):A4J g=some (g,()):=by
  simp only [A4J,A8N,B5J g.2.2 (by omega),A7]
theorem C7t(c:I4)(h:C1L c):A9T c=some (c,()):=by
  obtain ⟨h1,h2,h3,h4,h5,h6⟩:=h;simp only [A9T,B4A];rw [gA (by simp;omega)];simp only [D11 _ h2,B5H c.2.2.2.1 (by omega),B5H c.2.2.2.2.1 (by omega),bO,F5];refine I9 (A5v c) (fun k=>((k:Int),c.1,c.2.2.1.1,c.2.2.1.2.1,c.2.2.2.1.1,c.2.2.2.2.1.1,c.2.2.2.2.2.2.1,c.2.2.2.2.2.2.2,c.2.1,c.2.2.1.2.2,c.2.2.2.1.2,c.2.2.2.2.1.2,c.2.2.2.2.2.1.take k,())) c.2.2.2.2.2.1.length (c,()) (fun k hk=>?_) ?_
  · have a1:(k:Int)<(c.2.2.2.2.2.1.length:Int):=by omega
    have a2:(0:Int)<=(k:Int):=by omega
    have a3:rd F6 c.2.2.2.2.2.1 (k:Int)=c.2.2.2.2.2.1[k]:=A0S (k:=F6) hk;have a4:=h6 _ (J2 hk);simp only [A5v,A0 a1,A0 a2,B7,a3,F5];rw [gA (by simp;omega),D4r (by simp;omega),w64 (by omega) (by omega),L2 hk];rfl
  · have a1:¬ ((c.2.2.2.2.2.1.length:Nat):Int)<(c.2.2.2.2.2.1.length:Int):=by omega
    simp only [A5v,A9 a1,B1];rw [G2 (C5 _)]
theorem C6C(c:I4)(h:C1L c):A7R c=some (c,()):=by
  obtain ⟨h1,h2,h3,h4,h5,h6⟩:=h;simp only [A7R,B2J,B5J c.2.1 (by omega),C2K _ h2,B2c c.2.2.2.1 (by omega),B2c c.2.2.2.2.1 (by omega),bO];refine I9 (A4K H7 c) (fun k=>((k:Int),c.1,c.2.2.1.1,c.2.2.1.2.1,c.2.2.2.1.1,c.2.2.2.2.1.1,c.2.2.2.2.2.2.1,c.2.2.2.2.2.2.2,c.2.1,c.2.2.1.2.2,c.2.2.2.1.2,c.2.2.2.2.1.2,c.2.2.2.2.2.1.take k,())) c.2.2.2.2.2.1.length (c,()) (fun k hk=>?_) ?_
  · have a1:(k:Int)<(c.2.2.2.2.2.1.length:Int):=by omega
    have a2:(0:Int)<=(k:Int):=by omega
    have a3:rd F6 c.2.2.2.2.2.1 (k:Int)=c.2.2.2.2.2.1[k]:=A0S (k:=F6) hk;have a4:=h6 _ (J2 hk);simp only [A4K,A0 a1,A0 a2,B7,a3,B5J _ (show (c.2.2.2.2.2.1[k]).2.2.2.length<=1000000000 by omega),bO];rw [D4r (by simp;omega),w64 (by omega) (by omega),L2 hk];rfl
  · have a1:¬ ((c.2.2.2.2.2.1.length:Nat):Int)<(c.2.2.2.2.2.1.length:Int):=by omega
    simp only [A4K,A9 a1,B1];rw [G2 (C5 _)]
def B16(c:I4)(j:Nat):Int:=(rd F6 c.2.2.2.2.2.1 (j:Int)).1
theorem C6D(c:I4)(id:Int)(h:c.2.2.2.2.2.1.length<=2000000):∃ i,i<=c.2.2.2.2.2.1.length/\(∀ j,j<i->B16 c j≠id)/\(i<c.2.2.2.2.2.1.length->B16 c i=id)/\
    B5A c id=some (if i<c.2.2.2.2.2.1.length then (i:Int) else -1,()):=by
  obtain ⟨i,h1,h2,h3,h4⟩:=B6O (A9U c id) (fun j=>((j:Int),())) c.2.2.2.2.2.1.length (fun j=>(if j<c.2.2.2.2.2.1.length then (j:Int) else -1,())) (fun j=>!decide (B16 c j=id)) (fun j hj=>by
    have a1:(j:Int)<(c.2.2.2.2.2.1.length:Int):=by omega
    have a2:(0:Int)<=(j:Int):=by omega
    simp only [A9U,A0 a1,A0 a2,B7,F9 hj];rw [w64 (by omega) (by omega)];unfold B16;cases decide ((rd F6 c.2.2.2.2.2.1 (j:Int)).1=id)<;>rfl) (by
    have a1:¬ ((c.2.2.2.2.2.1.length:Nat):Int)<(c.2.2.2.2.2.1.length:Int):=by omega
    simp only [A9U,A9 a1,B1,D8 (Nat.lt_irrefl _)])
  exact ⟨i,h1,fun j hj=>by simpa using h2 j hj,fun hi=>by simpa using h3 hi,h4⟩
theorem str_eq(c:I4)(id:Int)(h:c.2.2.2.2.2.1.length<=2000000):∃ i,i<=c.2.2.2.2.2.1.length/\(∀ j,j<i->B16 c j<id)/\(i<c.2.2.2.2.2.1.length->¬ B16 c i<id)/\
    A4M c id=some ((i:Int),(decide (i<c.2.2.2.2.2.1.length)&&decide (B16 c i=id)),c,()):=by
  obtain ⟨i,h1,h2,h3,h4⟩:=B6O (A4L c id) (fun j=>((j:Int),())) c.2.2.2.2.2.1.length (fun j=>((j:Int),())) (fun j=>decide (B16 c j<id)) (fun j hj=>by
    have a1:(j:Int)<(c.2.2.2.2.2.1.length:Int):=by omega
    have a2:(0:Int)<=(j:Int):=by omega
    simp only [A4L,A0 a1,A0 a2,B7];rw [w64 (by omega) (by omega)];unfold B16;cases decide ((rd F6 c.2.2.2.2.2.1 (j:Int)).1<id)<;>rfl) (by
    have a1:¬ ((c.2.2.2.2.2.1.length:Nat):Int)<(c.2.2.2.2.2.1.length:Int):=by omega
    simp only [A4L,A9 a1,B1])
  refine ⟨i,h1,fun j hj=>by simpa using h2 j hj,fun hi=>by simpa using h3 hi,?_⟩;simp only [A4M,B2K];rw [show ((0:Int),())=(fun j:Nat=>((j:Int),())) 0 from rfl,h4];simp only [bO];by_cases hi:i<c.2.2.2.2.2.1.length
  · rw [A0 (p:=(i:Int)<(c.2.2.2.2.2.1.length:Int)) (by omega),A0 (p:=(0:Int)<=(i:Int)) (by omega),A0 hi]
    rfl
  · rw [A9 (p:=(i:Int)<(c.2.2.2.2.2.1.length:Int)) (by omega),A9 hi]
    rfl
theorem C9n{c:I4}(h:B5i c=true):∀ i,i+1<c.2.2.2.2.2.1.length->B16 c i<B16 c (i+1):=by
  intro i hi;have h1:A2d (A8d c) 0 c.2.2.2.2.2.1.length=c.2.2.2.2.2.1.length:=by
    simp only [B5i,B4,K2] at h;exact h.1
  have h2:=B4I (A8d c) c.2.2.2.2.2.1.length 0 (i+1) (by omega) (by omega);simp only [A8d,B4,J5,K2,Q4,A3l] at h2;have h3:=h2.1.1.2;rw [show (((i+1:Nat):Int)-1)=(i:Int) by omega] at h3;have h4:¬ B16 c (i+1)<=B16 c i:=by
    rcases h3 with q | q
    · omega
    · exact q
  omega
theorem C9o{c:I4}(h:B5i c=true):∀ k i,i+k+1<c.2.2.2.2.2.1.length->B16 c i<B16 c (i+k+1)
  | 0,i,hi=>C9n h i hi
  | k+1,i,hi=>by
    have h1:=C9o h k i (by omega);have h2:=C9n h (i+k+1) (by omega);rw [show i+(k+1)+1=i+k+1+1 by omega];omega
theorem at_eq(c:I4)(id:Int)(h:c.2.2.2.2.2.1.length<=2000000)(hs:B5i c=true):∃ i:Nat,∃ has:Bool,(has=true->i<c.2.2.2.2.2.1.length/\B16 c i=id)/\
    B5A c id=some (if has then (i:Int) else -1,())/\A4M c id=some ((i:Int),has,c,()):=by
  obtain ⟨i1,a1,a2,a3,a4⟩:=C6D c id h;obtain ⟨i2,b1,b2,b3,b4⟩:=str_eq c id h;refine ⟨i2,_,?_,?_,b4⟩
  · intro q
    simp only [B4,K2] at q;exact q
  · rw [a4]
    by_cases h1:i2<c.2.2.2.2.2.1.length
    · by_cases h2:B16 c i2=id
      · have e:i1=i2:=by
          rcases B7q i1 i2 with q | q | q
          · have:=b2 i1 q
            have:=a3 (by omega);omega
          · exact q
          · exact absurd h2 (a2 i2 q)
        rw [e,A0 h1,A0 h2];simp [h1]
      · have e:¬ i1<c.2.2.2.2.2.1.length:=by
          intro q;have q3:=a3 q;rcases B7q i1 i2 with q2 | q2 | q2
          · have:=b2 i1 q2;omega
          · rw [q2] at q3;exact h2 q3
          · have q4:=C9o hs (i1-i2-1) i2 (by omega)
            rw [show i2+(i1-i2-1)+1=i1 by omega] at q4;have:=b3 h1;omega
        rw [A9 h2,D8 e];simp
    · have e:¬ i1<c.2.2.2.2.2.1.length:=by
        intro q;have:=b2 i1 (by omega);have:=a3 q;omega
      rw [A9 h1,D8 e];simp
theorem C2L(r:R3)(h:A6B r=true):∃ fs,A4C r=some (fs,())/\A4O r=some (fs,())/\fs.length<=2/\∀ f∈fs,f.1.size<=10000/\f.2.size<=10000:=by
  have h':=h;simp only [A6B,B4,K2] at h';obtain ⟨t1,t2⟩:=C9k r.1 (by omega) (by omega);have p1:(⟨#[58,115,116,97,116,117,115]⟩:X0).size=7:=rfl;have p2:(⟨#[117,112,108,111,97,100,45,111,102,102,115,101,116]⟩:X0).size=13:=rfl;simp only [A4C,A8H,A4O,A8P,A6e,A9i,h,bO,G9,B1,t1,C9l r.1 (by omega) (by omega)];by_cases ho:r.2>=0
  · obtain ⟨t3,t4⟩:=C9k r.2 (by omega) (by omega)
    simp only [A0 ho,B7,t3,C9l r.2 (by omega) (by omega),bO];rw [C7n (by simp)];refine ⟨_,rfl,rfl,by simp,fun f hf=>?_⟩;simp only [C8,F5,B8,S2,A6l] at hf;rcases hf with rfl | rfl
    · exact ⟨by simp only [p1];omega,by simp only [];omega⟩
    · exact ⟨by simp only [p2];omega,by simp only [];omega⟩
  · simp only [A9 ho,B1]
    refine ⟨_,rfl,rfl,by simp,fun f hf=>?_⟩;simp only [B8,S2,A6l] at hf;subst hf;exact ⟨by simp only [p1];omega,by simp only [];omega⟩
theorem C6E(c:I4)(h:Sm 1048576 A8C c)(hb:Byt c.2.1)(hk:A3N c=some (true,())):U6 c.2.2.2.2.1=some (true,())/\B5i c=true/\0<=c.2.2.2.2.2.2.2/\c.2.2.2.2.2.2.1<=2147483647:=by
  have hin:List.length c.2.1<=1048576:=(Sm.l (Sm.r h)).1;have hst:List.length c.2.2.2.2.2.1<=1048576:=(Sm.l (Sm.r (Sm.r (Sm.r (Sm.r (Sm.r h)))))).1;have hd:List.length c.2.2.2.1.2<=1048576:=(Sm.r (Sm.l (Sm.r (Sm.r (Sm.r h))))).1;have he:List.length c.2.2.2.2.1.2<=1048576:=(Sm.r (Sm.l (Sm.r (Sm.r (Sm.r (Sm.r h)))))).1;obtain ⟨g,hg⟩:=B5h c.2.2.1;obtain ⟨t1,ht1⟩:=A7e c.2.2.2.1 (by simp only [maxLen];omega);obtain ⟨t2,ht2⟩:=A7e c.2.2.2.2.1 (by simp only [maxLen];omega);simp only [A3N,B1j,hg,ht1,ht2,A11] at hk;rw [C3P c (by simp only [maxLen];omega),B5j _ hb hin 0 (by omega)] at hk;rw [ht2];simp only [bO] at hk;generalize B5i c=b5 at hk ⊢;by_cases hq2:0<=c.2.2.2.2.2.2.1/\c.2.2.2.2.2.2.1<=2147483647
  case neg=>
    exfalso;rw [A9 hq2] at hk;revert hk;cases decide (0<=c.1/\c.1<=24)<;>cases g<;>cases t1<;>cases t2<;>simp [bSr,bSl]
  rw [A0 hq2] at hk;by_cases hq:0<=c.2.2.2.2.2.2.2/\c.2.2.2.2.2.2.2<=20
  · refine ⟨?_,?_,hq.1,hq2.2⟩
    · cases t2 with
      | true=>rfl
      | false=>
        exfalso;revert hk;cases decide (0<=c.1/\c.1<=24)<;>cases g<;>cases t1<;>simp [bSr,bSl]
    · cases b5 with
      | true=>rfl
      | false=>
        exfalso;revert hk;cases decide (0<=c.1/\c.1<=24)<;>cases g<;>cases t1<;>cases t2<;>simp [bSr,bSl]
  · exfalso
    rw [A9 hq] at hk;revert hk;cases decide (0<=c.1/\c.1<=24)<;>cases g<;>cases t1<;>cases t2<;>cases b5<;>cases decide ((List.length c.2.1:Int)>1100)<;>simp [bSr,bSl]
theorem C2M(c:I4)(id:Int)(r:R3)(hc:Sm 1048576 A8C c)(hb:Byt c.2.1)(hS:C1L c)(hz:szT c.2.2.2.2.1.2<=10000000000000)(hl5:c.2.2.2.2.2.1.length<=1048576) :
    ∃ c' o has,G7 c id r=some (c',o,has,())/\N0 c id r=some (c',o,has,())/\o.length<=500000000000/\Sm maxLen A8C c'/\C1L c'/\c'.2.2.2.2.2.1.length<=1048576:=by
  have hmax:∀ {n:Nat},n<=1048576->n<=maxLen:=fun h=>by simp only [maxLen];omega
  have hcM:Sm maxLen A8C c:=B7e (by simp only [maxLen];omega) hc;obtain ⟨h1,h2,h3,h4,h5,h6⟩:=hS;have hcp:=C7t c ⟨h1,h2,h3,h4,h5,h6⟩;have hci:=C6C c ⟨h1,h2,h3,h4,h5,h6⟩;obtain ⟨b,hbs,hbi⟩:=D0i c hc hb;obtain ⟨i1,a1,a2,a3,a4⟩:=C6D c id h5;obtain ⟨i2,b1,b2,b3,b4⟩:=str_eq c id h5;by_cases hok:b=true
  · subst hok
    obtain ⟨k1,k2,k3,k4⟩:=C6E c hc hb hbs;obtain ⟨i,has,q1,q2,q3⟩:=at_eq c id h5 k2;have htk:=D5q hz k1;have hbad:(∃ x,G7 c id r=some (c,[],false,())/\N0 c id r=some (c,[],false,())/\x=())->∃ c' o has,G7 c id r=some (c',o,has,())/\N0 c id r=some (c',o,has,())/\o.length<=500000000000/\Sm maxLen A8C c'/\C1L c'/\c'.2.2.2.2.2.1.length<=1048576:=
      fun ⟨_,e1,e2,_⟩=>⟨c,[],false,e1,e2,by simp,hcM,⟨h1,h2,h3,h4,h5,h6⟩,hl5⟩
    cases has with
    | false=>
      refine hbad ⟨(),?_,?_,rfl⟩
      · simp only [G7,J3,hcp,q2,hbs,A6e,bO]
        cases decide (c.2.2.2.2.2.2.2>0)<;>cases A6B r<;>rfl
      · simp only [N0,U7,hci,q3,bO]
        cases decide (c.2.2.2.2.2.2.2=0)<;>rfl
    | true=>
      obtain ⟨hi,hid⟩:=q1 rfl;have d1:decide ((i:Int)<0)=false:=A9 (by omega);have d2:decide ((0:Int)<=(i:Int))=true:=A0 (by omega);have d3:decide ((i:Int)<(c.2.2.2.2.2.1.length:Int))=true:=A0 (by omega);by_cases hd:c.2.2.2.2.2.2.2=0
      · have hd':¬ c.2.2.2.2.2.2.2>0:=by omega
        cases hst:decide ((rd F6 c.2.2.2.2.2.1 (i:Int)).2.1=2) with
        | false=>
          refine hbad ⟨(),?_,?_,rfl⟩
          · simp only [G7,J3,hcp,q2,hbs,A6e,bO,Q5,d1,d2,d3,hst,A9 hd']
            cases A6B r<;>rfl
          · simp only [N0,U7,hci,q3,bO,d1,d2,d3,hst,A0 hd]
            rfl
        | true=>
          cases hr:A6B r with
          | false=>
            refine hbad ⟨(),?_,?_,rfl⟩
            · simp only [G7,J3,hcp,q2,hbs,A6e,bO,Q5,d1,d2,d3,hst,A9 hd',hr]
              rfl
            · simp only [N0,U7,hci,q3,bO,d1,d2,d3,hst,A0 hd,A9i,hr]
              rfl
          | true=>
            obtain ⟨fs,f1,f2,f3,f4⟩:=C2L r hr;obtain ⟨h,T,g1,g2,g3,g4,g5⟩:=C4I c.2.2.2.2.1 fs htk (by omega) f4;have hidr:1<=id/\id<=2147483647:=by
              have e1:A2d (A8d c) 0 c.2.2.2.2.2.1.length=c.2.2.2.2.2.1.length:=by
                simp only [B5i,B4,K2] at k2;exact k2.1
              have e2:=B4I (A8d c) c.2.2.2.2.2.1.length 0 i (by omega) (by omega);simp only [A8d,B4,K2] at e2;have e3:1<=B16 c i/\B16 c i<=c.2.2.2.2.2.2.1:=e2.1.1.1.2;omega
            have hp1:=D0v id true h 1000 hidr (by omega);have hp2:=D0w id true h 1000 hidr (by omega);have hn:czN 1000=1000:=rfl;rw [hn] at hp1 hp2;have hpo:=D3M id true 1000 h hidr (by omega);have hpl:=D10 id (if true=true then 1 else 0) 1000 h (by omega);have hcl:=B7h _ hpo _ (C5 _);have hsf:=C6B _ hpo (by omega);have hif:=C1K _ hpo (by omega);simp only [Q5] at hp1 hp2 hsf hif hcl hpl;have e5:i64.wrap ((i:Int)+1)=((i+1:Nat):Int):=by rw [w64 (by omega) (by omega)];omega
            have d4:decide ((i:Int)<=(c.2.2.2.2.2.1.length:Int))=true:=A0 (by omega);have d5:decide (((i+1:Nat):Int)<=(c.2.2.2.2.2.1.length:Int))=true:=A0 (by omega);have d6:decide ((0:Int)<=((i+1:Nat):Int))=true:=A0 (by omega);have d7:decide ((i:Int)<((i+1:Nat):Int))=true:=A0 (by omega);have hdl:N4 c.2.2.2.2.2.1 (i:Int) ((i+1:Nat):Int)=some (c.2.2.2.2.2.1.take i++c.2.2.2.2.2.1.drop (i+1),()):=by
              rw [show N4=C5U from rfl];simp only [C5U,d2,d5,d7,B7,E2]
            have hszT:=A3F T;have hTk:T.length<=128:=C4H g3;have z1:c.2.2.2.2.1.1<=4096:=g3.2.1;have z2:szT T<=c.2.2.2.2.1.1:=g3.2.2;obtain ⟨m0,m1,m2,m3,m4,m5,m6⟩:=hcM;refine ⟨(c.1,(c.2.1,(c.2.2.1,(c.2.2.2.1,((c.2.2.2.2.1.1,T),(c.2.2.2.2.2.1.take i++c.2.2.2.2.2.1.drop (i+1),c.2.2.2.2.2.2)))))),C1I (B5k id 1 1000 h) (B5k id 1 1000 h).length,true,?_,?_,by omega,?_,?_⟩
            · simp only [G7,J3,hcp,q2,hbs,A6e,bO,bSl,Q5,d1,d2,d3,d4,d5,d6,e5,hst,A9 hd',hr,G9,B1,B7,f1,g1,hp1,hsf,E2,A0l,F5,List.take_length]
              rw [D4r (by simp;omega),D4r (by simp;omega)]
            · simp only [N0,U7,hci,q3,bO,bSl,d1,d2,d3,hst,A0 hd,A9i,hr,hbi,G9,B1,B7,f2,g2,e5,hdl,hp2,hif]
            · have hsub:∀ x∈c.2.2.2.2.2.1.take i++c.2.2.2.2.2.1.drop (i+1),x∈c.2.2.2.2.2.1:=fun x hx=>by
                rcases C9.1 hx with q | q
                · exact A0O q
                · exact S3 q
              refine ⟨m0,m1,m2,m3,⟨trivial,(show T.length<=maxLen by simp only [maxLen];omega),D3O T (by omega)⟩,⟨(show (c.2.2.2.2.2.1.take i++c.2.2.2.2.2.1.drop (i+1)).length<=maxLen by simp only [A4,B3,C4,maxLen];omega),fun x hx=>m5.2 x (hsub x hx)⟩,m6⟩
            · refine ⟨⟨h1,h2,h3,(show T.length<=2000000 by omega),(show (c.2.2.2.2.2.1.take i++c.2.2.2.2.2.1.drop (i+1)).length<=2000000 by simp only [A4,B3,C4];omega),fun x hx=>?_⟩,(show (c.2.2.2.2.2.1.take i++c.2.2.2.2.2.1.drop (i+1)).length<=1048576 by simp only [A4,B3,C4];omega)⟩
              rcases C9.1 hx with q | q
              · exact h6 x (A0O q)
              · exact h6 x (S3 q)
      · have hd':c.2.2.2.2.2.2.2>0:=by omega
        refine hbad ⟨(),?_,?_,rfl⟩
        · simp only [G7,J3,hcp,q2,hbs,bO,A0 hd']
          rfl
        · simp only [N0,U7,hci,q3,bO,A9 hd]
          rfl
  · have hbf:b=false:=by cases b<;>simp_all
    subst hbf;refine ⟨c,[],false,?_,?_,by simp,hcM,⟨h1,h2,h3,h4,h5,h6⟩,hl5⟩
    · simp only [G7,J3,hcp,a4,hbs,bO]
      rfl
    · simp only [N0,U7,hci,b4,hbi,A9i,bO]
      cases decide (c.2.2.2.2.2.2.2=0) with
      | false=>rfl
      | true=>
        simp only [G9,B1];by_cases hi:i2<c.2.2.2.2.2.1.length
        · rw [A0 hi,A0 (p:=(0:Int)<=(i2:Int)) (by omega),A0 (p:=(i2:Int)<(c.2.2.2.2.2.1.length:Int)) (by omega)]
          cases decide (B16 c i2=id)<;>cases decide ((rd F6 c.2.2.2.2.2.1 (i2:Int)).2.1=2)<;>cases A6B r<;>rfl
        · rw [A9 hi]
          rfl
set_option maxRecDepth 100000
theorem C3R(t:F0)(h:t.2.length<=2000000)(m:Int)(h0:0<=m)(h1:m<=900000000000) :
    ∃ m' y,A2q t m=some (m',(t.1,y),())/\m<=m'/\m'<=m+4000000/\∀ a,A2r (a,y) m=some (m',()):=
  ⟨_,_,C4L t m h0 (by omega) (by omega),by omega,by omega,fun a=>C4M a _ m h0 (by omega) (by omega)⟩
theorem D4s(a:List R5)(h:a.length<=1048576):MH (B2S a) B2U (cost (fun u=>List.length u.2.2.2+5) a):=by
  refine D4e (A4T S4 P5) (A4b S5 P5) (fun u=>List.length u.2.2.2+5) a h (fun i hi m h0 h1=>?_) (fun m b hb=>by simp [A4T,hb]) (fun m b hb=>by simp [A4b,hb]);obtain ⟨m1,d,e1,b1,b2,e2⟩:=B7d a[i].2.2.2 (m+1+1+1+1+1) (by omega) (by omega);have w1:i64.wrap (m+1)=m+1:=w64 (by omega) (by omega);have w2:i64.wrap (m+1+1)=m+1+1:=w64 (by omega) (by omega);have w3:i64.wrap (m+1+1+1)=m+1+1+1:=w64 (by omega) (by omega);have w4:i64.wrap (m+1+1+1+1)=m+1+1+1+1:=w64 (by omega) (by omega);have w5:i64.wrap (m+1+1+1+1+1)=m+1+1+1+1+1:=w64 (by omega) (by omega);have wi:i64.wrap ((i:Int)+1)=(i:Int)+1:=w64 (by omega) (by omega);have g1:(0:Int)<=(i:Int):=by omega
  have ht:=A6f (m+1+1+1) (by omega);refine ⟨m1,(m,m+1,(m+1+1,mt (m+1+1+1),m+1+1+1+1),d),by omega,by omega,fun b hb e=>?_,fun b hb e=>?_⟩
  · have hib:i<b.length:=by omega
    have g2:(i:Int)<(b.length:Int):=by omega
    have hr:rd F6 b (i:Int)=a[i]:=by rw [A0S (k:=F6) (xs:=b) (by omega)];exact e
    simp only [A4T,A7,W0,A0 g1,A0 g2,B7,E2,w1,w2,w3,w4,w5,wi,List.set_set,D5l (k:=F6) hib,hr,ht,e1]
  · have g2:(i:Int)<(b.length:Int):=by omega
    have hr:rd F6 b (i:Int)=(m,m+1,(m+1+1,mt (m+1+1+1),m+1+1+1+1),d):=by rw [A0S (k:=F6) (xs:=b) (by omega)];exact e
    simp only [A4b,A7,A0 g1,A0 g2,B7,w1,w2,w3,w4,w5,wi,hr,ht,e2];rw [A9 (show ¬ m1<0 by omega)];simp
theorem C3S:∀ a:List R5,(∀ x∈a,x.2.2.2.length<=2000000)->cost (fun u:R5=>List.length u.2.2.2+5) a<=2000005*a.length
  | [],_=>by simp [cost]
  | x::a,h=>by
    have h1:=C3S a fun y hy=>h y (B5 _ hy)
    have h2:=h x A5;simp only [cost,G4,List.sum_cons,H0] at h1 ⊢;omega
theorem C9p(c:I4)(h:C1L c)(hl:c.2.2.2.2.2.1.length<=1048576):∃ m' y1 y2 y3 y4 y5,A4U c 1=some (m',(c.1,(y1,((c.2.2.1.1,(c.2.2.1.2.1,y2)),((c.2.2.2.1.1,y3),((c.2.2.2.2.1.1,y4),(y5,c.2.2.2.2.2.2)))))),())/\1<=m'/\m'<=4000000000000/\
    ∀ q1 q2 q3 q4 q5 q6,A4c (q1,(y1,((q2,(q3,y2)),((q4,y3),((q5,y4),(y5,q6)))))) 1=some (m',()):=by
  obtain ⟨h1,h2,h3,h4,h5,h6⟩:=h;have hc:=C3S _ h6;obtain ⟨m1,y1,e1,a1,b1,f1⟩:=B7d c.2.1 1 (by omega) (by omega);obtain ⟨m2,y2,e2,a2,b2,f2⟩:=B7d c.2.2.1.2.2 m1 (by omega) (by omega);obtain ⟨m3,y3,e3,a3,b3,f3⟩:=C3R c.2.2.2.1 h3 m2 (by omega) (by omega);obtain ⟨m4,y4,e4,a4,b4,f4⟩:=C3R c.2.2.2.2.1 h4 m3 (by omega) (by omega);obtain ⟨m5,y5,e5,a5,b5,f5⟩:=D4s c.2.2.2.2.2.1 hl m4 (by omega) (by omega);refine ⟨m5,y1,y2,y3,y4,y5,?_,by omega,by omega,fun q1 q2 q3 q4 q5 q6=>?_⟩
  · simp only [A4U,B2T,A8V,A8U,e1,e2,e3,e4,e5,bO]
  · have d1:decide (m1<0)=false:=A9 (by omega)
    have d2:decide (m2<0)=false:=A9 (by omega);have d3:decide (m3<0)=false:=A9 (by omega);have d4:decide (m4<0)=false:=A9 (by omega);have d5:decide (m5<0)=false:=A9 (by omega);simp only [A4c,B2V,A8b,A8a,f1,f2,f3,f4,f5,bO,d1,d2,d3,d4,d5,B1]
theorem D3P(N:Nat):∀ fs:List B9,(∀ x∈fs,Sm N B6 x)->szT fs<=(2*N+32:Int)*fs.length
  | [],_=>by simp [szT]
  | f::fs,h=>by
    have h1:=D3P N fs fun x hx=>h x (B5 _ hx)
    have h2:=h f A5;have h3:f.1.size<=N:=h2.l;have h4:f.2.size<=N:=h2.r;simp only [szT,ofF,H0];rw [show ((fs.length+1:Nat):Int)=(fs.length:Int)+1 by omega,Int.mul_add,Int.mul_one];omega
theorem exactAnswerWith(c:I4)(id:Int)(r:R3)(hw:Sm maxLen A8C c)(hb:Byt c.2.1):A1P c id r=some (true,()):=by
  simp only [A1P,A1O];obtain ⟨l,e,h1,h2⟩:=D0d c hw 1048576 (by omega) (by omega);rw [e];simp only [bO];by_cases hl:l<0
  · rw [A0 hl];rfl
  rw [A9 hl];have hs:Sm 1048576 A8C c:=h2 (by omega);have hs':=hs;obtain ⟨m0,m1,m2,m3,m4,m5,m6⟩:=hs';have l1:List.length c.2.1<=1048576:=m1.1;have l2:List.length c.2.2.1.2.2<=1048576:=m2.2.2.1;have l3:List.length c.2.2.2.1.2<=1048576:=m3.2.1;have l4:List.length c.2.2.2.2.1.2<=1048576:=m4.2.1;have l5:List.length c.2.2.2.2.2.1<=1048576:=m5.1;have l6:∀ x∈c.2.2.2.2.2.1,x.2.2.2.length<=2000000:=fun x hx=>by
    have:List.length x.2.2.2<=1048576:=(m5.2 x hx).2.2.2.1;omega
  have hS:C1L c:=⟨by omega,by omega,by omega,by omega,by omega,l6⟩;have hz:szT c.2.2.2.2.1.2<=10000000000000:=by
    have:=D3P 1048576 c.2.2.2.2.1.2 m4.2.2;omega
  obtain ⟨c',o,has,g1,g2,g3,g4,g5,g6⟩:=C2M c id r hs hb hS hz l5;obtain ⟨n1,y1,y2,y3,y4,y5,k1,k2,k3,k4⟩:=C9p c hS l5;obtain ⟨n2,z1,z2,z3,z4,z5,p1,p2,p3,p4⟩:=C9p c' g5 g6;obtain ⟨n3,w,r1,r2,r3,r4⟩:=B7d o n2 (by omega) (by omega);have q1:=B99 c hw;have q2:=B99 c' g4;have q3:=B7V o (by simp only [maxLen];omega);have hr:B23 r=some (r,()):=rfl;simp only [B1,D0f c hs,hr,bO,g1,g2,q1,q2,q3,G9,beq_self_eq_true,bSl,k1];rw [A9 (show ¬ n1<0 by omega)];simp only [B1,bSl,p1,r1,bO,p4];rw [A9 (show ¬ n2<0 by omega)];simp only [B1,r4,bO];rw [A9 (show ¬ n3<0 by omega)];simp
end Go.Proofs.YthnfghmjipikhaaGreatDoor.Ev
