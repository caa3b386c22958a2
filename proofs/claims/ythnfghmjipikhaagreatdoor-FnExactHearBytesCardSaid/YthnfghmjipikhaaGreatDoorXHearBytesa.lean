/- What the plain functions of the program and of the reference answer: laws of plain data. -/
import Derived.Test.YthnfghmjipikhaaGreatDoorPu
import Derived.Laws.Strings
import Derived.Lib.Split
import Derived.Lib.Atoi
import Derived.Lib.ItoaNum
set_option linter.unusedVariables false
set_option linter.unusedSimpArgs false
set_option linter.unusedSectionVars false
namespace Go.Proofs.YthnfghmjipikhaaGreatDoor.Ev
open IntKind (i64 u8 u64 u32)
theorem w64{n:Int}(h0:-9223372036854775808<=n)(h1:n<9223372036854775808):i64.wrap n=n:=by
  simp only [IntKind.wrap,IntKind.bits,IntKind.signed,Bool.true_and];simp;split<;>omega
theorem C8U{α β:Type}(f:α->Option (α⊕β))(μ:α->Nat)(I:α->Prop)(Q:β->Prop)
    (h:∀ x,I x->(∃ y,f x=some (.inl y)/\I y/\μ y<μ x)\/∃ z,f x=some (.inr z)/\Q z):∀ x,I x->∃ z,C3 f x=some z/\Q z:=by
  intro x;generalize hn:μ x=n
  induction n using Nat.strongRecOn generalizing x with
  | ind n ih=>
    intro hx;rw [C8];rcases h x hx with ⟨y,e,hy,hl⟩ | ⟨z,e,hz⟩
    · rw [e];exact ih (μ y) (by omega) y rfl hy
    · rw [e];exact ⟨z,rfl,hz⟩
theorem F1L{α β:Type}(f:α->Option (α⊕β))(μ:α->Nat)(I:α->Prop)(z:β)
    (h:∀ x,I x->(∃ y,f x=some (.inl y)/\I y/\μ y<μ x)\/f x=some (.inr z)) (x:α) (hx:I x):C3 f x=some z:=by
  obtain ⟨z',h1,rfl⟩:=C8U f μ I (·=z) (fun x hx=>(h x hx).imp id fun h=>⟨_,h,rfl⟩) x hx;exact h1
theorem F6{α β:Type}(f:α->Option (α⊕β))(s:Nat->α)(n:Nat)(z:β)(h:∀ i,i<n->f (s i)=some (.inl (s (i+1))))(he:f (s n)=some (.inr z)):C3 f (s 0)=some z:=by
  have key:∀ k i,i+k=n->C3 f (s i)=some z:=by
    intro k
    induction k with
    | zero=>intro i hi;rw [C8,show i=n by omega,he]
    | succ k ih=>intro i hi;rw [C8,h i (by omega)];exact ih (i+1) (by omega)
  exact key n 0 (by omega)
theorem A1e{α β:Type}(f:α->Option (α⊕β))(s:Nat->α)(n:Nat)(z:Nat->β)(go:Nat->Bool)(h:∀ i,i<n->f (s i)=if go i then some (.inl (s (i+1))) else some (.inr (z i)))(he:f (s n)=some (.inr (z n))) :
    ∃ i,i<=n/\(∀ j,j<i->go j=true)/\(i<n->go i=false)/\C3 f (s 0)=some (z i):=by
  have key:∀ k i,i+k=n->(∀ j,j<i->go j=true)->∃ i',i'<=n/\(∀ j,j<i'->go j=true)/\(i'<n->go i' = false)/\C3 f (s i)=some (z i'):=by
    intro k
    induction k with
    | zero=>
      intro i hi hg;obtain rfl:i=n:=by omega
      exact ⟨i,Nat.le_refl _,hg,fun h=>absurd h (by omega),by rw [C8,he]⟩
    | succ k ih=>
      intro i hi hg;cases hgo:go i with
      | true=>
        obtain ⟨i',h1,h2,h3,h4⟩:=ih (i+1) (by omega) (fun j hj=>by
          by_cases h:j<i
          · exact hg j h
          · rw [show j=i by omega];exact hgo)
        refine ⟨i',h1,h2,h3,?_⟩;rw [C8,h i (by omega),if_pos hgo];exact h4
      | false=>
        refine ⟨i,by omega,hg,fun _=>hgo,?_⟩;rw [C8,h i (by omega),hgo];rfl
  exact key n 0 (by omega) (fun j hj=>by omega)
theorem D8k(s:X0)(i:Int):0<=bt s i:=by unfold bt;omega
theorem C2M(s:X0)(i:Int):bt s i<256:=by
  have:=(s.data.toList.getD i.toNat 0).toNat_lt;unfold bt;omega
theorem E6l(s:X0)(i:Int):i64.wrap (bt s i)=bt s i:=w64 (by have:=D8k s i;omega) (by have:=C2M s i;omega)
theorem T8{k:K}{xs:List k.T}{i:Nat}(h:i<xs.length):rd k xs (i:Int)=xs[i]:=by
  unfold rd;rw [Int.toNat_natCast];simp [List.getD,h]
theorem C0B{U:IntKind}{xs:List Int}{i:Nat}(h:i<xs.length):rd (.int U) xs (i:Int)=xs[i]:=T8 (k:=.int U) h
def Byt(a:List Int):Prop:=∀ x∈a,0<=x/\x<256
theorem pe{α β:Type}(p:α×β):(p.1,p.2)=p:=rfl
theorem A0{p:Prop} [Decidable p] (h:p):decide p=true:=decide_eq_true h
theorem A1{p:Prop} [Decidable p] (h:¬ p):decide p=false:=decide_eq_false h
def Sm(N:Nat):(k:K)->k.T->Prop
  | .int _,_=>True
  | .bool,_=>True
  | .fnc _,_=>True
  | .str,s=>s.size<=N
  | .sl _ k,xs=>xs.length<=N/\∀ x∈xs,Sm N k x
  | .rs _ k,xs=>xs.length<=N/\∀ x∈xs,Sm N k x
  | .pa _ _,_=>True
  | .pair a b,x=>Sm N a x.1/\Sm N b x.2
theorem Sm.l{N:Nat}{a b:K}{x:(K.pair a b).T}(h:Sm N (.pair a b) x):Sm N a x.1:=h.1
theorem Sm.r{N:Nat}{a b:K}{x:(K.pair a b).T}(h:Sm N (.pair a b) x):Sm N b x.2:=h.2
theorem Sm.len{N e:Nat}{k:K}{xs:(K.sl e k).T}(h:Sm N (.sl e k) xs):List.length xs<=N:=h.1
theorem Sm.el{N e:Nat}{k:K}{xs:(K.sl e k).T}(h:Sm N (.sl e k) xs):∀ x,x∈(show List k.T from xs)->Sm N k x:=h.2
def D3K(P:Int->Option (Int×Unit))(S:Prop):Prop:=∀ l:Int,0<=l->l<=1048576->∃ r,P l=some (r,())/\r<=l/\(0<=r->S)
theorem F05{T:Type}(f:T->Int->Option (Int×Unit))(S:T->Prop)(L:Int×Int×Unit->Option ((Int×Int×Unit)⊕(Int×Unit)))(a:List T)(hn:a.length<=maxLen)(hf:∀ x∈a,D3K (f x) (S x))
    (hs:∀ (i:Nat) (hi:i<a.length) (l:Int),L (l,(i:Int),())=A3 (f a[i] l) fun c=>bif decide (c.1<0) then some (.inr (-1,())) else some (.inl (c.1,i64.wrap ((i:Int)+1),())))
    (he:∀ l,L (l,(a.length:Int),())=some (.inr (l,()))):D3K (fun l=>C3 L (l,0,())) (∀ x∈a,S x):=by
  have key:∀ k i,i+k=a.length->∀ l:Int,0<=l->l<=1048576->∃ r,C3 L (l,(i:Int),())=some (r,())/\r<=l/\(0<=r->∀ j (hj:j<a.length),i<=j->S a[j]):=by
    intro k
    induction k with
    | zero=>
      intro i hi l h0 h1;obtain rfl:i=a.length:=by omega
      exact ⟨l,by rw [C8,he],Int.le_refl _,fun _ j hj hi=>by omega⟩
    | succ k ih=>
      intro i hi l h0 h1;have hlt:i<a.length:=by omega
      obtain ⟨r,e,h2,h3⟩:=hf a[i] (List.getElem_mem hlt) l h0 h1;rw [C8,hs i hlt,e];simp only [A3];by_cases hr:r<0
      · rw [A0 hr]
        exact ⟨-1,rfl,by omega,fun h=>by omega⟩
      · rw [A1 hr]
        simp only [cond_false];rw [w64 (by omega) (by simp only [maxLen] at hn;omega)];obtain ⟨r',e',h4,h5⟩:=ih (i+1) (by omega) r (by omega) (by omega);refine ⟨r',by simpa using e',by omega,fun h j hj hij=>?_⟩;by_cases hji:j=i
        · subst hji;exact h3 (by omega)
        · exact h5 h j hj (by omega)
  intro l h0 h1;obtain ⟨r,e,h2,h3⟩:=key a.length 0 (by omega) l h0 h1;refine ⟨r,by simpa using e,h2,fun h x hx=>?_⟩;obtain ⟨j,hj,rfl⟩:=List.getElem_of_mem hx;exact h3 h j hj (by omega)
theorem E0O(L:Int×Unit->Option ((Int×Unit)⊕(Bool×Unit)))(n:Nat)(hn:n<=maxLen)(hs:∀ i:Nat,i<n->L ((i:Int),())=some (.inl (i64.wrap ((i:Int)+1),())))
    (he:L ((n:Int),())=some (.inr (true,()))):C3 L (0,())=some (true,()):=by
  refine F6 L (fun i=>((i:Int),())) n (true,()) (fun i hi=>?_) he;rw [hs i hi,w64 (by omega) (by simp only [maxLen] at hn;omega)];rfl
theorem F06{T:Type}(L:Int×List T×Unit->Option ((Int×List T×Unit)⊕(List T×Unit)))(a:List T)(z:T)(hn:a.length<=maxLen)
    (hs:∀ (i:Nat) (hi:i<a.length) (b:List T),b.length=a.length->L ((i:Int),b,())=some (.inl (i64.wrap ((i:Int)+1),b.set i a[i],())))
    (he:∀ b,L ((a.length:Int),b,())=some (.inr (b,()))):C3 L (0,List.replicate a.length z,())=some (a,()):=by
  have key:=F6 L (fun i=>((i:Int),a.take i++List.replicate (a.length-i) z,())) a.length (a,()) (fun i hi=>?_) ?_
  · simpa using key
  · have hl:(a.take i++List.replicate (a.length-i) z).length=a.length:=by simp;omega
    rw [hs i hi _ hl,w64 (by omega) (by simp only [maxLen] at hn;omega)];have:(a.take i++List.replicate (a.length-i) z).set i a[i]=a.take (i+1)++List.replicate (a.length-(i+1)) z:=by
      rw [List.set_append_right _ _ (by simp;omega)];rw [List.take_succ_eq_append_getElem hi,List.append_assoc]
      congr 1
      rw [show (a.take i).length=i by simp;omega,Nat.sub_self,show a.length-i=(a.length-(i+1))+1 by omega,List.replicate_succ];rfl
    rw [this];rfl
  · rw [he]
    simp
def A1f(go:Nat->Bool):Nat->Nat->Nat
  | i,0=>i
  | i,k+1=>if go i then A1f go (i+1) k else i
theorem D8l(go:Nat->Bool):∀ k i,A1f go i k<=i+k
  | 0,i=>Nat.le_refl _
  | k+1,i=>by
    simp only [A1f];split
    · have:=D8l go k (i+1);omega
    · omega
theorem C5j(go:Nat->Bool):∀ k i,A1f go i k<i+k->go (A1f go i k)=false
  | 0,i,h=>by simp [A1f] at h
  | k+1,i,h=>by
    simp only [A1f] at h ⊢;split
    · rename_i hg
      rw [if_pos hg] at h;exact C5j go k (i+1) (by omega)
    · rename_i hg
      simpa using hg
theorem E39{α β:Type}(f:α->Option (α⊕β))(s:Nat->α)(n:Nat)(z:Nat->β)(go:Nat->Bool)(h:∀ i,i<n->f (s i)=if go i then some (.inl (s (i+1))) else some (.inr (z i)))(he:f (s n)=some (.inr (z n))) :
    C3 f (s 0)=some (z (A1f go 0 n)):=by
  have key:∀ k i,i+k=n->C3 f (s i)=some (z (A1f go i k)):=by
    intro k
    induction k with
    | zero=>
      intro i hi;obtain rfl:i=n:=by omega
      rw [C8,he];rfl
    | succ k ih=>
      intro i hi;rw [C8,h i (by omega)];simp only [A1f];cases go i with
      | true=>simp only [if_true];exact ih (i+1) (by omega)
      | false=>rfl
  exact key n 0 (by omega)
theorem A4e(a:List Int)(h:a.length<=maxLen):Q6 a a=some (true,()):=by
  simp only [Q6,B9e];simp only [decide_true,Bool.not_true,cond_false];refine F6 (A92 a a) (fun i=>((i:Int),())) a.length (true,()) (fun i hi=>?_) ?_
  · have h1:((i:Int)<(a.length:Int)):=by omega
    have h2:(0:Int)<=(i:Int):=by omega
    simp only [A92,A0 h1,A0 h2,cond_true,decide_true,Bool.not_true,cond_false];rw [w64 (by omega) (by simp only [maxLen] at h;omega)];rfl
  · simp [A92]
theorem D3L(a:List Int)(h:a.length<=281474976710656):T5 a=some (a,()):=by
  simp only [T5,B9d];have h1:(0:Int)<=(a.length:Int):=by omega
  rw [A0 h1,Int.toNat_natCast,A0 (show a.length<=9223372036854775807 by omega),A0 (show 1*a.length<=281474976710656 by omega)];simp only [cond_true];have key:=F6 (A91 a) (fun i=>((i:Int),a.take i++List.replicate (a.length-i) 0,())) a.length (a,()) (fun i hi=>?_) ?_
  · simpa using key
  · have h1:((i:Int)<(a.length:Int)):=by omega
    have h2:(0:Int)<=(i:Int):=by omega
    have hl:(a.take i++List.replicate (a.length-i) (0:Int)).length=a.length:=by simp;omega
    simp only [A91,hl,A0 h1,A0 h2,cond_true];rw [w64 (by omega) (by omega),Int.toNat_natCast,T8 hi];have:(a.take i++List.replicate (a.length-i) (0:Int)).set i a[i]=a.take (i+1)++List.replicate (a.length-(i+1)) 0:=by
      rw [List.set_append_right _ _ (by simp;omega)];rw [List.take_succ_eq_append_getElem hi,List.append_assoc]
      congr 1
      rw [show (a.take i).length=i by simp;omega,Nat.sub_self,show a.length-i=(a.length-(i+1))+1 by omega,List.replicate_succ];rfl
    rw [this];rfl
  · simp [A91]
abbrev E0P:=X0×List Int×Int×Int
theorem E6m(a:List Int)(l:Int)(h0:l<=1048576)(h1:0<=l)(h:a.length<=maxLen):A0W a l=some (if (a.length:Int)<=l then (l-a.length:Int) else -1,()):=by
  simp only [A0W,B9h,maxLen] at *
  rw [w64 (by omega) (by omega)];split
  · rw [A1 (by omega)];rfl
  · rw [A0 (by omega)];rfl
def marked(m:Int)(n:Nat):List Int:=(List.range n).map fun j=>u8.wrap (m+(j:Nat))
theorem E0Q(a:List Int)(m:Int)(h0:0<=m)(h:m+a.length<9223372036854775808):H3 a m=some (m+a.length,marked m a.length,()):=by
  simp only [H3,B51];have key:=F6 A5o (fun i=>(m+(i:Int),(i:Int),marked m i++a.drop i,())) a.length (m+a.length,marked m a.length,()) (fun i hi=>?_) ?_
  · simpa [marked] using key
  · have h1:((i:Int)<(a.length:Int)):=by omega
    have h2:(0:Int)<=(i:Int):=by omega
    have hl:(marked m i++a.drop i).length=a.length:=by simp [marked];omega
    simp only [A5o,hl,A0 h1,A0 h2,cond_true];rw [w64 (by omega) (by omega),w64 (by omega) (by omega),Int.toNat_natCast];have:(marked m i++a.drop i).set i (u8.wrap (m+(i:Int)))=marked m (i+1)++a.drop (i+1):=by
      rw [List.set_append_right _ _ (by simp [marked])];rw [show (marked m i).length=i by simp [marked],Nat.sub_self,List.drop_eq_getElem_cons hi,List.set_cons_zero];simp [marked,List.range_succ]
    rw [this];simp only [Int.natCast_add,Int.natCast_one,Int.add_assoc]
  · simp [A5o,marked]
theorem E0R(n:Nat)(m:Int)(h0:0<=m)(h:m+n<9223372036854775808):H4 (marked m n) m=some (m+n,()):=by
  simp only [H4,B52];have hl:(marked m n).length=n:=by simp [marked]
  have key:=F6 (A5p (marked m n)) (fun i=>(m+(i:Int),(i:Int),())) n (m+n,()) (fun i hi=>?_) ?_
  · simpa [marked] using key
  · have h1:((i:Int)<(n:Int)):=by omega
    have h2:(0:Int)<=(i:Int):=by omega
    simp only [A5p,hl,A0 h1,A0 h2,cond_true];have hr:rd (.int .u8) (marked m n) (i:Int)=u8.wrap (m+(i:Int)):=by
      rw [T8 (by rw [hl];exact hi)];simp [marked]
    rw [hr,w64 (by omega) (by omega),w64 (by omega) (by omega)];simp only [decide_true,Bool.not_true,cond_false,Int.natCast_add,Int.natCast_one,Int.add_assoc]
  · simp [A5p,hl]
theorem C4a(a:List Int)(h:Sm maxLen (.sl 0 (.int .u8)) a):D3K (A0W a) (Sm 1048576 (.sl 0 (.int .u8)) a):=by
  intro l h0 h1;refine ⟨_,E6m a l h1 h0 h.1,?_,fun hr=>⟨?_,fun x _=>trivial⟩⟩
  · split<;>omega
  · split at hr<;>omega
theorem C4b(a:List Int)(h:Sm 1048576 (.sl 0 (.int .u8)) a):T5 a=some (a,()):=D3L a (by have:=h.1;omega)
theorem F4Q(a:B4w)(h:Sm maxLen B2L a):D3K (B5j a) (Sm 1048576 B2L a):=by
  intro l h0 h1;simp only [B5j,C8J];have z1:a.2.1.size<=9223372036854775807:=(Sm.l (Sm.r h));rw [w64 (n:=l-(a.2.1.size:Int)) (by omega) (by omega)];by_cases n1:l-(a.2.1.size:Int)<0
  · rw [A0 n1];exact ⟨-1,rfl,by omega,fun h=>by omega⟩
  rw [A1 n1];simp only [cond_false];exact ⟨_,rfl,by omega,fun _=>⟨by simp [Sm],⟨by show a.2.1.size<=1048576;omega,by simp [Sm]⟩⟩⟩
theorem E3A(a:D6)(h:Sm maxLen O5 a):D3K (A74 a) (Sm 1048576 O5 a):=by
  intro l h0 h1;simp only [A74,B71];obtain ⟨r1,e1,u1,v1⟩:=C4a a.2.2 (Sm.r (Sm.r h)) l (by omega) (by omega);rw [e1];simp only [A3];by_cases n1:r1<0
  · rw [A0 n1];exact ⟨-1,rfl,by omega,fun h=>by omega⟩
  rw [A1 n1];simp only [cond_false];exact ⟨_,rfl,by omega,fun _=>⟨by simp [Sm],⟨by simp [Sm],v1 (by omega)⟩⟩⟩
theorem E6n(a:A4)(h:Sm maxLen A5 a):D3K (A3p a) (Sm 1048576 A5 a):=by
  intro l h0 h1;simp only [A3p,B9f];have z1:a.1.size<=9223372036854775807:=(Sm.l h);rw [w64 (n:=l-(a.1.size:Int)) (by omega) (by omega)];by_cases n1:l-(a.1.size:Int)<0
  · rw [A0 n1];exact ⟨-1,rfl,by omega,fun h=>by omega⟩
  rw [A1 n1];simp only [cond_false];have z2:a.2.size<=9223372036854775807:=(Sm.r h);rw [w64 (n:=(l-(a.1.size:Int))-(a.2.size:Int)) (by omega) (by omega)];by_cases n2:(l-(a.1.size:Int))-(a.2.size:Int)<0
  · rw [A0 n2];exact ⟨-1,rfl,by omega,fun h=>by omega⟩
  rw [A1 n2];simp only [cond_false];exact ⟨_,rfl,by omega,fun _=>⟨by show a.1.size<=1048576;omega,by show a.2.size<=1048576;omega⟩⟩
theorem E3B(a:List A4)(h:Sm maxLen (.sl 161 A5) a):D3K (A73 a) (Sm 1048576 (.sl 161 A5) a):=by
  have hl:a.length<=9223372036854775807:=h.1;intro l h0 h1;simp only [A73,B70];rw [w64 (by omega) (by omega)];by_cases hn:l-(a.length:Int)<0
  · rw [A0 hn];exact ⟨-1,rfl,by omega,fun h=>by omega⟩
  rw [A1 hn];simp only [cond_false];obtain ⟨r,e,h2,h3⟩:=F05 A3p (fun x=>Sm 1048576 A5 x) (A72 A3p a) a h.1 (fun x hx=>E6n x (h.2 x hx)) (by
    intro i hi l;have g1:((i:Int)<(a.length:Int)):=by omega
    have g2:(0:Int)<=(i:Int):=by omega
    simp only [A72,A0 g1,A0 g2,cond_true];rw [T8 (k:=A5) (xs:=a) hi]
    ) (fun l=>by simp [A72]) (l-(a.length:Int)) (by omega) (by omega)
  exact ⟨r,e,by omega,fun h=>⟨by omega,h3 h⟩⟩
theorem D3M(a:B2)(h:Sm maxLen C5W a):D3K (A9s a) (Sm 1048576 C5W a):=by
  intro l h0 h1;simp only [A9s,B9g];obtain ⟨r1,e1,u1,v1⟩:=E3B a.2 (Sm.r h) l (by omega) (by omega);rw [e1];simp only [A3];by_cases n1:r1<0
  · rw [A0 n1];exact ⟨-1,rfl,by omega,fun h=>by omega⟩
  rw [A1 n1];simp only [cond_false];exact ⟨_,rfl,by omega,fun _=>⟨by simp [Sm],v1 (by omega)⟩⟩
theorem F4R(a:F7)(h:Sm maxLen B7 a):D3K (A8V a) (Sm 1048576 B7 a):=by
  intro l h0 h1;simp only [A8V,C8K];obtain ⟨r1,e1,u1,v1⟩:=F4Q a.2.2.1 (Sm.l (Sm.r (Sm.r h))) l (by omega) (by omega);rw [e1];simp only [A3];by_cases n1:r1<0
  · rw [A0 n1];exact ⟨-1,rfl,by omega,fun h=>by omega⟩
  rw [A1 n1];simp only [cond_false];obtain ⟨r2,e2,u2,v2⟩:=C4a a.2.2.2 (Sm.r (Sm.r (Sm.r h))) r1 (by omega) (by omega);rw [e2];simp only [A3];by_cases n2:r2<0
  · rw [A0 n2];exact ⟨-1,rfl,by omega,fun h=>by omega⟩
  rw [A1 n2];simp only [cond_false];exact ⟨_,rfl,by omega,fun _=>⟨by simp [Sm],⟨by simp [Sm],⟨v1 (by omega),v2 (by omega)⟩⟩⟩⟩
theorem F1M(a:List F7)(h:Sm maxLen (.sl 180 B7) a):D3K (B2N a) (Sm 1048576 (.sl 180 B7) a):=by
  have hl:a.length<=9223372036854775807:=h.1;intro l h0 h1;simp only [B2N,C46];rw [w64 (by omega) (by omega)];by_cases hn:l-(a.length:Int)<0
  · rw [A0 hn];exact ⟨-1,rfl,by omega,fun h=>by omega⟩
  rw [A1 hn];simp only [cond_false];obtain ⟨r,e,h2,h3⟩:=F05 A8V (fun x=>Sm 1048576 B7 x) (B1B A8V a) a h.1 (fun x hx=>F4R x (h.2 x hx)) (by
    intro i hi l;have g1:((i:Int)<(a.length:Int)):=by omega
    have g2:(0:Int)<=(i:Int):=by omega
    simp only [B1B,A0 g1,A0 g2,cond_true];rw [T8 (k:=B7) (xs:=a) hi]
    ) (fun l=>by simp [B1B]) (l-(a.length:Int)) (by omega) (by omega)
  exact ⟨r,e,by omega,fun h=>⟨by omega,h3 h⟩⟩
theorem F1N(a:E9)(h:Sm maxLen D36 a):D3K (B2O a) (Sm 1048576 D36 a):=by
  intro l h0 h1;simp only [B2O,C47];obtain ⟨r1,e1,u1,v1⟩:=C4a a.2.1 (Sm.l (Sm.r h)) l (by omega) (by omega);rw [e1];simp only [A3];by_cases n1:r1<0
  · rw [A0 n1];exact ⟨-1,rfl,by omega,fun h=>by omega⟩
  rw [A1 n1];simp only [cond_false];obtain ⟨r2,e2,u2,v2⟩:=E3A a.2.2.1 (Sm.l (Sm.r (Sm.r h))) r1 (by omega) (by omega);rw [e2];simp only [A3];by_cases n2:r2<0
  · rw [A0 n2];exact ⟨-1,rfl,by omega,fun h=>by omega⟩
  rw [A1 n2];simp only [cond_false];obtain ⟨r3,e3,u3,v3⟩:=D3M a.2.2.2.1 (Sm.l (Sm.r (Sm.r (Sm.r h)))) r2 (by omega) (by omega);rw [e3];simp only [A3];by_cases n3:r3<0
  · rw [A0 n3];exact ⟨-1,rfl,by omega,fun h=>by omega⟩
  rw [A1 n3];simp only [cond_false];obtain ⟨r4,e4,u4,v4⟩:=D3M a.2.2.2.2.1 (Sm.l (Sm.r (Sm.r (Sm.r (Sm.r h))))) r3 (by omega) (by omega);rw [e4];simp only [A3];by_cases n4:r4<0
  · rw [A0 n4];exact ⟨-1,rfl,by omega,fun h=>by omega⟩
  rw [A1 n4];simp only [cond_false];obtain ⟨r5,e5,u5,v5⟩:=F1M a.2.2.2.2.2.1 (Sm.l (Sm.r (Sm.r (Sm.r (Sm.r (Sm.r h)))))) r4 (by omega) (by omega);rw [e5];simp only [A3];by_cases n5:r5<0
  · rw [A0 n5];exact ⟨-1,rfl,by omega,fun h=>by omega⟩
  rw [A1 n5];simp only [cond_false];exact ⟨_,rfl,by omega,fun _=>⟨by simp [Sm],⟨v1 (by omega),⟨v2 (by omega),⟨v3 (by omega),⟨v4 (by omega),⟨v5 (by omega),⟨by simp [Sm],by simp [Sm]⟩⟩⟩⟩⟩⟩⟩⟩
theorem F4S(a:B4w)(h:Sm 1048576 B2L a):B5l a=some (a,()):=by
  simp only [B5l,C8L,A3]
theorem E3C(a:D6)(h:Sm 1048576 O5 a):A76 a=some (a,()):=by
  simp only [A76,B75,A3,C4b a.2.2 (Sm.r (Sm.r h))]
theorem E6o(a:A4)(h:Sm 1048576 A5 a):A9u a=some (a,()):=by
  simp only [A9u,B9i,A3]
theorem E3D(a:List A4)(h:Sm 1048576 (.sl 161 A5) a):A75 a=some (a,()):=by
  have hl:a.length<=1048576:=h.1;simp only [A75,B74];rw [A0 (show (0:Int)<=(a.length:Int) by omega),Int.toNat_natCast,A0 (by omega),A0 (by omega)];simp only [cond_true];refine F06 _ a _ (by simp only [maxLen];omega) (fun i hi b hb=>?_) (fun b=>by simp [B2P]);have h1:((i:Int)<(a.length:Int)):=by omega
  have h2:(0:Int)<=(i:Int):=by omega
  simp only [B2P,hb,A0 h1,A0 h2,cond_true];rw [T8 (k:=A5) (xs:=a) hi];rw [E6o _ (h.2 _ (List.getElem_mem hi))];rfl
theorem D3N(a:B2)(h:Sm 1048576 C5W a):A9v a=some (a,()):=by
  simp only [A9v,B9j,A3,E3D a.2 (Sm.r h)]
theorem F4T(a:F7)(h:Sm 1048576 B7 a):B5n a=some (a,()):=by
  simp only [B5n,C8M,A3,F4S a.2.2.1 (Sm.l (Sm.r (Sm.r h))),C4b a.2.2.2 (Sm.r (Sm.r (Sm.r h)))]
theorem F1O(a:List F7)(h:Sm 1048576 (.sl 180 B7) a):B2Q a=some (a,()):=by
  have hl:a.length<=1048576:=h.1;simp only [B2Q,C48];rw [A0 (show (0:Int)<=(a.length:Int) by omega),Int.toNat_natCast,A0 (by omega),A0 (by omega)];simp only [cond_true];refine F06 _ a _ (by simp only [maxLen];omega) (fun i hi b hb=>?_) (fun b=>by simp [B76]);have h1:((i:Int)<(a.length:Int)):=by omega
  have h2:(0:Int)<=(i:Int):=by omega
  simp only [B76,hb,A0 h1,A0 h2,cond_true];rw [T8 (k:=B7) (xs:=a) hi];rw [F4T _ (h.2 _ (List.getElem_mem hi))];rfl
theorem F1P(a:E9)(h:Sm 1048576 D36 a):B2R a=some (a,()):=by
  simp only [B2R,C49,A3,C4b a.2.1 (Sm.l (Sm.r h)),E3C a.2.2.1 (Sm.l (Sm.r (Sm.r h))),D3N a.2.2.2.1 (Sm.l (Sm.r (Sm.r (Sm.r h)))),D3N a.2.2.2.2.1 (Sm.l (Sm.r (Sm.r (Sm.r (Sm.r h))))),F1O a.2.2.2.2.2.1 (Sm.l (Sm.r (Sm.r (Sm.r (Sm.r (Sm.r h))))))]
theorem U1(a b c:Int):E6 a b c=some (decide (b<=a/\a<=c),()):=by
  simp only [E6,D3E];by_cases h:b<=a<;>by_cases h2:a<=c<;>simp [h,h2]
theorem K1(a b c:Int):E4 a b c=some (decide (b<=a/\a<=c),()):=U1 a b c
def E0S(s:X0)(i:Nat):Bool:=decide (97<=bt s i/\bt s i<=122)||decide (48<=bt s i/\bt s i<=57)
def idB(s:X0):Bool:=(List.range s.size).all (E0S s)&&decide (1<=(s.size:Int)/\(s.size:Int)<=8)
theorem E6p(s:X0)(h:s.size<=maxLen)(i:Nat)(hi:i<s.size):B3v E6 s ((i:Int),())=if E0S s i then some (.inl (((i+1:Nat):Int),())) else some (.inr (.inr (false,()))):=by
  have h1:((i:Int)<(s.size:Int)):=by omega
  have h2:(0:Int)<=(i:Int):=by omega
  simp only [B3v,A0 h1,A0 h2,cond_true,E6l,U1,A3];rw [w64 (by omega) (by simp only [maxLen] at h;omega)];unfold E0S;cases decide (97<=bt s i/\bt s i<=122)<;>cases decide (48<=bt s i/\bt s i<=57)<;>simp
theorem F1Q(s:X0)(h:s.size<=maxLen)(i:Nat)(hi:i<s.size):B7a s ((i:Int),())=if E0S s i then some (.inl (((i+1:Nat):Int),())) else some (.inr (.inr (false,()))):=by
  have h1:((i:Int)<(s.size:Int)):=by omega
  have h2:(0:Int)<=(i:Int):=by omega
  simp only [B7a,A0 h1,A0 h2,cond_true];rw [w64 (by omega) (by simp only [maxLen] at h;omega)];unfold E0S;by_cases a:bt s i>=97<;>by_cases b:bt s i<=122<;>by_cases c:bt s i>=48<;>by_cases d:bt s i<=57<;>simp [a,b,c,d]
theorem F7G{s:X0}{f:Int×Unit->Option ((Int×Unit)⊕(Unit⊕(Bool×Unit)))}(hs:∀ i:Nat,i<s.size->f ((i:Int),())=if E0S s i then some (.inl (((i+1:Nat):Int),())) else some (.inr (.inr (false,()))))
    (he:f ((s.size:Int),())=some (.inr (.inl ()))) (g:Unit->Option (Bool×Unit)) (hg:g ()=some (decide (1<=(s.size:Int)/\(s.size:Int)<=8),())):D7 (C3 f (0,())) g=some (idB s,()):=by
  obtain ⟨i,h1,h2,h3,h4⟩:=A1e f (fun i=>((i:Int),())) s.size (fun i=>if i<s.size then .inr (false,()) else .inl ()) (E0S s) (fun i hi=>by
    simp only [if_pos hi];exact hs i hi) (by simp only [Nat.lt_irrefl,if_false];exact he)
  have h4':C3 f (0,())=some (if i<s.size then .inr (false,()) else .inl ()):=h4;rw [h4'];unfold idB;by_cases hi:i<s.size
  · rw [if_pos hi]
    have:(List.range s.size).all (E0S s)=false:=by
      rw [List.all_eq_false];exact ⟨i,List.mem_range.2 hi,by simp [h3 hi]⟩
    simp [D7,this]
  · rw [if_neg hi]
    have:(List.range s.size).all (E0S s)=true:=by
      rw [List.all_eq_true];intro j hj;exact h2 j (by have:=List.mem_range.1 hj;omega)
    simp only [D7,this,hg,Bool.true_and]
theorem F4U(s:X0)(h:s.size<=maxLen):B29 s=some (idB s,()):=by
  simp only [B29,C8S];exact F7G (E6p s h) (by simp [B3v]) _ (by simp only [U1,A3])
theorem F6i(s:X0)(h:s.size<=maxLen):B9q s=some (idB s,()):=by
  simp only [B9q,D3C];exact F7G (F1Q s h) (by simp [B7a]) _ (by simp only [K1,A3])
theorem F4V{R:Type}(a:Option R):eqO a a=a:=by
  unfold eqO;rw [if_pos rfl]
theorem D6h(a:List Int)(h:a.length<=140737488355328):B8 a=some (a,()):=by
  simp only [B8,V0];have e:(bif decide (([]:List Int).length+a.length<=9223372036854775807) then bif decide ((([]:List Int).length+a.length)*1<=140737488355328) then some (([]++a),()) else none else none)=some (a,()):=by
    rw [A0 (by simp;omega),A0 (by simp;omega)];simp
  rw [e];cases a with
  | nil=>simp [F4V]
  | cons x xs=>simp
def F4W(n:Int)(k j:Nat):Int:=u8.wrap (n.fdiv (2 ^ (8*(k-1-j))))
def big(n:Int)(k:Nat):List Int:=(List.range k).map (F4W n k)
theorem A9T(n:Int)(k:Nat):(big n k).length=k:=by simp [big]
theorem F92{n:Int}(h0:0<=n)(h1:n<18446744073709551616):u64.wrap n=n:=by
  simp only [IntKind.wrap,IntKind.bits,IntKind.signed];simp;omega
theorem F07(v:Int)(b:List Int)(k:Nat)(hk:k<=8)(hb:b.length+8<=140737488355328):C3 (A2W (v,())) ((k:Int)-1,b,())=some (b++big v k,()):=by
  have key:=F6 (A2W (v,())) (fun j=>((k:Int)-1-(j:Int),b++(List.range j).map (F4W v k),())) k (b++big v k,()) (fun j hj=>?_) ?_
  · simpa using key
  · have h1:(k:Int)-1-(j:Int)>=0:=by omega
    have e1:(k:Int)-1-(j:Int)=((k-1-j:Nat):Int):=by omega
    have hs:u64.wrap (i64.wrap (8*((k:Int)-1-(j:Int))))=((8*(k-1-j):Nat):Int):=by
      rw [w64 (by omega) (by omega),F92 (by omega) (by omega)];omega
    have hm:min (8*(k-1-j)) i64.bits=8*(k-1-j):=Nat.min_eq_left (by simp only [IntKind.bits];omega);simp only [A2W,A0 h1,cond_true,hs,Int.toNat_natCast,hm];rw [A1 (by omega)];simp only [cond_false];have hl:(b++(List.range j).map (F4W v k)).length=b.length+j:=by simp
    rw [A0 (by rw [hl];simp;omega),A0 (by rw [hl];simp;omega)];simp only [cond_true];rw [w64 (by omega) (by omega),List.range_succ,List.map_append,List.append_assoc];have e2:(k:Int)-1-(j:Int)-1=(k:Int)-1-((j+1:Nat):Int):=by omega
    rw [e2];rfl
  · have h1:¬ ((k:Int)-1-(k:Int)>=0):=by omega
    simp only [A2W,A1 h1,cond_false];rfl
def A6d(n:Int):Int:=if n<0 then 0 else n
theorem B44(b:List Int)(n:Int)(k:Nat)(h1:1<=k)(hk:k<=8)(hb:b.length+8<=140737488355328):A6G b n (k:Int)=some (b++big (A6d n) k,()):=by
  simp only [A6G,C4P];rw [A0 (by simp;omega),A0 (by simp;omega)];have e:(bif decide (n<0) then some ((0:Int),()) else some (n,()))=some (A6d n,()):=by
    unfold A6d;by_cases h:n<0<;>simp [h]
  simp only [cond_true,e,A3,U1];rw [A0 (by omega)];simp only [Bool.not_true,cond_false,List.nil_append];rw [w64 (by omega) (by omega)];exact F07 _ b k hk hb
theorem B45(b:List Int)(n:Int)(k:Nat)(hk:k<=8)(hb:b.length+8<=140737488355328):A6C b n (k:Int)=some (b++big (A6d n) k,()):=by
  simp only [A6C,C4K];have e:B7e n=A2W (A6d n,()):=by
    funext l
    have:(bif decide (0>n) then (0:Int) else n)=A6d n:=by
      unfold A6d;by_cases h:n<0<;>simp [h]
    simp only [B7e,A2W,this]
  rw [e,w64 (by omega) (by omega)];exact F07 _ b k hk hb
abbrev Frame:=Int×Int×Int×List Int
def A2B(f:Frame):Bool:=decide (0<=f.1/\f.1<=255)&&decide (0<=f.2.1/\f.2.1<=255)&&decide (0<=f.2.2.1/\f.2.2.1<=2147483647)&&decide ((f.2.2.2.length:Int)<=1000)
theorem C5k(f:Frame):A2K f=some (A2B f,()):=by
  simp only [A2K,B9w,U1,A3,A2B];cases decide (0<=f.1/\f.1<=255)<;>cases decide (0<=f.2.1/\f.2.1<=255)<;>cases decide (0<=f.2.2.1/\f.2.2.1<=2147483647)<;>simp
def B2w(f:Frame):List Int:=big (f.2.2.2.length:Int) 3 ++ [u8.wrap f.1,u8.wrap f.2.1]++big (A6d f.2.2.1) 4++f.2.2.2
theorem C2N(b:List Int)(f:Frame)(h:b.length+f.2.2.2.length+24<=140737488355328):A2S b f=some (b++B2w f,()):=by
  simp only [A2S,B7f];rw [show (3:Int)=((3:Nat):Int) from rfl,B45 b _ 3 (by omega) (by omega)];have hc:A6d (f.2.2.2.length:Int)=(f.2.2.2.length:Int):=by unfold A6d;rw [if_neg (by omega)]
  simp only [A3,hc];have hl:=A9T (f.2.2.2.length:Int) 3;rw [A0 (by simp [hl];omega),A0 (by simp [hl];omega)];simp only [cond_true];rw [show (4:Int)=((4:Nat):Int) from rfl,B45 _ _ 4 (by omega) (by simp [hl];omega)];simp only [A3];have hl4:=A9T (A6d f.2.2.1) 4;rw [A0 (by simp [hl,hl4];omega),A0 (by simp [hl,hl4];omega)];simp [B2w]
theorem D6i(f:Frame)(h:f.2.2.2.length+24<=140737488355328):A7e f=some (if A2B f then B2w f else [],()):=by
  simp only [A7e,B7k,pe,C5k,A3];cases A2B f with
  | false=>rfl
  | true=>
    simp only [Bool.not_true,cond_false];rw [show (3:Int)=((3:Nat):Int) from rfl,B44 [] _ 3 (by omega) (by omega) (by simp)];have hc:A6d (f.2.2.2.length:Int)=(f.2.2.2.length:Int):=by unfold A6d;rw [if_neg (by omega)]
    simp only [hc];have hl:=A9T (f.2.2.2.length:Int) 3;rw [A0 (by simp [hl]),A0 (by simp [hl])];simp only [cond_true];rw [show (4:Int)=((4:Nat):Int) from rfl,B44 _ _ 4 (by omega) (by omega) (by simp [hl])];have hl4:=A9T (A6d f.2.2.1) 4;simp only;rw [A0 (by simp [hl,hl4];omega),A0 (by simp [hl,hl4];omega)];simp [B2w]
theorem E3E{n:Nat}(h:n<9223372036854775808):i64.wrap (n:Int)=(n:Int):=w64 (by omega) (by omega)
theorem bits_nat{w x:Nat}(h:x<2 ^ w):(BitVec.ofInt w (x:Int)).toNat=x:=by
  rw [BitVec.ofInt_natCast,BitVec.toNat_ofNat];exact Nat.mod_eq_of_lt h
theorem D3O{a:List Int}(h:Byt a)(i:Nat):Byt (a.take i):=fun x hx=>h x (List.mem_of_mem_take hx)
abbrev F93:=Int×Int
def far(c:E0P)(off:Int):E0P:=if 0<=off/\off<=(c.2.1.length:Int) then (if off=(c.2.1.length:Int) then (c.1,c.2.1,4,off) else (c.1,c.2.1,3,off)) else (c.1,c.2.1,6,c.2.2.2)
def E3F(step status:Int):Int:=
  if status=507 then (if step=2 then 6 else step)
  else if status=404 then (if step=1 then 6 else 1)
  else if status=409 then (if step=3 then 0 else if step=2 then 6 else 2)
  else if status=201 then (if step=1 then 0 else 6)
  else if status=204 then (if step=3 then 0 else 6)
  else if status=200 then (if step=2 then 0 else if step=4 then 5 else 6)
  else 6
def hear(c:E0P)(r:F93):E0P:=if E3F c.2.2.1 r.1=0 then far c r.2 else (c.1,c.2.1,E3F c.2.2.1 r.1,c.2.2.2)
theorem F7t{x y:Int}(hx:0<=x/\x<256)(hy:0<=y/\y<256)(h:UInt8.ofNat x.toNat=UInt8.ofNat y.toNat):x=y:=by
  have:=congrArg UInt8.toNat h;simp only [UInt8.toNat_ofNat'] at this;omega
theorem E3G:A15=S5:=rfl
theorem E6q:A0a=Q8:=rfl
theorem C2O(g:D6):∃ b,S5 g=some (b,()):=by
  simp only [S5,A7c,U1,A3];by_cases h1:g.1=0
  · rw [A0 h1]
    cases g.2.1<;>exact ⟨_,rfl⟩
  · rw [A1 h1]
    cases decide (1<=g.1/\g.1<=2147483647)<;>exact ⟨_,rfl⟩
theorem E3H(t:B2)(h:t.2.length<=maxLen):∃ b,A2T t=some (b,()):=by
  obtain ⟨z,e,_⟩:=C8U (A4T B04 t) (fun l=>((t.2.length:Int)-l.2.1).toNat) (fun l=>0<=l.2.1) (fun _=>True) (fun l hl=>by
    simp only [A4T];by_cases hi:l.2.1<(t.2.length:Int)
    · simp only [A0 hi,A0 hl,cond_true,B04,C5h,A3]
      rw [w64 (n:=l.2.1+1) (by omega) (by simp only [maxLen] at h;omega)];exact .inl ⟨_,rfl,by simp only;omega,by simp only;omega⟩
    · simp only [A1 hi,cond_false]
      exact .inr ⟨_,rfl,trivial⟩) (0,0,()) (by simp)
  exact ⟨z.1,e⟩
theorem B1b(t:B2)(h:t.2.length<=maxLen):∃ b,Q8 t=some (b,()):=by
  obtain ⟨b,hb⟩:=E3H t h;simp only [Q8,B3p,U1,A3,hb];cases decide (0<=t.1/\t.1<=4096)<;>exact ⟨_,rfl⟩
def A7q(c:E9)(i:Nat):Bool:=
  decide ((rd B7 c.2.2.2.2.2.1 (i:Int)).1.tmod 2=1)&&decide (1<=(rd B7 c.2.2.2.2.2.1 (i:Int)).1/\(rd B7 c.2.2.2.2.2.1 (i:Int)).1<=c.2.2.2.2.2.2.1) &&
  (decide (i=0)||!decide ((rd B7 c.2.2.2.2.2.1 (i:Int)).1<=(rd B7 c.2.2.2.2.2.1 ((i:Int)-1)).1)) &&
  (decide ((rd B7 c.2.2.2.2.2.1 (i:Int)).2.1=1)||decide ((rd B7 c.2.2.2.2.2.1 (i:Int)).2.1=2))&&!decide ((List.length (rd B7 c.2.2.2.2.2.1 (i:Int)).2.2.2:Int)>2000)
theorem F08{L:Int×Unit->Option ((Int×Unit)⊕(Unit⊕(Bool×Unit)))}{n:Nat}{go:Nat->Bool}(hs:∀ i:Nat,i<n->L ((i:Int),())=bif go i then some (.inl (((i+1:Nat):Int),())) else some (.inr (.inr (false,()))))
    (he:L ((n:Int),())=some (.inr (.inl ()))) (g:Unit->Option (Bool×Unit)) (b:Bool) (hg:g ()=some (b,())):D7 (C3 L (0,())) g=some (decide (A1f go 0 n=n)&&b,()):=by
  have h:=E39 L (fun i=>((i:Int),())) n (fun i=>if i=n then .inl () else .inr (false,())) go (fun i hi=>by
    rw [hs i hi];cases go i with
    | true=>rfl
    | false=>simp only [Bool.false_eq_true,if_false,cond_false];rw [if_neg (by omega)]) (by rw [he,if_pos rfl])
  have h':C3 L (0,())=_:=h;rw [h'];by_cases hn:A1f go 0 n=n
  · rw [if_pos hn,A0 hn];simp [D7,hg]
  · rw [if_neg hn,A1 hn];simp [D7]
theorem E3I(c:E9)(h:c.2.2.2.2.2.1.length<=maxLen)(i:Nat)(hi:i<c.2.2.2.2.2.1.length):A9G E6 c ((i:Int),())=bif A7q c i then some (.inl (((i+1:Nat):Int),())) else some (.inr (.inr (false,()))):=by
  have h1:((i:Int)<(c.2.2.2.2.2.1.length:Int)):=by omega
  have h2:(0:Int)<=(i:Int):=by omega
  simp only [maxLen] at h;simp only [A9G,A0 h1,A0 h2,cond_true,U1,A3,A7q];rw [w64 (n:=(i:Int)+1) (by omega) (by omega),w64 (n:=(i:Int)-1) (by omega) (by omega)];have e1:((i+1:Nat):Int)=(i:Int)+1:=by omega
  rw [e1];have hge:decide ((rd B7 c.2.2.2.2.2.1 ((i:Int)-1)).1>=(rd B7 c.2.2.2.2.2.1 (i:Int)).1)=decide ((rd B7 c.2.2.2.2.2.1 (i:Int)).1<=(rd B7 c.2.2.2.2.2.1 ((i:Int)-1)).1):=rfl;rw [hge];by_cases hz:i=0
  · have g1:¬ (i:Int)>0:=by omega
    simp only [A1 g1,A0 hz,cond_false,Bool.true_or,Bool.and_true];generalize decide ((rd B7 c.2.2.2.2.2.1 (i:Int)).1.tmod 2=1)=x1;generalize decide (1<=(rd B7 c.2.2.2.2.2.1 (i:Int)).1/\(rd B7 c.2.2.2.2.2.1 (i:Int)).1<=c.2.2.2.2.2.2.1)=x2;generalize decide ((rd B7 c.2.2.2.2.2.1 (i:Int)).2.1=1)=x4;generalize decide ((rd B7 c.2.2.2.2.2.1 (i:Int)).2.1=2)=x5;generalize decide ((List.length (rd B7 c.2.2.2.2.2.1 (i:Int)).2.2.2:Int)>2000)=x6;cases x1<;>cases x2<;>cases x4<;>cases x5<;>cases x6<;>rfl
  · have g1:(i:Int)>0:=by omega
    have g2:(0:Int)<=(i:Int)-1:=by omega
    have g3:(i:Int)-1<(c.2.2.2.2.2.1.length:Int):=by omega
    simp only [A0 g1,A0 g2,A0 g3,A1 hz,cond_true,Bool.false_or];generalize decide ((rd B7 c.2.2.2.2.2.1 (i:Int)).1.tmod 2=1)=x1;generalize decide (1<=(rd B7 c.2.2.2.2.2.1 (i:Int)).1/\(rd B7 c.2.2.2.2.2.1 (i:Int)).1<=c.2.2.2.2.2.2.1)=x2;generalize decide ((rd B7 c.2.2.2.2.2.1 (i:Int)).1<=(rd B7 c.2.2.2.2.2.1 ((i:Int)-1)).1)=x3;generalize decide ((rd B7 c.2.2.2.2.2.1 (i:Int)).2.1=1)=x4;generalize decide ((rd B7 c.2.2.2.2.2.1 (i:Int)).2.1=2)=x5;generalize decide ((List.length (rd B7 c.2.2.2.2.2.1 (i:Int)).2.2.2:Int)>2000)=x6;cases x1<;>cases x2<;>cases x3<;>cases x4<;>cases x5<;>cases x6<;>rfl
theorem E3J(c:E9)(h:c.2.2.2.2.2.1.length<=maxLen)(i:Nat)(hi:i<c.2.2.2.2.2.1.length):B1O E4 c ((i:Int),())=bif A7q c i then some (.inl (((i+1:Nat):Int),())) else some (.inr (.inr (false,()))):=by
  have h1:((i:Int)<(c.2.2.2.2.2.1.length:Int)):=by omega
  have h2:(0:Int)<=(i:Int):=by omega
  simp only [maxLen] at h;simp only [B1O,A0 h1,A0 h2,cond_true,K1,A3,A7q];rw [w64 (n:=(i:Int)+1) (by omega) (by omega),w64 (n:=(i:Int)-1) (by omega) (by omega)];have e1:((i+1:Nat):Int)=(i:Int)+1:=by omega
  rw [e1];by_cases hz:i=0
  · have g1:¬ (i:Int)>0:=by omega
    simp only [A1 g1,A0 hz,cond_false,Bool.true_or,Bool.and_true];generalize decide ((rd B7 c.2.2.2.2.2.1 (i:Int)).1.tmod 2=1)=x1;generalize decide (1<=(rd B7 c.2.2.2.2.2.1 (i:Int)).1/\(rd B7 c.2.2.2.2.2.1 (i:Int)).1<=c.2.2.2.2.2.2.1)=x2;generalize decide ((rd B7 c.2.2.2.2.2.1 (i:Int)).2.1=1)=x4;generalize decide ((rd B7 c.2.2.2.2.2.1 (i:Int)).2.1=2)=x5;generalize decide ((List.length (rd B7 c.2.2.2.2.2.1 (i:Int)).2.2.2:Int)>2000)=x6;cases x1<;>cases x2<;>cases x4<;>cases x5<;>cases x6<;>rfl
  · have g1:(i:Int)>0:=by omega
    have g2:(0:Int)<=(i:Int)-1:=by omega
    have g3:(i:Int)-1<(c.2.2.2.2.2.1.length:Int):=by omega
    simp only [A0 g1,A0 g2,A0 g3,A1 hz,cond_true,Bool.false_or];generalize decide ((rd B7 c.2.2.2.2.2.1 (i:Int)).1.tmod 2=1)=x1;generalize decide (1<=(rd B7 c.2.2.2.2.2.1 (i:Int)).1/\(rd B7 c.2.2.2.2.2.1 (i:Int)).1<=c.2.2.2.2.2.2.1)=x2;generalize decide ((rd B7 c.2.2.2.2.2.1 (i:Int)).1<=(rd B7 c.2.2.2.2.2.1 ((i:Int)-1)).1)=x3;generalize decide ((rd B7 c.2.2.2.2.2.1 (i:Int)).2.1=1)=x4;generalize decide ((rd B7 c.2.2.2.2.2.1 (i:Int)).2.1=2)=x5;generalize decide ((List.length (rd B7 c.2.2.2.2.2.1 (i:Int)).2.2.2:Int)>2000)=x6;cases x1<;>cases x2<;>cases x3<;>cases x4<;>cases x5<;>cases x6<;>rfl
def B8m(c:E9):Bool:=decide (A1f (A7q c) 0 c.2.2.2.2.2.1.length=c.2.2.2.2.2.1.length)&&decide ((c.2.2.2.2.2.1.length:Int)<=100)
theorem D8m(c:E9)(h:c.2.2.2.2.2.1.length<=maxLen):B05 c=some (B8m c,()):=by
  simp only [B05,B9u];exact F08 (E3I c h) (by simp [A9G]) _ _ rfl
theorem D8n(c:E9)(h:c.2.2.2.2.2.1.length<=maxLen):B2e c=some (B8m c,()):=by
  simp only [B2e,C4E];exact F08 (E3J c h) (by simp [B1O]) _ _ rfl
theorem F09{x y:Nat}(hx:x<9223372036854775808)(hy:y<9223372036854775808):bOr .i64 (x:Int) (y:Int)=((x ||| y:Nat):Int):=by
  have h:x ||| y<2 ^ 63:=Nat.or_lt_two_pow (by omega) (by omega);unfold bOr;rw [BitVec.toNat_or,bits_nat (by simp only [IntKind.bits];omega),bits_nat (by simp only [IntKind.bits];omega)];exact E3E (by omega)
def I9(b:List Int)(at_:Nat):Nat->Nat
  | 0=>0
  | j+1=>(I9 b at_ j*256) ||| (b.getD (at_+j) 0).toNat
theorem D3P{b:List Int}(hb:Byt b)(i:Nat):0<=b.getD i 0/\b.getD i 0<256:=by
  by_cases h:i<b.length
  · simp only [List.getD,List.getElem?_eq_getElem h,Option.getD_some]
    exact hb _ (List.getElem_mem h)
  · simp only [List.getD,List.getElem?_eq_none (show b.length<=i by omega),Option.getD_none]
    omega
theorem C5l{b:List Int}(hb:Byt b)(at_:Nat):∀ j,I9 b at_ j<2 ^ (8*j)
  | 0=>by simp [I9]
  | j+1=>by
    have h1:=C5l hb at_ j;have h2:=D3P hb (at_+j);have e:2 ^ (8*(j+1))=2 ^ (8*j)*256:=by rw [show 8*(j+1)=8*j+8 by omega,Nat.pow_add]
    refine Nat.or_lt_two_pow ?_ ?_
    · rw [e];exact Nat.mul_lt_mul_of_pos_right h1 (by omega)
    · have:1<=2 ^ (8*j):=Nat.one_le_two_pow
      rw [e];omega
theorem E3K{b:List Int}(hb:Byt b)(at_ j:Nat)(hj:j<7)(x:Int)(hx:x=b.getD (at_+j) 0):bOr .i64 (i64.wrap (((I9 b at_ j:Nat):Int)*256)) (i64.wrap x)=((I9 b at_ (j+1):Nat):Int):=by
  have h1:=C5l hb at_ j;have h2:=D3P hb (at_+j);have h3:2 ^ (8*j)<=2 ^ 48:=Nat.pow_le_pow_right (by omega) (by omega);subst hx;rw [show ((I9 b at_ j:Nat):Int)*256=((I9 b at_ j*256:Nat):Int) by omega,E3E (by omega),show b.getD (at_+j) 0=(((b.getD (at_+j) 0).toNat:Nat):Int) by omega,E3E (by omega),F09 (by omega) (by omega)];simp only [I9,Int.toNat_natCast]
def A05(b:List Int)(a:Int)(k:Nat):Int×Bool×Unit:=if 0<=a/\a<=(b.length:Int)-k then ((I9 b a.toNat k:Int),true,()) else (0,false,())
theorem B7v(b:List Int)(hb:Byt b)(h:b.length<=2000000000)(a:Int)(k:Nat)(hk:1<=k/\k<=7):A44 b a (k:Int)=some (A05 b a k):=by
  simp only [A44,C4M,U1,A3,A05];rw [A0 (show (1:Int)<=(k:Int)/\(k:Int)<=7 by omega),w64 (by omega) (by omega)];simp only [Bool.not_true,cond_false];by_cases h1:a<0
  · rw [A0 h1,if_neg (by omega)];rfl
  rw [A1 h1];by_cases h2:a>(b.length:Int)-k
  · rw [A0 h2,if_neg (by omega)];rfl
  rw [A1 h2,if_pos (by omega)];simp only [cond_false,D7];have key:=F6 (A7d (k:Int) a b) (fun j=>((I9 b a.toNat j:Int),(j:Int),())) k ((I9 b a.toNat k:Int),()) (fun j hj=>?_) ?_
  · have e:C3 (A7d (k:Int) a b) (0,0,())=_:=key
    rw [e]
  · have g1:(j:Int)<(k:Int):=by omega
    simp only [A7d,A0 g1,cond_true];rw [w64 (n:=a+(j:Int)) (by omega) (by omega)];have g2:0<=a+(j:Int):=by omega
    have g3:a+(j:Int)<(b.length:Int):=by omega
    rw [A0 g2,A0 g3];simp only [cond_true];rw [E3K hb a.toNat j (by omega) _ (by
      rw [show a+(j:Int)=((a.toNat+j:Nat):Int) by omega,C0B (by omega)];simp [List.getD,show a.toNat+j<b.length by omega]),show (j:Int)+1=((j+1:Nat):Int) by omega,E3E (by omega)]
  · simp [A7d]
theorem B7w(b:List Int)(hb:Byt b)(h:b.length<=2000000000)(a:Int)(k:Nat)(hk:1<=k/\k<=7):A3u b a (k:Int)=some (A05 b a k):=by
  simp only [A3u,C4D,K1,A3,A05];rw [A0 (show (1:Int)<=(k:Int)/\(k:Int)<=7 by omega),w64 (n:=(b.length:Int)-(k:Int)) (by omega) (by omega)];simp only [Bool.not_true,cond_false];by_cases h1:a<0
  · rw [A0 h1,if_neg (by omega)];rfl
  rw [A1 h1];by_cases h2:a>(b.length:Int)-k
  · rw [A0 h2,if_neg (by omega)];rfl
  rw [A1 h2,if_pos (by omega)];simp only [cond_false,D7];rw [w64 (n:=a+(k:Int)) (by omega) (by omega),A0 (show 0<=a by omega),A0 (show a<=a+(k:Int) by omega),A0 (show a+(k:Int)<=(b.length:Int) by omega)];simp only [cond_true];have hlen:((b.take (a+(k:Int)).toNat).drop a.toNat).length=k:=by simp;omega
  have key:=F6 (A7I b a (k:Int)) (fun j=>((I9 b a.toNat j:Int),(j:Int),())) k ((I9 b a.toNat k:Int),()) (fun j hj=>?_) ?_
  · have e:C3 (A7I b a (k:Int)) (0,0,())=_:=key
    rw [e]
  · have g1:(j:Int)<(k:Int):=by omega
    have g2:(0:Int)<=(j:Int):=by omega
    simp only [A7I];rw [w64 (n:=a+(k:Int)) (by omega) (by omega)];simp only [hlen,A0 g1,A0 g2,cond_true];rw [E3K hb a.toNat j (by omega) _ (by
      rw [C0B (by rw [hlen];exact hj)];simp [List.getD,show a.toNat+j<b.length by omega]),show (j:Int)+1=((j+1:Nat):Int) by omega,E3E (by omega)]
  · simp only [A7I]
    rw [w64 (n:=a+(k:Int)) (by omega) (by omega)];simp [hlen]
def A1I(b:List Int)(a:Int):C1×Int×Int×Unit:=
  if 0<=a/\a<=(b.length:Int)-9 then
    (if (I9 b a.toNat 3:Int)>1000 then ((0,0,0,[]),a,2,())
      else if (I9 b a.toNat 3:Int)>(b.length:Int)-a-9 then ((0,0,0,[]),a,1,())
      else ((rd (.int .u8) b (a+3),rd (.int .u8) b (a+4),N8 .i64 (I9 b (a+5).toNat 4:Int) 2147483647,(b.take (a+9+(I9 b a.toNat 3:Int)).toNat).drop (a+9).toNat),a+9+(I9 b a.toNat 3:Int),0,()))
  else ((0,0,0,[]),a,1,())
theorem D29{b:List Int}(hb:Byt b){i:Int}(h0:0<=i)(h1:i<(b.length:Int)):i64.wrap (rd (.int .u8) b i)=rd (.int .u8) b i:=by
  obtain ⟨n,rfl⟩:∃ n:Nat,i=(n:Int):=⟨i.toNat,by omega⟩;rw [C0B (by omega)];have:=hb b[n] (List.getElem_mem (by omega));exact w64 (by omega) (by omega)
theorem C0C(b:List Int)(hb:Byt b)(h:b.length<=2000000000)(a:Int)(ha:-9223372036854775808<=a/\a<9223372036854775808):A1C b a=some (A1I b a):=by
  simp only [A1C,B7h];rw [show (3:Int)=((3:Nat):Int) from rfl,B7v b hb h a 3 (by omega),show (4:Int)=((4:Nat):Int) from rfl,B7v b hb h _ 4 (by omega)];simp only [A3,A1I];by_cases hin:0<=a/\a<=(b.length:Int)-9
  · have hn:=C5l hb a.toNat 3
    rw [if_pos hin];have e3:A05 b a 3=((I9 b a.toNat 3:Int),true,()):=by unfold A05;rw [if_pos (by omega)]
    have e5:i64.wrap (a+5)=a+5:=w64 (by omega) (by omega);have e4:A05 b (a+5) 4=((I9 b (a+5).toNat 4:Int),true,()):=by unfold A05;rw [if_pos (by omega)]
    simp only [e5,e3,e4,Bool.not_true,cond_false];by_cases h1:(I9 b a.toNat 3:Int)>1000
    · rw [A0 h1,if_pos h1];rfl
    rw [A1 h1,if_neg h1];have e9:i64.wrap (i64.wrap ((b.length:Int)-a)-9)=(b.length:Int)-a-9:=by rw [w64 (n:=(b.length:Int)-a) (by omega) (by omega)];exact w64 (by omega) (by omega)
    rw [e9];by_cases h2:(I9 b a.toNat 3:Int)>(b.length:Int)-a-9
    · rw [A0 h2,if_pos h2];rfl
    rw [A1 h2,if_neg h2];simp only [cond_false,D7];have w3:i64.wrap (a+((3:Nat):Int))=a+3:=w64 (by omega) (by omega);have w4:i64.wrap (a+((4:Nat):Int))=a+4:=w64 (by omega) (by omega);have w9:i64.wrap (a+9)=a+9:=w64 (by omega) (by omega);have wn:i64.wrap (a+9+(I9 b a.toNat 3:Int))=a+9+(I9 b a.toNat 3:Int):=w64 (by omega) (by omega);simp only [w3,w4,w9,wn];rw [A0 (show 0<=a+3 by omega),A0 (show a+3<(b.length:Int) by omega),A0 (show 0<=a+4 by omega),A0 (show a+4<(b.length:Int) by omega),A0 (show 0<=a+9 by omega),A0 (show a+9<=a+9+(I9 b a.toNat 3:Int) by omega),A0 (show a+9+(I9 b a.toNat 3:Int)<=(b.length:Int) by omega),A0 (by simp;omega),A0 (by simp;omega)];simp only [cond_true,List.nil_append];rw [D29 hb (show 0<=a+3 by omega) (by omega),D29 hb (show 0<=a+4 by omega) (by omega)]
  · rw [if_neg hin]
    by_cases h3:0<=a/\a<=(b.length:Int)-3
    · have e5:i64.wrap (a+5)=a+5:=w64 (by omega) (by omega)
      have e4:A05 b (a+5) 4=(0,false,()):=by unfold A05;rw [if_neg (by omega)]
      simp only [e5,e4];cases (A05 b a 3).2.1<;>rfl
    · have e3:A05 b a 3=(0,false,()):=by unfold A05;rw [if_neg (by omega)]
      simp only [e3];rfl
theorem B30(b:List Int)(hb:Byt b)(h:b.length<=2000000000)(a:Int)(ha:-9223372036854775808<=a/\a<9223372036854775808):A0H b a=some (A1I b a):=by
  simp only [A0H,B7I];rw [w64 (n:=(b.length:Int)-9) (by omega) (by omega)];simp only [A1I];by_cases h1:a<0
  · rw [A0 h1,if_neg (by omega)];rfl
  rw [A1 h1];by_cases h2:a>(b.length:Int)-9
  · rw [A0 h2,if_neg (by omega)];rfl
  rw [A1 h2,if_pos (by omega)];have hn:=C5l hb a.toNat 3;simp only [cond_false,D7];rw [show (3:Int)=((3:Nat):Int) from rfl,B7w b hb h a 3 (by omega),show (4:Int)=((4:Nat):Int) from rfl,B7w b hb h _ 4 (by omega)];have e3:A05 b a 3=((I9 b a.toNat 3:Int),true,()):=by unfold A05;rw [if_pos (by omega)]
  have e5:i64.wrap (a+5)=a+5:=w64 (by omega) (by omega);have e4:A05 b (a+5) 4=((I9 b (a+5).toNat 4:Int),true,()):=by unfold A05;rw [if_pos (by omega)]
  have w9:i64.wrap (a+9)=a+9:=w64 (by omega) (by omega);simp only [A3,e5,e3,e4,w9];by_cases h3:(I9 b a.toNat 3:Int)>1000
  · rw [A0 h3,if_pos h3];rfl
  rw [A1 h3,if_neg h3,w64 (n:=(b.length:Int)-(a+9)) (by omega) (by omega)];by_cases h4:(I9 b a.toNat 3:Int)>(b.length:Int)-a-9
  · rw [A0 (show (I9 b a.toNat 3:Int)>(b.length:Int)-(a+9) by omega),if_pos h4];rfl
  rw [A1 (show ¬ (I9 b a.toNat 3:Int)>(b.length:Int)-(a+9) by omega),if_neg h4];simp only [cond_false];have w3:i64.wrap (a+((3:Nat):Int))=a+3:=w64 (by omega) (by omega);have w4:i64.wrap (a+((4:Nat):Int))=a+4:=w64 (by omega) (by omega);have wn:i64.wrap (a+9+(I9 b a.toNat 3:Int))=a+9+(I9 b a.toNat 3:Int):=w64 (by omega) (by omega);simp only [w3,w4,wn];rw [A0 (show 0<=a+3 by omega),A0 (show a+3<(b.length:Int) by omega),A0 (show 0<=a+4 by omega),A0 (show a+4<(b.length:Int) by omega),A0 (show 0<=a+9 by omega),A0 (show a+9<=a+9+(I9 b a.toNat 3:Int) by omega),A0 (show a+9+(I9 b a.toNat 3:Int)<=(b.length:Int) by omega)];simp only [cond_true];rw [D6h _ (by simp;omega),D29 hb (show 0<=a+3 by omega) (by omega),D29 hb (show 0<=a+4 by omega) (by omega)];rfl
theorem E3L(b:List Int)(hb:Byt b)(h:b.length<=1048576)(a:Int)(k:Nat)(hk:1<=k/\k<=7):A44 b a (k:Int)=some (A05 b a k):=B7v b hb (by omega) a k hk
theorem C2P(b:List Int)(hb:Byt b)(h:b.length<=1048576)(a:Int)(ha:-9223372036854775808<=a/\a<9223372036854775808):A1C b a=some (A1I b a):=C0C b hb (by omega) a ha
theorem E3M(b:List Int)(hb:Byt b)(h:b.length<=1048576)(a:Int)(k:Nat)(hk:1<=k/\k<=7):A3u b a (k:Int)=some (A05 b a k):=B7w b hb (by omega) a k hk
theorem D6j(b:List Int)(hb:Byt b)(h:b.length<=1048576)(a:Int)(ha:-9223372036854775808<=a/\a<9223372036854775808):A0H b a=some (A1I b a):=B30 b hb (by omega) a ha
theorem A8p(xs:List Int):(strOf xs).size=xs.length:=strOfNums_size xs
theorem F4a(a b:X0):(a++b).size=a.size+b.size:=ByteArray.size_append
theorem E3N(k:Int)(h:k<4611686018427387904):∃ s,F2 k=some (s,()):=by
  simp only [F2,B7E];by_cases h0:k<=0
  · rw [A0 h0];exact ⟨_,rfl⟩
  rw [A1 h0];obtain ⟨z,e,hz⟩:=C8U B2V (fun l=>l.1.toNat) (fun l=>0<=l.1/\(l.2.1.size:Int)+l.1<=k) (fun z=>(z.1.size:Int)<=k) (fun l hl=>by
    obtain ⟨n,out,u⟩:=l;simp only at hl ⊢;simp only [B2V];by_cases hp:n>0
    · refine .inl ⟨(n.tdiv 10,strOf [u8.wrap (i64.wrap (48+n.tmod 10))]++out,()),?_,?_,?_⟩
      · rw [A0 hp]
        simp only [cond_true];rw [A1 (by rw [A8p];simp [IntKind.max,IntKind.signed,IntKind.bits];omega)];simp only [cond_false];rw [w64 (n:=n.tdiv 10) (by rw [Int.tdiv_eq_ediv_of_nonneg (by omega)];omega) (by rw [Int.tdiv_eq_ediv_of_nonneg (by omega)];omega)]
      · simp only
        rw [F4a,A8p,Int.tdiv_eq_ediv_of_nonneg (by omega)];simp only [List.length_singleton];omega
      · simp only
        rw [Int.tdiv_eq_ediv_of_nonneg (by omega)];omega
    · rw [A1 hp]
      exact .inr ⟨_,rfl,by simp only;omega⟩) (k,⟨#[]⟩,()) (by
      constructor
      · simp only;omega
      · show ((0:Nat):Int)+k<=k
        omega)
  rw [e];simp only [A3,cond_false];have h1:(⟨#[109]⟩:X0).size=1:=rfl;rw [A1 (by rw [h1];simp [IntKind.max,IntKind.signed,IntKind.bits];omega)];exact ⟨_,rfl⟩
noncomputable def mt(k:Int):X0:=match F2 k with
  | some (s,_)=>s
  | none=>⟨#[]⟩
theorem A6e(k:Int)(h:k<4611686018427387904):F2 k=some (mt k,()):=by
  obtain ⟨s,hs⟩:=E3N k h;unfold mt;rw [hs]
theorem E0T{a b:List Int}(ha:Byt a)(hb:Byt b):Byt (a++b):=fun x hx=>(List.mem_append.1 hx).elim (ha x) (hb x)
theorem C0D{a:List Int}(h:Byt a)(i:Nat):Byt (a.drop i):=fun x hx=>h x (List.mem_of_mem_drop hx)
theorem B46(go:Nat->Bool):∀ k i j,i<=j->j<A1f go i k->go j=true
  | 0,i,j,h1,h2=>by simp only [A1f] at h2;omega
  | k+1,i,j,h1,h2=>by
    simp only [A1f] at h2;split at h2
    · rename_i hg
      by_cases e:j=i
      · rw [e];exact hg
      · exact B46 go k (i+1) j (by omega) h2
    · omega
theorem C9n(go:Nat->Bool)(n p:Nat)(hp:p<=n)(h1:∀ j,j<p->go j=true)(h2:p<n->go p=false):A1f go 0 n=p:=by
  have hl:=D8l go n 0;rcases Nat.lt_trichotomy (A1f go 0 n) p with h | h | h
  · have:=C5j go n 0 (by omega)
    rw [h1 _ h] at this;cases this
  · exact h
  · have:=B46 go n 0 p (by omega) h
    rw [h2 (by omega)] at this;cases this
theorem F4b{k:K}{b:List k.T}{i:Nat}(h:i<b.length)(u:k.T):rd k (b.set i u) (i:Int)=u:=by
  rw [T8 (xs:=b.set i u) (by simpa using h)];simp
def MH{T:Type}(mark:Int->Option (Int×T×Unit))(held:T->Int->Option (Int×Unit))(n:Nat):Prop:=
  ∀ m:Int,0<=m->m+n<4611686018427387904->∃ m' y,mark m=some (m',y,())/\m<=m'/\m'<=m+n/\held y m=some (m',())
def cost{T:Type}(c:T->Nat)(a:List T):Nat:=(a.map c).sum
theorem F1R{T:Type}(c:T->Nat){a:List T}{i:Nat}(h:i<a.length):cost c (a.drop i)=c a[i]+cost c (a.drop (i+1)):=by
  rw [List.drop_eq_getElem_cons h];simp only [cost,List.map_cons,List.sum_cons]
theorem F0A{T:Type}(Lm:Int×Int×List T×Unit->Option ((Int×Int×List T×Unit)⊕(Int×List T×Unit)))(Lh:List T->Int×Int×Unit->Option ((Int×Int×Unit)⊕(Int×Unit)))(c:T->Nat)(a:List T)(hn:a.length<=1048576)
    (hs:∀ (i:Nat) (hi:i<a.length) (m:Int),0<=m->m+c a[i]<4611686018427387904->∃ m' u,m<=m'/\m'<=m+c a[i]/\(∀ (b:List T) (hb:b.length=a.length),b[i]'(by omega)=a[i]->Lm (m,(i:Int),b,())=some (.inl (m',(i:Int)+1,b.set i u,())))/\
      ∀ (b:List T) (hb:b.length=a.length),b[i]'(by omega)=u->Lh b (m,(i:Int),())=some (.inl (m',(i:Int)+1,())))
    (he:∀ m (b:List T),b.length=a.length->Lm (m,(a.length:Int),b,())=some (.inr (m,b,()))) (hf:∀ m (b:List T),b.length=a.length->Lh b (m,(a.length:Int),())=some (.inr (m,()))) :
    MH (fun m=>C3 Lm (m,0,a,())) (fun y m=>C3 (Lh y) (m,0,())) (cost c a):=by
  have key:∀ k i,i+k=a.length->∀ m:Int,0<=m->m+cost c (a.drop i)<4611686018427387904->∃ m' us,us.length=k/\m<=m'/\m'<=m+cost c (a.drop i)/\
      (∀ pre:List T,pre.length=i->C3 Lm (m,(i:Int),pre++a.drop i,())=some (m',pre++us,()))/\∀ pre:List T,pre.length=i->C3 (Lh (pre++us)) (m,(i:Int),())=some (m',()):=by
    intro k
    induction k with
    | zero=>
      intro i hi m h0 h1;obtain rfl:i=a.length:=by omega
      refine ⟨m,[],rfl,Int.le_refl _,by omega,fun pre hp=>?_,fun pre hp=>?_⟩
      · rw [C8,he _ _ (by simp [hp])]
        simp
      · rw [C8,hf _ _ (by simp [hp])]
    | succ k ih=>
      intro i hi m h0 h1;have hlt:i<a.length:=by omega
      rw [F1R c hlt] at h1 ⊢;obtain ⟨m1,u,g1,g2,g3,g4⟩:=hs i hlt m h0 (by omega);obtain ⟨m',us,h2,h3,h4,h5,h6⟩:=ih (i+1) (by omega) m1 (by omega) (by omega);have e1:(i:Int)+1=((i+1:Nat):Int):=by omega
      rw [e1] at g3 g4;refine ⟨m',u::us,by simp [h2],by omega,by omega,fun pre hp=>?_,fun pre hp=>?_⟩
      · have hl:(pre++a.drop i).length=a.length:=by simp [hp];omega
        have hg:(pre++a.drop i)[i]'(by omega)=a[i]:=by
          rw [List.getElem_append_right (by omega)];simp [hp]
        rw [C8,g3 _ hl hg];have hset:(pre++a.drop i).set i u=(pre ++ [u])++a.drop (i+1):=by
          rw [List.set_append_right _ _ (by omega),hp,Nat.sub_self,List.drop_eq_getElem_cons hlt,List.set_cons_zero];simp
        rw [hset];have:=h5 (pre ++ [u]) (by simp [hp]);simp only [List.append_assoc,List.singleton_append] at this;simpa using this
      · have hl:(pre++u::us).length=a.length:=by simp [hp,h2];omega
        have hg:(pre++u::us)[i]'(by omega)=u:=by
          rw [List.getElem_append_right (by omega)];simp [hp]
        rw [C8,g4 _ hl hg];have:=h6 (pre ++ [u]) (by simp [hp]);simp only [List.append_assoc,List.singleton_append] at this;exact this
  intro m h0 h1;obtain ⟨m',us,h2,h3,h4,h5,h6⟩:=key a.length 0 (by omega) m h0 (by simpa using h1);exact ⟨m',us,by simpa using h5 [] rfl,h3,by simpa using h4,by simpa using h6 [] rfl⟩
theorem B5s(a:List Int):MH (H3 a) H4 a.length:=fun m h0 h1=>⟨_,_,E0Q a m h0 (by omega),by omega,Int.le_refl _,E0R a.length m h0 (by omega)⟩
theorem F1S{a b:List Int}(ha:Byt a)(hb:Byt b)(h:(strOf a).toList=(strOf b).toList):a=b:=by
  rw [ByteArray.toList_eq,ByteArray.toList_eq] at h;have h2:(a.map fun n=>UInt8.ofNat n.toNat)=b.map fun n=>UInt8.ofNat n.toNat:=h
  have hl:a.length=b.length:=by simpa using congrArg List.length h2
  refine List.ext_getElem hl fun i h1 h3=>?_
  have h4:=congrArg (fun l=>l[i]?) h2;simp only [List.getElem?_map,List.getElem?_eq_getElem h1,List.getElem?_eq_getElem h3,Option.map_some,Option.some.injEq] at h4;exact F7t (ha _ (List.getElem_mem h1)) (hb _ (List.getElem_mem h3)) h4
theorem C5m{a b:X0}(h:a.toList=b.toList):a=b:=by
  rw [ByteArray.toList_eq,ByteArray.toList_eq] at h;obtain ⟨⟨a⟩⟩:=a;obtain ⟨⟨b⟩⟩:=b;have h:a=b:=h;rw [h]
theorem C2Q{xs:List Int}(h:Byt xs):bytesOf (strOf xs)=xs:=by
  show ((strOfNums xs).data.toList.map fun b=>(b.toNat:Int))=xs;rw [strOfNums_data,List.map_map];refine (List.map_congr_left fun x hx=>?_).trans (List.map_id _);have:=h x hx;simp only [Function.comp,id];have e:(UInt8.ofNat x.toNat).toNat=x.toNat % 256:=UInt8.toNat_ofNat;rw [e];omega
theorem C2R(s:X0):strOf (bytesOf s)=s:=by
  refine C5m ?_;rw [ByteArray.toList_eq,ByteArray.toList_eq];show ((bytesOf s).map fun n=>UInt8.ofNat n.toNat)=s.data.toList;rw [bytesOf,List.map_map];refine (List.map_congr_left fun x hx=>?_).trans (List.map_id _);simp
theorem F1T(c:E9)(h:Sm 1048576 B5i c)(hb:Byt c.2.1):∃ r,A2U c=some (r,())/\A3v c=some (r,()):=by
  have hin:List.length c.2.1<=1048576:=(Sm.l (Sm.r h)).1;have hst:List.length c.2.2.2.2.2.1<=1048576:=(Sm.l (Sm.r (Sm.r (Sm.r (Sm.r (Sm.r h)))))).1;have hd:List.length c.2.2.2.1.2<=1048576:=(Sm.r (Sm.l (Sm.r (Sm.r (Sm.r h))))).1;have he:List.length c.2.2.2.2.1.2<=1048576:=(Sm.r (Sm.l (Sm.r (Sm.r (Sm.r (Sm.r h)))))).1;obtain ⟨g,hg⟩:=C2O c.2.2.1;obtain ⟨t1,ht1⟩:=B1b c.2.2.2.1 (by simp only [maxLen];omega);obtain ⟨t2,ht2⟩:=B1b c.2.2.2.2.1 (by simp only [maxLen];omega);simp only [A2U,B7j,A3v,B7M,E3G,E6q,hg,ht1,ht2,U1,K1];rw [D8m c (by simp only [maxLen];omega),D8n c (by simp only [maxLen];omega),C2P _ hb hin 0 (by omega),D6j _ hb hin 0 (by omega)];have hz:decide (c.2.2.2.2.2.2.2>0)=(!decide (c.2.2.2.2.2.2.2=0)&&decide (0<=c.2.2.2.2.2.2.2)):=by
    by_cases h1:c.2.2.2.2.2.2.2=0
    · rw [A1 (by omega),A0 h1];rfl
    · by_cases h2:0<=c.2.2.2.2.2.2.2
      · rw [A0 (by omega),A1 h1,A0 h2];rfl
      · rw [A1 (by omega),A1 h1,A1 h2];rfl
  have hr:decide (0<=c.2.2.2.2.2.2.2/\c.2.2.2.2.2.2.2<=20)=true->decide (0<=c.2.2.2.2.2.2.2)=true:=by
    intro q;exact A0 (of_decide_eq_true q).1
  have hl0:decide ((List.length c.2.1:Int)=0)=!decide ((List.length c.2.1:Int)>0):=by
    by_cases h1:(List.length c.2.1:Int)>0
    · rw [A0 h1,A1 (by omega)];rfl
    · rw [A1 h1,A0 (by omega)];rfl
  have hs0:decide ((List.length c.2.2.2.2.2.1:Int)=0)=!decide ((List.length c.2.2.2.2.2.1:Int)>0):=by
    by_cases h1:(List.length c.2.2.2.2.2.1:Int)>0
    · rw [A0 h1,A1 (by omega)];rfl
    · rw [A1 h1,A0 (by omega)];rfl
  rw [hz,hl0,hs0];simp only [A3];revert hr;generalize decide (0<=c.1/\c.1<=24)=b1;generalize decide (0<=c.2.2.2.2.2.2.1/\c.2.2.2.2.2.2.1<=2147483647)=b2;generalize decide (0<=c.2.2.2.2.2.2.2/\c.2.2.2.2.2.2.2<=20)=b3;generalize decide (0<=c.2.2.2.2.2.2.2)=b4;generalize B8m c=b5;generalize decide ((List.length c.2.1:Int)>1100)=b6;generalize decide ((A1I c.2.1 0).2.2.1=1)=b7;generalize decide (c.1<24)=b8;generalize decide ((List.length c.2.1:Int)>0)=b9;generalize decide (c.2.2.2.2.2.2.2=0)=b10;generalize decide ((List.length c.2.2.2.2.2.1:Int)>0)=b11;generalize decide (c.2.2.1.1=0)=b12;intro hr;cases b1
  · exact ⟨_,rfl,rfl⟩
  cases g
  · exact ⟨_,rfl,rfl⟩
  cases t1
  · exact ⟨_,rfl,rfl⟩
  cases t2
  · exact ⟨_,rfl,rfl⟩
  cases b2
  · cases b5<;>exact ⟨_,rfl,rfl⟩
  cases b5
  · exact ⟨_,rfl,rfl⟩
  cases b6
  · cases b3
    · exact ⟨_,rfl,rfl⟩
    · rw [hr rfl]
      cases b7<;>cases b8<;>cases b9<;>cases b10<;>cases b11<;>cases b12<;>exact ⟨_,rfl,rfl⟩
  · cases b3<;>exact ⟨_,rfl,rfl⟩
set_option maxRecDepth 100000
def lensT:List Int:= [13,23,28,28,28,28,28,28,28,24,30,28,28,30,28,28,28,28,28,28,28,28,30,28,28,28,28,28,28,28,28,28,6,10,10,12,13,6,8,11,10,10,8,11,8,6,6,6,5,5,5,6,6,6,6,6,6,6,7,8,15,6,12,10,13,6,7,7,7,7,7,7,7,7,7,7,7,7,7,7,7,7,7,7,7,7,7,7,8,7,8,13,19,13,14,6,15,5,6,5,6,5,6,6,6,5,7,7,6,6,6,5,6,7,6,5,5,6,7,7,7,7,7,15,11,14,13,28,20,22,20,20,22,22,22,23,22,23,23,23,23,23,24,23,24,24,22,23,24,23,23,23,23,21,22,23,22,23,23,24,22,21,20,22,22,23,23,21,23,22,22,24,21,22,23,23,21,21,22,21,23,22,23,23,20,22,22,22,23,22,22,23,26,26,20,19,22,23,22,25,26,26,26,27,27,26,24,25,19,21,26,27,27,26,27,24,21,21,26,26,28,27,27,27,20,24,20,21,22,21,21,23,22,22,25,25,24,24,26,23,26,27,26,26,27,27,27,27,27,28,27,27,27,27,27,26,30]
theorem C9o:A6I=some (lensT,()):=rfl
theorem A13:lensT.length=257:=by kernel_rfl
theorem D8o:(lensT.all fun x=>decide (5<=x)&&decide (x<=30))=true:=by kernel_rfl
theorem u64_nonneg(x:Int):¬ (u64.wrap x<0):=by
  simp only [IntKind.wrap,IntKind.bits,IntKind.signed,Bool.false_and];simp;omega
def cst(n:Int)(st:Int×Int×List Int)(sym:Nat):Int×Int×List Int:=
  if (lensT.getD sym 0)=n then
    (let code:=if st.2.1>0 then i64.wrap ((i64.wrap (st.1+1))*2 ^ (min (u64.wrap (i64.wrap (n-st.2.1))).toNat i64.bits)) else st.1
     (code,n,st.2.2.set sym code)) else st
def C4c(n:Int)(st:Int×Int×List Int):Nat->Int×Int×List Int
  | 0=>st
  | k+1=>cst n (C4c n st k) k
def lvl(st:Int×Int×List Int):Nat->Int×Int×List Int
  | 0=>st
  | k+1=>C4c ((k:Int)+1) (lvl st k) 257
def codesT:List Int:=(lvl (0,0,List.replicate 257 0) 30).2.2
theorem F6j(n:Int)(st:Int×Int×List Int)(sym:Nat):(cst n st sym).2.2.length=st.2.2.length:=by
  unfold cst;split<;>simp
theorem D3Q(n:Int)(st:Int×Int×List Int):∀ k,(C4c n st k).2.2.length=st.2.2.length
  | 0=>rfl
  | k+1=>by rw [C4c,F6j,D3Q n st k]
theorem E0U(st:Int×Int×List Int):∀ k,(lvl st k).2.2.length=st.2.2.length
  | 0=>rfl
  | k+1=>by rw [lvl,D3Q,E0U st k]
theorem F6k{xs:List Int}{i:Nat}:rd (.int .i64) xs (i:Int)=xs.getD i 0:=by
  simp [rd,zd]
theorem E6r(c l s n:Int)(o:List Int)(ho:o.length=257)(hn:n<1000)(hn0:0<=n)(a b d:Int)(e:List Int) :
    C3 (A5S (lensT,()) (a,b,n,e,())) (c,l,0,o,())=some (.inl ((C4c n (c,l,o) 257).1,(C4c n (c,l,o) 257).2.1,n+1,(C4c n (c,l,o) 257).2.2,())):=by
  have hl:∀ k,(C4c n (c,l,o) k).2.2.length=257:=fun k=>by rw [D3Q];exact ho
  refine F6 (A5S (lensT,()) (a,b,n,e,())) (fun k=>((C4c n (c,l,o) k).1,(C4c n (c,l,o) k).2.1,(k:Int),(C4c n (c,l,o) k).2.2,())) 257 _ (fun k hk=>?_) ?_
  · have h1:(k:Int)<=256:=by omega
    have h2:(0:Int)<=(k:Int):=by omega
    have h3:(k:Int)<(lensT.length:Int):=by rw [A13];omega
    have h4:(k:Int)<((C4c n (c,l,o) k).2.2.length:Int):=by rw [hl];omega
    have h5:i64.wrap ((k:Int)+1)=((k+1:Nat):Int):=by rw [w64 (by omega) (by omega)];omega
    simp only [A5S,A0 h1,A0 h2,A0 h3,A0 h4,cond_true,F6k,h5,A1 (u64_nonneg _),cond_false,Int.toNat_natCast,A3];have e1:C4c n (c,l,o) (k+1)=cst n (C4c n (c,l,o) k) k:=rfl;rw [e1];unfold cst;by_cases hq:lensT.getD k 0=n
    · simp only [hq,decide_true,Bool.not_true,cond_false,if_true]
      by_cases hg:(C4c n (c,l,o) k).2.1>0
      · simp only [A0 hg,cond_true,if_pos hg]
      · simp only [A1 hg,cond_false,if_neg hg]
    · simp only [A1 hq,Bool.not_false,cond_true,if_neg hq]
  · have h1:¬ ((257:Nat):Int)<=256:=by omega
    simp only [A5S,A1 h1,cond_false];rw [w64 (by omega) (by omega)]
theorem E0V:A6c=some (codesT,()):=by
  simp only [A6c,C05,C9o,A3];have hl:∀ k,(lvl (0,0,List.replicate 257 0) k).2.2.length=257:=fun k=>by rw [E0U];simp
  refine F6 (A9K (lensT,())) (fun k=>((lvl (0,0,List.replicate 257 0) k).1,(lvl (0,0,List.replicate 257 0) k).2.1,((k:Int)+1),(lvl (0,0,List.replicate 257 0) k).2.2,())) 30 _ (fun k hk=>?_) ?_
  · have h1:(k:Int)+1<=30:=by omega
    simp only [A9K,A0 h1,cond_true];rw [E6r _ _ 0 _ _ (hl k) (by omega) (by omega) _ _ 0 _];simp only [lvl]
    congr 4
  · have h1:¬ ((30:Nat):Int)+1<=30:=by omega
    simp only [A9K,A1 h1,cond_false];rfl
theorem A6J:codesT.length=257:=by unfold codesT;rw [E0U];simp
set_option maxRecDepth 100000
def lensS:X0:=⟨#[49,51,32,50,51,32,50,56,32,50,56,32,50,56,32,50,56,32,50,56,32,50,56,32,50,56,32,50,52,32,51,48,32,50,56,32,50,56,32,51,48,32,50,56,32,50,56,32,50,56,32,50,56,32,50,56,32,50,56,32,50,56,32,50,56,32,51,48,32,50,56,32,50,56,32,50,56,32,50,56,32,50,56,32,50,56,32,50,56,32,50,56,32,50,56,32,54,32,49,48,32,49,48,32,49,50,32,49,51,32,54,32,56,32,49,49,32,49,48,32,49,48,32,56,32,49,49,32,56,32,54,32,54,32,54,32,53,32,53,32,53,32,54,32,54,32,54,32,54,32,54,32,54,32,54,32,55,32,56,32,49,53,32,54,32,49,50,32,49,48,32,49,51,32,54,32,55,32,55,32,55,32,55,32,55,32,55,32,55,32,55,32,55,32,55,32,55,32,55,32,55,32,55,32,55,32,55,32,55,32,55,32,55,32,55,32,55,32,55,32,56,32,55,32,56,32,49,51,32,49,57,32,49,51,32,49,52,32,54,32,49,53,32,53,32,54,32,53,32,54,32,53,32,54,32,54,32,54,32,53,32,55,32,55,32,54,32,54,32,54,32,53,32,54,32,55,32,54,32,53,32,53,32,54,32,55,32,55,32,55,32,55,32,55,32,49,53,32,49,49,32,49,52,32,49,51,32,50,56,32,50,48,32,50,50,32,50,48,32,50,48,32,50,50,32,50,50,32,50,50,32,50,51,32,50,50,32,50,51,32,50,51,32,50,51,32,50,51,32,50,51,32,50,52,32,50,51,32,50,52,32,50,52,32,50,50,32,50,51,32,50,52,32,50,51,32,50,51,32,50,51,32,50,51,32,50,49,32,50,50,32,50,51,32,50,50,32,50,51,32,50,51,32,50,52,32,50,50,32,50,49,32,50,48,32,50,50,32,50,50,32,50,51,32,50,51,32,50,49,32,50,51,32,50,50,32,50,50,32,50,52,32,50,49,32,50,50,32,50,51,32,50,51,32,50,49,32,50,49,32,50,50,32,50,49,32,50,51,32,50,50,32,50,51,32,50,51,32,50,48,32,50,50,32,50,50,32,50,50,32,50,51,32,50,50,32,50,50,32,50,51,32,50,54,32,50,54,32,50,48,32,49,57,32,50,50,32,50,51,32,50,50,32,50,53,32,50,54,32,50,54,32,50,54,32,50,55,32,50,55,32,50,54,32,50,52,32,50,53,32,49,57,32,50,49,32,50,54,32,50,55,32,50,55,32,50,54,32,50,55,32,50,52,32,50,49,32,50,49,32,50,54,32,50,54,32,50,56,32,50,55,32,50,55,32,50,55,32,50,48,32,50,52,32,50,48,32,50,49,32,50,50,32,50,49,32,50,49,32,50,51,32,50,50,32,50,50,32,50,53,32,50,53,32,50,52,32,50,52,32,50,54,32,50,51,32,50,54,32,50,55,32,50,54,32,50,54,32,50,55,32,50,55,32,50,55,32,50,55,32,50,55,32,50,56,32,50,55,32,50,55,32,50,55,32,50,55,32,50,55,32,50,54,32,51,48]⟩
def lensP:List (List UInt8):=Lib.splitK [32] 0 (Lib.count lensS.data.toList [32]) lensS.data.toList
theorem F4c:(lensP.map Lib.atoi)=lensT.map some:=by kernel_rfl
theorem F4d:(lensP.all fun x=>Nat.ble x.length 18)=true:=by kernel_rfl
theorem E3O:(Lib.splitB ⟨#[32]⟩ 0 (Lib.countB lensS ⟨#[32]⟩) lensS).map (·.data.toList)=lensP:=by
  rw [Lib.splitB_data];rfl
theorem F1U(s:X0)(P:List (List UInt8))(hs:s.size<4294967281)(h0:(Lib.splitB ⟨#[32]⟩ 0 (Lib.countB s ⟨#[32]⟩) s).map (·.data.toList)=P)(hP:(P.map Lib.atoi)=lensT.map some)(hz:(P.all fun x=>Nat.ble x.length 18)=true) :
    ∃ c:List X0,A90 s ⟨#[32]⟩=some (c,())/\c.length=257/\∀ k (h:k<c.length),B6j c[k]=some (lensT.getD k 0,(),()):=by
  have h1:(decide (s.size<4294967281)&&decide (1<=(⟨#[32]⟩:X0).size))=true:=by
    rw [A0 hs];rfl
  refine ⟨_,by simp only [A90,h1,cond_true];rfl,?_,fun k hk=>?_⟩
  · have:=congrArg List.length h0
    rw [List.length_map] at this;rw [this];have h2:=congrArg List.length hP;rw [List.length_map,List.length_map,A13] at h2;exact h2
  · generalize hc:Lib.splitB ⟨#[32]⟩ 0 (Lib.countB s ⟨#[32]⟩) s=c at *
    have e:=h0;have hk2:k<P.length:=by rw [<- e,List.length_map];exact hk
    have e1:(c[k]).data.toList=P[k]:=by
      have:(c.map (·.data.toList))[k]? = P[k]?:=by rw [e]
      rw [List.getElem?_map,List.getElem?_eq_getElem hk,List.getElem?_eq_getElem hk2] at this;simpa using this
    have e2:Lib.atoi P[k]=some (lensT.getD k 0):=by
      have:(P.map Lib.atoi)[k]? = (lensT.map some)[k]?:=by rw [hP]
      rw [List.getElem?_map,List.getElem?_eq_getElem hk2,List.getElem?_map] at this;cases hq:lensT[k]? with
      | none=>rw [hq] at this;cases this
      | some v=>
        rw [hq] at this;simp only [Option.map_some,Option.some.injEq] at this;rw [this,List.getD_eq_getElem?_getD,hq];rfl
    have e3:(c[k]).size<=18:=by
      have h4:=List.all_eq_true.1 hz P[k] (List.getElem_mem hk2);have h5:=Nat.le_of_ble_eq_true h4;rw [<- e1] at h5;exact h5
    simp only [B6j,A0 e3,cond_true,e1,e2]
theorem F4e:lensS.size<4294967281:=by
  have:Nat.ble (lensS.size+1) 4294967281=true:=by kernel_rfl
  exact Nat.le_of_ble_eq_true this
theorem F4f:∃ c:List X0,A90 lensS ⟨#[32]⟩=some (c,())/\c.length=257/\∀ k (h:k<c.length),B6j c[k]=some (lensT.getD k 0,(),()):=
  F1U lensS lensP F4e E3O F4c F4d
set_option maxRecDepth 100000
def szs(r:List (Int×Int)):Nat->List (Int×Int)
  | 0=>r
  | k+1=>(szs r k).set k (((szs r k).getD k (0,0)).1,lensT.getD k 0)
theorem F0B(r:List (Int×Int)):∀ k,(szs r k).length=r.length
  | 0=>rfl
  | k+1=>by rw [szs,List.length_set,F0B r k]
theorem F6l:szs (List.replicate 257 (0,0)) 257=lensT.map fun n=>(0,n):=by kernel_rfl
def ist(n:Int)(st:Int×List (Int×Int))(sym:Nat):Int×List (Int×Int):=
  if (st.2.getD sym (0,0)).2=n then (i64.wrap (st.1+1),st.2.set sym (st.1,(st.2.getD sym (0,0)).2)) else st
def D1O(n:Int)(st:Int×List (Int×Int)):Nat->Int×List (Int×Int)
  | 0=>st
  | k+1=>ist n (D1O n st k) k
def E0W(st:Int×List (Int×Int)):Nat->Int×List (Int×Int)
  | 0=>st
  | k+1=>D1O ((k:Int)+1) (i64.wrap ((E0W st k).1*2),(E0W st k).2) 257
theorem F6m(n:Int)(st:Int×List (Int×Int))(sym:Nat):(ist n st sym).2.length=st.2.length:=by
  unfold ist;split<;>simp
theorem D3R(n:Int)(st:Int×List (Int×Int)):∀ k,(D1O n st k).2.length=st.2.length
  | 0=>rfl
  | k+1=>by rw [D1O,F6m,D3R n st k]
theorem E3P(st:Int×List (Int×Int)):∀ k,(E0W st k).2.length=st.2.length
  | 0=>rfl
  | k+1=>by rw [E0W,D3R,E3P st k]
def F7u:List (Int×Int):=(E0W (0,lensT.map fun n=>(0,n)) 30).2
theorem F1V:F7u=codesT.zip lensT:=by kernel_rfl
theorem E3Q{xs:List (Int×Int)}{i:Nat}:rd G4 xs (i:Int)=xs.getD i (0,0):=by
  simp [rd,zd]
theorem E6s(c n:Int)(o:List (Int×Int))(ho:o.length=257)(hn:n<1000)(hn0:0<=n)(a:Int)(e:List (Int×Int)) :
    C3 (A5N (a,n,e,())) (c,0,o,())=some (.inl ((D1O n (c,o) 257).1,n+1,(D1O n (c,o) 257).2,())):=by
  have hl:∀ k,(D1O n (c,o) k).2.length=257:=fun k=>by rw [D3R];exact ho
  refine F6 (A5N (a,n,e,())) (fun k=>((D1O n (c,o) k).1,(k:Int),(D1O n (c,o) k).2,())) 257 _ (fun k hk=>?_) ?_
  · have h1:(k:Int)<257:=by omega
    have h2:(0:Int)<=(k:Int):=by omega
    have h5:i64.wrap ((k:Int)+1)=((k+1:Nat):Int):=by rw [w64 (by omega) (by omega)];omega
    simp only [A5N,A0 h1,A0 h2,cond_true,E3Q,h5,Int.toNat_natCast];have e1:D1O n (c,o) (k+1)=ist n (D1O n (c,o) k) k:=rfl;rw [e1];unfold ist;by_cases hq:((D1O n (c,o) k).2.getD k (0,0)).2=n
    · simp only [A0 hq,cond_true,if_pos hq]
    · simp only [A1 hq,cond_false,if_neg hq]
  · have h1:¬ ((257:Nat):Int)<257:=by omega
    simp only [A5N,A1 h1,cond_false];rw [w64 (by omega) (by omega)]
theorem E0a:B03=some (codesT.zip lensT,()):=by
  obtain ⟨c,hc,hcl,hca⟩:=F4f;rw [<- F1V];have e0:B03=A3 (A3 (A90 lensS ⟨#[32]⟩) fun c7=>C3 (A39 B6j c7) (0,(List.replicate 257 (0,0)),())) fun (m1:List A52×Unit)=>C3 (A5O) (0,1,m1.1,()):=rfl
  rw [e0,hc];have f1:C3 (A39 B6j (c,())) (0,(List.replicate 257 (0,0)),())=some (lensT.map fun n=>(0,n),()):=by
    have hl:∀ k,(szs (List.replicate 257 (0,0)) k).length=257:=fun k=>by rw [F0B];simp
    refine F6 (A39 B6j (c,())) (fun k=>((k:Int),szs (List.replicate 257 (0,0)) k,())) 257 _ (fun k hk=>?_) ?_
    · have h1:(k:Int)<257:=by omega
      have h2:(0:Int)<=(k:Int):=by omega
      have h3:(k:Int)<(c.length:Int):=by rw [hcl];omega
      have h5:i64.wrap ((k:Int)+1)=((k+1:Nat):Int):=by rw [w64 (by omega) (by omega)];omega
      have h6:rd .str c (k:Int)=c[k]'(by omega):=T8 (k:=.str) (by omega);simp only [A39,A0 h1,A0 h2,A0 h3,cond_true,h6,hca k (by omega),A3,E3Q,h5,Int.toNat_natCast];rfl
    · have h1:¬ ((257:Nat):Int)<(c.length:Int):=by rw [hcl];omega
      simp only [A39,A1 h1,cond_false,F6l]
  simp only [A3,f1];have hl:∀ k,(E0W (0,lensT.map fun n=>(0,n)) k).2.length=257:=fun k=>by rw [E3P,List.length_map,A13]
  refine F6 A5O (fun k=>((E0W (0,lensT.map fun n=>(0,n)) k).1,((k:Int)+1),(E0W (0,lensT.map fun n=>(0,n)) k).2,())) 30 _ (fun k hk=>?_) ?_
  · have h1:(k:Int)+1<=30:=by omega
    simp only [A5O,A0 h1,cond_true];rw [E6s _ _ _ (hl k) (by omega) (by omega)];simp only [E0W]
    congr 4
  · have h1:¬ ((30:Nat):Int)+1<=30:=by omega
    simp only [A5O,A1 h1,cond_false];rfl
set_option maxRecDepth 100000
theorem gA{R:Type}{n:Nat}{X:Option R}(h:n<=140737488355328):(bif decide (n<=9223372036854775807) then bif decide (n*1<=140737488355328) then X else none else none)=X:=by
  rw [A0 (by omega),A0 (by omega)];rfl
theorem F4g{R:Type}{n:Nat}{X:Option R}(h:n<=1000000000000):(bif decide (n<=9223372036854775807) then bif decide (n*32<=140737488355328) then X else none else none)=X:=by
  rw [A0 (by omega),A0 (by omega)];rfl
def more:Nat->Int->List Int
  | 0,v=> [u8.wrap v]
  | k+1,v=>if v>127 then u8.wrap (bOr .i64 (N8 .i64 v 127) 128)::more k (v.fdiv 128) else [u8.wrap v]
set_option maxRecDepth 100000
def leA(s:X0)(k:Nat):Int:=lensT.getD (bt s k).toNat 0
def coA(s:X0)(k:Nat):Int:=codesT.getD (bt s k).toNat 0
theorem C8V(s:X0)(k:Int):(bt s k).toNat<257:=by have:=D8k s k;have:=C2M s k;omega
theorem D2A(s:X0)(k:Nat):5<=leA s k/\leA s k<=30:=by
  have h:=List.all_eq_true.1 D8o (leA s k) (by
    unfold leA;rw [List.getD_eq_getElem?_getD,List.getElem?_eq_getElem (by rw [A13];exact C8V s k)];exact List.getElem_mem _)
  simpa using h
theorem F4h(s:X0)(k:Nat):rd (.int .i64) lensT (bt s k)=leA s k:=by
  simp [rd,zd,leA]
theorem F4i(s:X0)(k:Nat):rd (.int .i64) codesT (bt s k)=coA s k:=by
  simp [rd,zd,coA]
theorem F6n(s:X0)(k:Nat)(xs:List (Int×Int))(hx:xs=codesT.zip lensT):rd G4 xs (bt s k)=(coA s k,leA s k):=by
  subst hx;have h1:(bt s k).toNat<codesT.length:=by rw [A6J];exact C8V s k
  have h2:(bt s k).toNat<lensT.length:=by rw [A13];exact C8V s k
  have h3:(bt s k).toNat<(codesT.zip lensT).length:=by rw [List.length_zip];omega
  unfold rd;rw [List.getD_eq_getElem?_getD,List.getElem?_eq_getElem h3];simp [coA,leA,List.getD_eq_getElem?_getD,List.getElem?_eq_getElem h1,List.getElem?_eq_getElem h2]
def dr:Nat->Int->Int->Int×Int×List Int
  | 0,v,n=>(v,n,[])
  | k+1,v,n=>if n>=8 then ((dr k (N8 .i64 v (i64.wrap ((i64.wrap (1*2 ^ (min (u64.wrap (n-8)).toNat i64.bits)))-1))) (n-8)).1,(dr k (N8 .i64 v (i64.wrap ((i64.wrap (1*2 ^ (min (u64.wrap (n-8)).toNat i64.bits)))-1))) (n-8)).2.1,
      u8.wrap (v.fdiv (2 ^ (min (u64.wrap (n-8)).toNat i64.bits)))::(dr k (N8 .i64 v (i64.wrap ((i64.wrap (1*2 ^ (min (u64.wrap (n-8)).toNat i64.bits)))-1))) (n-8)).2.2) else (v,n,[])
theorem F8J:∀ (k:Nat) (v n:Int),0<=n->n<8*(k+1)->(dr k v n).2.1=n % 8/\((dr k v n).2.2.length:Int)=n / 8
  | 0,v,n,h0,h1=>⟨by simp only [dr];omega,by simp only [dr,List.length_nil];omega⟩
  | k+1,v,n,h0,h1=>by
    by_cases h:n>=8
    · have:=F8J k (N8 .i64 v (i64.wrap ((i64.wrap (1*2 ^ (min (u64.wrap (n-8)).toNat i64.bits)))-1))) (n-8) (by omega) (by omega)
      simp only [dr,if_pos h,List.length_cons];omega
    · simp only [dr,if_neg h,List.length_nil]
      omega
theorem F0C(l0:Int×Int×Int×List Int×Unit):∀ (k:Nat) (v n:Int) (o:List Int),0<=n->n<8*(k+1)->n<1000->o.length+k+1<=140737488355328->
    C3 (A8o l0) (v,n,o,())=some (.inl ((dr k v n).1,(dr k v n).2.1,i64.wrap (l0.2.2.1+1),o++(dr k v n).2.2,()))
  | 0,v,n,o,h0,h1,h2,hb=>by
    have h:¬ n>=8:=by omega
    rw [C8];simp only [A8o,A1 h,cond_false,dr,List.append_nil]
  | k+1,v,n,o,h0,h1,h2,hb=>by
    rw [C8];by_cases h:n>=8
    · have e1:i64.wrap (n-8)=n-8:=w64 (by omega) (by omega)
      simp only [A8o,A0 h,cond_true,e1,A1 (u64_nonneg _),cond_false];rw [gA (by simp;omega)];simp only [];rw [F0C l0 k _ (n-8) _ (by omega) (by omega) (by omega) (by simp;omega)];simp only [dr,if_pos h,List.append_assoc,List.singleton_append,List.cons_append,List.nil_append]
    · simp only [A8o,A1 h,cond_false,dr,if_neg h,List.append_nil]
theorem F4j(l0:Int×Int×Int×List Int×Unit):D39 l0=A8o l0:=rfl
def hst(s:X0):Nat->Int×Int×List Int
  | 0=>(0,0,[])
  | k+1=>let d:=dr 5 (bOr .i64 (i64.wrap ((hst s k).1*2 ^ (min (u64.wrap (leA s k)).toNat i64.bits))) (coA s k)) ((hst s k).2.1+leA s k);(d.1,d.2.1,(hst s k).2.2++d.2.2)
def bits(s:X0):Nat->Int
  | 0=>0
  | k+1=>bits s k+leA s k
theorem D3S(s:X0):∀ k:Nat,0<=bits s k/\bits s k<=30*(k:Int)
  | 0=>⟨by simp [bits],by simp [bits]⟩
  | k+1=>by
    have:=D3S s k;have:=D2A s k;simp only [bits];omega
theorem F0D(s:X0):∀ k:Nat,(hst s k).2.1=bits s k % 8/\((hst s k).2.2.length:Int)=bits s k / 8
  | 0=>⟨by simp [hst,bits],by simp [hst,bits]⟩
  | k+1=>by
    have h1:=F0D s k;have h2:=D2A s k;have h3:=D3S s k;have h4:=F8J 5 (bOr .i64 (i64.wrap ((hst s k).1*2 ^ (min (u64.wrap (leA s k)).toNat i64.bits))) (coA s k)) ((hst s k).2.1+leA s k) (by omega) (by omega);simp only [hst,bits,List.length_append];omega
theorem F0E(s:X0)(k:Nat)(h:k<=1000000000):(hst s k).2.2.length<=4000000000:=by
  have:=F0D s k;have:=D3S s k;omega
theorem F1W(s:X0)(a:List Int)(ha:a.length<=1000000000000)(hs:s.size<=1000000000)(k:Nat)(hk:k<s.size) :
    A1d s (lensT,()) (codesT,()) ((hst s k).1,(hst s k).2.1,(k:Int),a++(hst s k).2.2,())=some (.inl ((hst s (k+1)).1,(hst s (k+1)).2.1,((k+1:Nat):Int),a++(hst s (k+1)).2.2,())):=by
  have h1:(k:Int)<(s.size:Int):=by omega
  have h2:(0:Int)<=(k:Int):=by omega
  have h3:=D8k s k;have h4:bt s k<(lensT.length:Int):=by rw [A13];have:=C2M s k;omega
  have h5:bt s k<(codesT.length:Int):=by rw [A6J];have:=C2M s k;omega
  have h6:=D2A s k;have h7:=F0D s k;have h8:=F0E s k (by omega);simp only [A1d,A0 h1,A0 h2,A0 h3,A0 h4,A0 h5,cond_true,F4h,F4i,A1 (u64_nonneg _),cond_false];rw [w64 (n:=(hst s k).2.1+leA s k) (by omega) (by omega),F0C _ 5 _ _ _ (by omega) (by omega) (by omega) (by simp;omega),w64 (n:=(k:Int)+1) (by omega) (by omega)];simp only [hst,List.append_assoc];rfl
theorem E6t(s:X0)(l:Int×Int×Int×List Int×Unit):B7P s (codesT.zip lensT) l=A1d s (lensT,()) (codesT,()) l:=by
  obtain ⟨v,n,k,o,u⟩:=l;simp only [B7P,A1d];by_cases h1:k<(s.size:Int)
  · by_cases h2:0<=k
    · obtain ⟨k,rfl⟩:=Int.eq_ofNat_of_zero_le h2
      have h3:=D8k s k;have h4:bt s k<(lensT.length:Int):=by rw [A13];have:=C2M s k;omega
      have h5:bt s k<(codesT.length:Int):=by rw [A6J];have:=C2M s k;omega
      have h6:bt s k<((codesT.zip lensT).length:Int):=by rw [List.length_zip,A6J,A13];have:=C2M s k;omega
      have h7:0<(codesT.zip lensT).length:=by rw [List.length_zip,A6J,A13];omega
      simp only [A0 h1,A0 h2,A0 h3,A0 h4,A0 h5,A0 h6,A0 h7,cond_true,F4h,F4i,F6n s k (codesT.zip lensT) rfl,F4j]
    · simp only [A1 h2,cond_false]
  · simp only [A1 h1,cond_false]
def C9p(s:X0):List Int:=
  if (hst s s.size).2.1>0 then (hst s s.size).2.2 ++ [u8.wrap (bOr .i64 (i64.wrap ((hst s s.size).1*2 ^ (min (u64.wrap (i64.wrap (8-(hst s s.size).2.1))).toNat i64.bits))) (i64.wrap ((i64.wrap (1*2 ^ (min (u64.wrap (i64.wrap (8-(hst s s.size).2.1))).toNat i64.bits)))-1)))] else (hst s s.size).2.2
theorem F4k(s:X0)(a:List Int)(ha:a.length<=1000000000000)(hs:s.size<=1000000000) :
    (A3 (C3 (A1d s (lensT,()) (codesT,())) (0,0,0,a,())) fun (m2:Int×Int×List Int×Unit)=>bif (decide (m2.2.1>0)) then bif decide ((u64.wrap (i64.wrap (8-m2.2.1)))<0) then none else bif decide ((u64.wrap (i64.wrap (8-m2.2.1)))<0) then none else bif decide (m2.2.2.1.length+([(u8.wrap (bOr .i64 (i64.wrap (m2.1*2 ^ (min (u64.wrap (i64.wrap (8-m2.2.1))).toNat i64.bits))) (i64.wrap ((i64.wrap (1*2 ^ (min (u64.wrap (i64.wrap (8-m2.2.1))).toNat i64.bits)))-1))))]:List Int).length<=9223372036854775807) then bif decide ((m2.2.2.1.length+([(u8.wrap (bOr .i64 (i64.wrap (m2.1*2 ^ (min (u64.wrap (i64.wrap (8-m2.2.1))).toNat i64.bits))) (i64.wrap ((i64.wrap (1*2 ^ (min (u64.wrap (i64.wrap (8-m2.2.1))).toNat i64.bits)))-1))))]:List Int).length)*1<=140737488355328) then some ((m2.2.2.1 ++ [(u8.wrap (bOr .i64 (i64.wrap (m2.1*2 ^ (min (u64.wrap (i64.wrap (8-m2.2.1))).toNat i64.bits))) (i64.wrap ((i64.wrap (1*2 ^ (min (u64.wrap (i64.wrap (8-m2.2.1))).toNat i64.bits)))-1))))]),()) else none else none else some (m2.2.2.1,()))=some (a++C9p s,()):=by
  have h1:C3 (A1d s (lensT,()) (codesT,())) (0,0,0,a,())=some ((hst s s.size).1,(hst s s.size).2.1,a++(hst s s.size).2.2,()):=by
    have:=F6 (A1d s (lensT,()) (codesT,())) (fun k=>((hst s k).1,(hst s k).2.1,(k:Int),a++(hst s k).2.2,())) s.size ((hst s s.size).1,(hst s s.size).2.1,a++(hst s s.size).2.2,()) (fun k hk=>F1W s a ha hs k hk) (by
      have h:¬ ((s.size:Nat):Int)<(s.size:Int):=by omega
      simp only [A1d,A1 h,cond_false])
    simpa [hst] using this
  have h8:=F0E s s.size (by omega);rw [h1];simp only [A3,A1 (u64_nonneg _),cond_false];by_cases h:(hst s s.size).2.1>0
  · rw [A0 h,cond_true,gA (by simp;omega),C9p,if_pos h]
    simp
  · rw [A1 h,cond_false,C9p,if_neg h]
theorem F1a(s:X0)(a:List Int)(ha:a.length<=1000000000000)(hs:s.size<=1000000000):B9p (codesT.zip lensT) a s=some (a++C9p s,()):=by
  simp only [B9p,D3A];rw [show B7P s (codesT.zip lensT)=A1d s (lensT,()) (codesT,()) from funext fun l=>E6t s l];exact F4k s a ha hs
set_option maxRecDepth 100000
def fstS:X0:=⟨#[58,97,117,116,104,111,114,105,116,121,124,58,109,101,116,104,111,100,61,71,69,84,124,58,109,101,116,104,111,100,61,80,79,83,84,124,58,112,97,116,104,61,47,124,58,112,97,116,104,61,47,105,110,100,101,120,46,104,116,109,108,124,58,115,99,104,101,109,101,61,104,116,116,112,124,58,115,99,104,101,109,101,61,104,116,116,112,115,124,58,115,116,97,116,117,115,61,50,48,48,124,58,115,116,97,116,117,115,61,50,48,52,124,58,115,116,97,116,117,115,61,50,48,54,124,58,115,116,97,116,117,115,61,51,48,52,124,58,115,116,97,116,117,115,61,52,48,48,124,58,115,116,97,116,117,115,61,52,48,52,124,58,115,116,97,116,117,115,61,53,48,48,124,97,99,99,101,112,116,45,99,104,97,114,115,101,116,124,97,99,99,101,112,116,45,101,110,99,111,100,105,110,103,61,103,122,105,112,44,32,100,101,102,108,97,116,101,124,97,99,99,101,112,116,45,108,97,110,103,117,97,103,101,124,97,99,99,101,112,116,45,114,97,110,103,101,115,124,97,99,99,101,112,116,124,97,99,99,101,115,115,45,99,111,110,116,114,111,108,45,97,108,108,111,119,45,111,114,105,103,105,110,124,97,103,101,124,97,108,108,111,119,124,97,117,116,104,111,114,105,122,97,116,105,111,110,124,99,97,99,104,101,45,99,111,110,116,114,111,108,124,99,111,110,116,101,110,116,45,100,105,115,112,111,115,105,116,105,111,110,124,99,111,110,116,101,110,116,45,101,110,99,111,100,105,110,103,124,99,111,110,116,101,110,116,45,108,97,110,103,117,97,103,101,124,99,111,110,116,101,110,116,45,108,101,110,103,116,104,124,99,111,110,116,101,110,116,45,108,111,99,97,116,105,111,110,124,99,111,110,116,101,110,116,45,114,97,110,103,101,124,99,111,110,116,101,110,116,45,116,121,112,101,124,99,111,111,107,105,101,124,100,97,116,101,124,101,116,97,103,124,101,120,112,101,99,116,124,101,120,112,105,114,101,115,124,102,114,111,109,124,104,111,115,116,124,105,102,45,109,97,116,99,104,124,105,102,45,109,111,100,105,102,105,101,100,45,115,105,110,99,101,124,105,102,45,110,111,110,101,45,109,97,116,99,104,124,105,102,45,114,97,110,103,101,124,105,102,45,117,110,109,111,100,105,102,105,101,100,45,115,105,110,99,101,124,108,97,115,116,45,109,111,100,105,102,105,101,100,124,108,105,110,107,124,108,111,99,97,116,105,111,110,124,109,97,120,45,102,111,114,119,97,114,100,115,124,112,114,111,120,121,45,97,117,116,104,101,110,116,105,99,97,116,101,124,112,114,111,120,121,45,97,117,116,104,111,114,105,122,97,116,105,111,110,124,114,97,110,103,101,124,114,101,102,101,114,101,114,124,114,101,102,114,101,115,104,124,114,101,116,114,121,45,97,102,116,101,114,124,115,101,114,118,101,114,124,115,101,116,45,99,111,111,107,105,101,124,115,116,114,105,99,116,45,116,114,97,110,115,112,111,114,116,45,115,101,99,117,114,105,116,121,124,116,114,97,110,115,102,101,114,45,101,110,99,111,100,105,110,103,124,117,115,101,114,45,97,103,101,110,116,124,118,97,114,121,124,118,105,97,124,119,119,119,45,97,117,116,104,101,110,116,105,99,97,116,101]⟩
noncomputable def firstT:List A4:=match B07 with
  | some (x,_)=>x
  | none=> []
theorem E0b:B07=some (firstT,()):=rfl
theorem C4d:firstT.length=61:=rfl
theorem F1b:(firstT.all fun f=>Nat.ble (f.1.size+f.2.size) 100)=true:=by kernel_rfl
def fstP:List (List UInt8):=Lib.splitK [124] 0 (Lib.count fstS.data.toList [124]) fstS.data.toList
theorem F4l:(fstP.map fun x=>((Lib.cut x [61]).1,(Lib.cut x [61]).2.1))=firstT.map fun f=>(f.1.data.toList,f.2.data.toList):=by kernel_rfl
theorem F6o:(fstP.all fun x=>Nat.ble x.length 100)=true:=by kernel_rfl
theorem E6u:(Lib.splitB ⟨#[124]⟩ 0 (Lib.countB fstS ⟨#[124]⟩) fstS).map (·.data.toList)=fstP:=by
  rw [Lib.splitB_data];rfl
theorem F6p:fstS.size<4294967281:=by
  have:Nat.ble (fstS.size+1) 4294967281=true:=by kernel_rfl
  exact Nat.le_of_ble_eq_true this
theorem A3F{α β:Type}{f:α->Option (α⊕β)}{x y:α}(h:f x=some (.inl y)):C3 f x=C3 f y:=by rw [C8,h]
theorem F7H{l:List UInt8}{b:X0}(h:l=b.data.toList):(⟨l.toArray⟩:X0)=b:=by
  subst h;simp
theorem F1c(s:X0)(P:List (List UInt8))(F:List A4)(hs:s.size<4294967281)(h0:(Lib.splitB ⟨#[124]⟩ 0 (Lib.countB s ⟨#[124]⟩) s).map (·.data.toList)=P)
    (hP:(P.map fun x=>((Lib.cut x [61]).1,(Lib.cut x [61]).2.1))=F.map fun f=>(f.1.data.toList,f.2.data.toList)) (hz:(P.all fun x=>Nat.ble x.length 100)=true) :
    ∃ c:List X0,A90 s ⟨#[124]⟩=some (c,())/\c.length=F.length/\∀ k (h:k<c.length) (h2:k<F.length),∃ b,D2E c[k] ⟨#[61]⟩=some (F[k].1,F[k].2,b,()):=by
  have h1:(decide (s.size<4294967281)&&decide (1<=(⟨#[124]⟩:X0).size))=true:=by
    rw [A0 hs];rfl
  refine ⟨_,by simp only [A90,h1,cond_true];rfl,?_,fun k hk hk3=>?_⟩
  · have:=congrArg List.length h0
    rw [List.length_map] at this;rw [this];have h2:=congrArg List.length hP;rw [List.length_map,List.length_map] at h2;exact h2
  · generalize hc:Lib.splitB ⟨#[124]⟩ 0 (Lib.countB s ⟨#[124]⟩) s=c at *
    have e:=h0;have hk2:k<P.length:=by rw [<- e,List.length_map];exact hk
    have e1:(c[k]).data.toList=P[k]:=by
      have:(c.map (·.data.toList))[k]? = P[k]?:=by rw [e]
      rw [List.getElem?_map,List.getElem?_eq_getElem hk,List.getElem?_eq_getElem hk2] at this;simpa using this
    have e2:((Lib.cut P[k] [61]).1,(Lib.cut P[k] [61]).2.1)=(F[k].1.data.toList,F[k].2.data.toList):=by
      have:(P.map fun x=>((Lib.cut x [61]).1,(Lib.cut x [61]).2.1))[k]? = (F.map fun f=>(f.1.data.toList,f.2.data.toList))[k]?:=by rw [hP]
      rw [List.getElem?_map,List.getElem?_eq_getElem hk2,List.getElem?_map,List.getElem?_eq_getElem hk3] at this;simpa only [Option.map_some,Option.some.injEq] using this
    have e3:(c[k]).size<=100:=by
      have h4:=List.all_eq_true.1 hz P[k] (List.getElem_mem hk2);have h5:=Nat.le_of_ble_eq_true h4;rw [<- e1] at h5;exact h5
    refine ⟨(Lib.cut P[k] [61]).2.2,?_⟩;have e4:(c[k]).size<4294967281:=by omega
    have e5:(⟨#[61]⟩:X0).data.toList = [61]:=rfl;simp only [D2E,A0 e4,cond_true,e1,e5];rw [F7H (congrArg Prod.fst e2),F7H (congrArg Prod.snd e2)]
theorem C8W:A2l=some (firstT,()):=by
  obtain ⟨c,hc,hcl,hca⟩:=F1c fstS fstP firstT F6p E6u F4l F6o;have e0:A2l=A3 (A90 fstS ⟨#[124]⟩) fun c7=>C3 (A16 D2E c7) (0,[],()):=rfl
  rw [e0,hc];simp only [A3];have hF:=C4d;generalize firstT=F at *
  refine (F6 (A16 D2E (c,())) (fun k=>((k:Int),F.take k,())) 61 (F,()) (fun k hk=>?_) ?_)
  · have h1:(k:Int)<(c.length:Int):=by omega
    have h2:(0:Int)<=(k:Int):=by omega
    obtain ⟨b,hb⟩:=hca k (by omega) (by omega);have h6:rd .str c (k:Int)=c[k]'(by omega):=T8 (k:=.str) (by omega);simp only [A16,A0 h1,A0 h2,cond_true,h6,hb,A3];rw [F4g (by simp;omega),w64 (by omega) (by omega)];have e7:F.take (k+1)=F.take k ++ [(F[k]'(by omega))]:=by
      rw [List.take_succ_eq_append_getElem (by omega)]
    rw [e7];rfl
  · have h1:¬ ((61:Nat):Int)<(c.length:Int):=by omega
    simp only [A16,A1 h1,cond_false];rw [List.take_of_length_le (by omega)]
set_option maxRecDepth 100000
def ofF(f:A4):Int:=(f.1.size:Int)+f.2.size+32
def szT:List A4->Int
  | []=>0
  | f::fs=>ofF f+szT fs
theorem B80(f:A4):32<=ofF f:=by unfold ofF;omega
theorem A3a:∀ fs:List A4,32*(fs.length:Int)<=szT fs
  | []=>by simp [szT]
  | f::fs=>by
    have:=A3a fs;have:=B80 f;simp only [szT,List.length_cons];omega
theorem E0c:∀ a b:List A4,szT (a++b)=szT a+szT b
  | [],b=>by simp [szT]
  | f::a,b=>by simp only [List.cons_append,szT,E0c a b];omega
theorem D3T(fs:List A4)(i:Nat):szT (fs.take i)<=szT fs:=by
  have h:=E0c (fs.take i) (fs.drop i);rw [List.take_append_drop] at h;have:=A3a (fs.drop i);omega
theorem E3R(fs:List A4){i j:Nat}(h:i<=j):szT (fs.take i)<=szT (fs.take j):=by
  have:=D3T (fs.take j) i;rw [List.take_take,Nat.min_eq_left h] at this;exact this
theorem D3U(fs:List A4){i:Nat}(h:i<fs.length):szT (fs.take (i+1))=szT (fs.take i)+ofF fs[i]:=by
  rw [List.take_succ_eq_append_getElem h,E0c];simp [szT]
theorem F0F(f:A4)(h:ofF f<=10000000000000):B04 f=some (ofF f,()):=by
  unfold ofF at *
  simp only [B04,C5h];rw [w64 (n:=(f.1.size:Int)+f.2.size) (by omega) (by omega),w64 (by omega) (by omega)]
theorem C9q(f:A4)(h:ofF f<=10000000000000):A3t f=some (ofF f,()):=F0F f h
theorem C5n(m:Int)(fs:List A4)(h:szT fs<=10000000000000):A2T (m,fs)=some (szT fs,()):=by
  have hl:=A3a fs;simp only [A2T,C4L];refine F6 (A4T B04 (m,fs)) (fun i=>(szT (fs.take i),(i:Int),())) fs.length _ (fun i hi=>?_) ?_
  · have h1:(i:Int)<(fs.length:Int):=by omega
    have h2:(0:Int)<=(i:Int):=by omega
    have h3:=D3U fs hi;have h4:=D3T fs (i+1);have h5:=A3a (fs.take i);have h6:rd A5 fs (i:Int)=fs[i]:=T8 (k:=A5) hi;have h7:=B80 fs[i];simp only [A4T,A0 h1,A0 h2,cond_true,h6];rw [F0F _ (by omega)];simp only [A3];rw [w64 (n:=szT (fs.take i)+ofF fs[i]) (by omega) (by omega),w64 (by omega) (by omega),h3];rfl
  · have h1:¬ ((fs.length:Nat):Int)<(fs.length:Int):=by omega
    simp only [A4T,A1 h1,cond_false];rw [List.take_of_length_le (by omega)]
theorem E3S(xs:List A4)(h:xs.length<=1000000000):D8 xs=some (xs,()):=by
  simp only [D8,O2];rw [F4g (by simp;omega)];by_cases h0:0<xs.length
  · rw [A0 h0,cond_true];rfl
  · rw [A1 h0,cond_false]
    have:xs = []:=List.length_eq_zero_iff.1 (by omega);subst this;simp [eqO]
theorem B5t(t:B2)(h:t.2.length<=1000000000):A1b t=some (t,()):=by
  simp only [A1b,C4N];rw [F4g (by simp;omega)];rfl
theorem B1c(t:B2)(h:t.2.length<=1000000000):V1 t=some (t,()):=by
  simp only [V1,B55,E3S t.2 h,A3]
theorem F4m(m:Int)(fs:List A4)(hm:0<=m)(hm2:m<=1000000)(hs:szT fs<=1000000000) :
    ∃ k,k<=fs.length/\(k<fs.length->decide (0<=m-szT (fs.take (k+1)))=false)/\P1 (m,fs)=some ((m,fs.take k),())/\szT (fs.take k)<=m:=by
  have hl:=A3a fs;obtain ⟨k,hk,ht,hf,he⟩:=A1e (A4L A3t D8 (m,fs)) (fun i=>(m-szT (fs.take i),(i:Int),())) fs.length (fun i=>((m,fs.take i),())) (fun i=>decide (0<=m-szT (fs.take (i+1)))) (fun i hi=>by
    have h1:(i:Int)<(fs.length:Int):=by omega
    have h2:(0:Int)<=(i:Int):=by omega
    have h22:(i:Int)<=(fs.length:Int):=by omega
    have h3:=D3U fs hi;have h4:=D3T fs (i+1);have h5:=A3a (fs.take i);have h6:rd A5 fs (i:Int)=fs[i]:=T8 (k:=A5) hi;have h7:=B80 fs[i];have h8:=A3a (fs.take (i+1));simp only [A4L,A0 h1,A0 h2,A0 h22,cond_true,h6,List.drop_zero,Int.toNat_natCast];rw [C9q _ (by omega),E3S _ (by simp;omega)];simp only [A3];rw [w64 (n:=m-szT (fs.take i)-ofF fs[i]) (by omega) (by omega),w64 (n:=(i:Int)+1) (by omega) (by omega)];by_cases hq:0<=m-szT (fs.take (i+1))
    · rw [A1 (by omega),cond_false,A0 hq,if_pos rfl,h3]
      rw [show m-szT (fs.take i)-ofF fs[i]=m-(szT (fs.take i)+ofF fs[i]) by omega];rfl
    · rw [A0 (by omega),cond_true,A1 hq]
      rfl) (by
    have h1:¬ ((fs.length:Nat):Int)<(fs.length:Int):=by omega
    simp only [A4L,A1 h1,cond_false];rw [List.take_of_length_le (by omega)])
  have hkm:szT (fs.take k)<=m:=by
    cases k with
    | zero=>simp [szT];omega
    | succ k=>have:=of_decide_eq_true (ht k (by omega));omega
  refine ⟨k,hk,hf,?_,hkm⟩;simp only [P1,B2j];have e0:(m,(0:Int),())=(fun i:Nat=>(m-szT (fs.take i),(i:Int),())) 0:=by simp [szT]
  rw [e0];exact he
theorem F4n(m:Int)(fs:List A4)(hm:0<=m)(hm2:m<=1000000)(hs:szT fs<=1000000000) :
    ∃ k,P1 (m,fs)=some ((m,fs.take k),())/\A04 (m,fs)=some ((m,fs.take k),())/\szT (fs.take k)<=m:=by
  have hl:=A3a fs;obtain ⟨k,hk,hf,hi,hkm⟩:=F4m m fs hm hm2 hs;refine ⟨k,hi,?_,hkm⟩
  · simp only [A04,B0b]
    refine F1L (A7g A2T) (fun x=>x.2.1.length) (fun x=>x.1=m/\∃ j,k<=j/\j<=fs.length/\x.2.1=fs.take j) _ (fun x hx=>?_) (m,fs,()) ⟨rfl,fs.length,hk,Nat.le_refl _,by rw [List.take_of_length_le (by omega)]⟩;obtain ⟨a,b,u⟩:=x;obtain ⟨e1,j,hj1,hj2,e2⟩:=hx;simp only at e1 e2;subst e1 e2;have h4:=D3T fs j;have hjl:(fs.take j).length=j:=by rw [List.length_take];omega
    simp only [A7g];rw [C5n _ _ (by omega)];simp only [A3];by_cases hq:szT (fs.take j)>a
    · left
      have hjk:k<j:=by
        rcases Nat.lt_or_ge k j with h | h
        · exact h
        · have:=E3R fs h;omega
      have e3:i64.wrap (((fs.take j).length:Int)-1)=((j-1:Nat):Int):=by rw [w64 (by omega) (by omega)];omega
      rw [A0 hq,cond_true,e3,A0 (by omega),A0 (by omega)];refine ⟨(a,fs.take (j-1),()),?_,⟨rfl,j-1,by omega,by omega,rfl⟩,by simp only [List.length_take];omega⟩;simp only [cond_true,Int.toNat_natCast,List.drop_zero,List.take_take];rw [Nat.min_eq_left (by omega)]
    · right
      rw [A1 hq,cond_false];have hjk:j=k:=by
        rcases Nat.lt_or_ge k j with h | h
        · have h5:=of_decide_eq_false (hf (by omega))
          have:=E3R fs (i:=k+1) (j:=j) (by omega);omega
        · omega
      rw [hjk]
theorem F8K(t:B2)(f:A4)(hm:0<=t.1)(hm2:t.1<=1000000)(hs:szT t.2+ofF f<=1000000000) :
    ∃ T,V2 t f=some ((t.1,T),())/\szT T<=t.1:=by
  obtain ⟨m,fs⟩:=t;have hl:=A3a fs;have hf:=B80 f;simp only at hm hm2 hs;obtain ⟨k,_,_,h1,h3⟩:=F4m m (f::fs) hm hm2 (by simp only [szT];omega);refine ⟨(f::fs).take k,?_,h3⟩;have e:C5T fs 0 [f]=some (f::fs,()):=by
    simp only [C5T];rw [A0 (by omega),A0 (by omega),A0 (by simp),A0 (by simp;omega)];rfl
  simp only [V2,A9A,show F9=C5T from rfl,e,A3,h1]
theorem F7v(t:B2)(f:A4)(hm:0<=t.1)(hm2:t.1<=1000000)(hs:szT t.2+ofF f<=1000000000) :
    ∃ T,V2 t f=some ((t.1,T),())/\A12 t f=some ((t.1,T),())/\szT T<=t.1:=by
  obtain ⟨m,fs⟩:=t;have hl:=A3a fs;have hf:=B80 f;simp only at hm hm2 hs;obtain ⟨k,h1,h2,h3⟩:=F4n m (f::fs) hm hm2 (by simp only [szT];omega);refine ⟨(f::fs).take k,?_,?_,h3⟩
  · have e:C5T fs 0 [f]=some (f::fs,()):=by
      simp only [C5T];rw [A0 (by omega),A0 (by omega),A0 (by simp),A0 (by simp;omega)];rfl
    simp only [V2,A9A,show F9=C5T from rfl,e,A3,h1]
  · simp only [A12,B0c]
    rw [F4g (by simp;omega)];simp only [List.singleton_append,List.cons_append,List.nil_append,h2,A3]
def W6(t:B2):Prop:=0<=t.1/\t.1<=4096/\szT t.2<=t.1
theorem A60{t:B2}(h:W6 t):t.2.length<=128:=by
  have:=A3a t.2;obtain ⟨h0,h1,h2⟩:=h;omega
theorem F4o{t:B2}(hs:szT t.2<=10000000000000)(h:Q8 t=some (true,())):W6 t:=by
  obtain ⟨m,fs⟩:=t;simp only at hs;simp only [Q8,B3p,U1,A3,C5n m fs hs] at h;by_cases h1:0<=m/\m<=4096
  · rw [A0 h1,cond_true] at h
    simp only [Option.some.injEq,Prod.mk.injEq,decide_eq_true_eq,and_true] at h;exact ⟨h1.1,h1.2,h⟩
  · rw [A1 h1,cond_false] at h
    simp at h
theorem bO{A B:Type}(x:A)(f:A->Option B):A3 (some x) f=f x:=rfl
theorem bSl{A B:Type}(x:A)(f:A->Option B):D7 (some (Sum.inl x)) f=f x:=rfl
theorem bSr{A B:Type}(y:B)(f:A->Option B):D7 (some (Sum.inr y)) f=some y:=rfl
set_option maxRecDepth 100000
def itB(n:Int):X0:=⟨(Lib.itoa n).toArray⟩
theorem F1d{n:Int}(h0:0<=n)(h1:n<10):itB n=strOf [u8.wrap (i64.wrap (48+n))]:=by
  have h2:u8.wrap (48+n)=48+n:=by
    simp only [IntKind.wrap,IntKind.bits,IntKind.signed,Bool.false_and];simp;omega
  rw [w64 (by omega) (by omega),h2];unfold itB strOf strOfNums Lib.itoa;rw [if_neg (by omega),Lib.decDigits_one (by omega)];simp only [List.map_cons,List.map_nil];rw [show (48+n).toNat=48+n.toNat by omega]
theorem F6q{n:Int}(h1:¬ n<10):itB n=itB (n / 10)++strOf [u8.wrap (i64.wrap (48+n % 10))]:=by
  have h2:u8.wrap (48+n % 10)=48+n % 10:=by
    simp only [IntKind.wrap,IntKind.bits,IntKind.signed,Bool.false_and];simp;omega
  rw [w64 (by omega) (by omega),h2];apply ByteArray.ext;rw [ByteArray.data_append];unfold itB strOf strOfNums Lib.itoa;rw [if_neg (by omega),if_neg (by omega),Lib.decDigits,dif_neg (by omega)];simp only [List.map_cons,List.map_nil];rw [show (48+n % 10).toNat=48+n.toNat % 10 by omega,show (n / 10).toNat=n.toNat / 10 by omega];simp
theorem F6r(n:Int)(h0:0<=n)(h1:n<=4294967295):A3o n=some (itB n,()):=by
  have e:(decide (-9223372036854775808<=n)&&decide (n<=9223372036854775807))=true:=by
    rw [A0 (by omega),A0 (by omega)];rfl
  rw [show A3o n=D2F n from rfl];simp only [D2F,e,cond_true];rfl
set_option maxRecDepth 100000
theorem A8q(xs:List Int)(h:xs.length<=1000000000):B8 xs=some (xs,()):=by
  simp only [B8,V0];rw [gA (by simp;omega)];by_cases h0:0<xs.length
  · rw [A0 h0,cond_true];rfl
  · rw [A1 h0,cond_false]
    have:xs = []:=List.length_eq_zero_iff.1 (by omega);subst this;simp [eqO]
theorem fok(k fl id:Int)(q:List Int)(h1:0<=k/\k<=255)(h2:0<=fl/\fl<=255)(h3:0<=id/\id<=2147483647)(h4:(q.length:Int)<=1000):A2B (k,fl,id,q)=true:=by
  simp only [A2B,A0 h1,A0 h2,A0 h3,A0 h4];rfl
theorem D3V(f:C1)(h:A2B f=true):(B2w f).length<=1009:=by
  simp only [A2B,Bool.and_eq_true,decide_eq_true_eq] at h;simp only [B2w,List.length_append,A9T,List.length_cons,List.length_nil];omega
theorem E3T{f:C1}(h:A2B f=true):f.2.2.2.length<=1000:=by
  simp only [A2B,Bool.and_eq_true,decide_eq_true_eq] at h;omega
set_option maxRecDepth 100000
set_option maxRecDepth 100000
noncomputable def mfs(m:Int)(n:Nat):List A4:=(List.range n).map fun j=>(mt (m+2*(j:Nat)),mt (m+2*(j:Nat)+1))
theorem A7r(m:Int)(n:Nat):(mfs m n).length=n:=by simp [mfs]
theorem F4p(m:Int)(n:Nat):mfs m (n+1)=mfs m n ++ [(mt (m+2*(n:Nat)),mt (m+2*(n:Nat)+1))]:=by
  simp [mfs,List.range_succ]
theorem E0d(t:B2)(m:Int)(h0:0<=m)(h1:m<=1000000000000)(h2:t.2.length<=1000000000):A35 t m=some (m+2*t.2.length,(t.1,mfs m t.2.length),()):=by
  have key:A3q t.2 m=some (m+2*t.2.length,mfs m t.2.length,()):=by
    obtain ⟨mm,fs⟩:=t;simp only at h2 ⊢;simp only [A3q,B2W];have:=F6 (A4I F2) (fun k=>(m+2*(k:Nat),(k:Int),mfs m k++fs.drop k,())) fs.length (m+2*fs.length,mfs m fs.length,()) (fun k hk=>by
      have hl:(mfs m k++fs.drop k).length=fs.length:=by rw [List.length_append,A7r,List.length_drop];omega
      have a1:(k:Int)<((mfs m k++fs.drop k).length:Int):=by omega
      have a2:(0:Int)<=(k:Int):=by omega
      have e1:fs.drop k=fs[k]::fs.drop (k+1):=List.drop_eq_getElem_cons hk;have hs:∀ x:A4,(mfs m k++fs.drop k).set k x=mfs m k++x::fs.drop (k+1):=by
        intro x;rw [e1,List.set_append_right _ _ (by rw [A7r];omega),A7r,Nat.sub_self];rfl
      have hr:∀ x:A4,rd A5 (mfs m k++x::fs.drop (k+1)) (k:Int)=x:=by
        intro x;unfold rd;rw [Int.toNat_natCast,List.getD_eq_getElem?_getD,List.getElem?_append_right (by rw [A7r];omega),A7r,Nat.sub_self];rfl
      have hs2:∀ x y:A4,(mfs m k++x::fs.drop (k+1)).set k y=mfs m k++y::fs.drop (k+1):=by
        intro x y;rw [List.set_append_right _ _ (by rw [A7r];omega),A7r,Nat.sub_self];rfl
      have hl2:∀ x:A4,(mfs m k++x::fs.drop (k+1)).length=fs.length:=by
        intro x;rw [List.length_append,A7r,List.length_cons,List.length_drop];omega
      simp only [A4I,A0 a1,A0 a2,cond_true];rw [A6e _ (by omega),w64 (n:=m+2*(k:Int)+1) (by omega) (by omega),A6e _ (by omega)];simp only [A3,Int.toNat_natCast,hs,hr,hs2,hl2];rw [A0 (by omega),cond_true,w64 (by omega) (by omega),w64 (by omega) (by omega),F4p];simp only [List.append_assoc,List.singleton_append,List.cons_append,List.nil_append];rw [show m+2*(k:Int)+1+1=m+2*((k+1:Nat):Int) by omega];rfl) (by
      have a1:¬ ((fs.length:Nat):Int)<((mfs m fs.length).length:Int):=by rw [A7r];omega
      simp only [A4I,List.drop_length,List.append_nil,A1 a1,cond_false])
    simpa [mfs] using this
  simp only [A35,B53,key,A3]
theorem E0e(x:Int)(n:Nat)(m:Int)(h0:0<=m)(h1:m<=1000000000000)(h2:n<=1000000000):A36 (x,mfs m n) m=some (m+2*n,()):=by
  have key:A3r (mfs m n) m=some (m+2*n,()):=by
    simp only [A3r,B2b];have:=F6 (A4J F2 (mfs m n)) (fun k=>(m+2*(k:Nat),(k:Int),())) n (m+2*n,()) (fun k hk=>by
      have a1:(k:Int)<((mfs m n).length:Int):=by rw [A7r];omega
      have a2:(0:Int)<=(k:Int):=by omega
      have hr:rd A5 (mfs m n) (k:Int)=(mt (m+2*(k:Nat)),mt (m+2*(k:Nat)+1)):=by
        unfold rd mfs;simp [List.getD_eq_getElem?_getD,hk]
      simp only [A4J,A0 a1,A0 a2,cond_true,hr];rw [A6e _ (by omega),w64 (n:=m+2*(k:Int)+1) (by omega) (by omega),A6e _ (by omega)];simp only [A3,beq_self_eq_true,Bool.not_true,cond_false];rw [w64 (by omega) (by omega),w64 (by omega) (by omega),show m+2*(k:Int)+1+1=m+2*((k+1:Nat):Int) by omega];rfl) (by
      have a1:¬ ((n:Nat):Int)<((mfs m n).length:Int):=by rw [A7r];omega
      simp only [A4J,A1 a1,cond_false])
    simpa using this
  simp only [A36,B54,key,A3];rw [A1 (by omega)];rfl
set_option maxRecDepth 100000
theorem D6k{R:Type}{n:Nat}{X:Option R}(h:n<=1000000000000):(bif decide (n<=9223372036854775807) then bif decide (n*72<=140737488355328) then X else none else none)=X:=by
  rw [A0 (by omega),A0 (by omega)];rfl
def C2S(c:E9):Prop:=c.2.1.length<=2000000/\c.2.2.1.2.2.length<=2000000/\c.2.2.2.1.2.length<=2000000/\c.2.2.2.2.1.2.length<=2000000/\c.2.2.2.2.2.1.length<=2000000/\∀ x∈c.2.2.2.2.2.1,x.2.2.2.length<=2000000
theorem D8p(g:D6)(h:g.2.2.length<=2000000):A6F g=some (g,()):=by
  simp only [A6F,C4O];rw [gA (by simp;omega)];rfl
theorem C2T(g:D6)(h:g.2.2.length<=2000000):A0k g=some (g,()):=by
  simp only [A0k,B2f,A8q g.2.2 (by omega),A3]
theorem D3W(c:E9)(h:C2S c):B06 c=some (c,()):=by
  obtain ⟨h1,h2,h3,h4,h5,h6⟩:=h;simp only [B06,B9v];rw [gA (by simp;omega)];simp only [D8p _ h2,B5t c.2.2.2.1 (by omega),B5t c.2.2.2.2.1 (by omega),bO,List.nil_append];refine F6 (A9H c) (fun k=>((k:Int),c.1,c.2.2.1.1,c.2.2.1.2.1,c.2.2.2.1.1,c.2.2.2.2.1.1,c.2.2.2.2.2.2.1,c.2.2.2.2.2.2.2,c.2.1,c.2.2.1.2.2,c.2.2.2.1.2,c.2.2.2.2.1.2,c.2.2.2.2.2.1.take k,())) c.2.2.2.2.2.1.length (c,()) (fun k hk=>?_) ?_
  · have a1:(k:Int)<(c.2.2.2.2.2.1.length:Int):=by omega
    have a2:(0:Int)<=(k:Int):=by omega
    have a3:rd B7 c.2.2.2.2.2.1 (k:Int)=c.2.2.2.2.2.1[k]:=T8 (k:=B7) hk;have a4:=h6 _ (List.getElem_mem hk);simp only [A9H,A0 a1,A0 a2,cond_true,a3,List.nil_append];rw [gA (by simp;omega),D6k (by simp;omega),w64 (by omega) (by omega),List.take_succ_eq_append_getElem hk];rfl
  · have a1:¬ ((c.2.2.2.2.2.1.length:Nat):Int)<(c.2.2.2.2.2.1.length:Int):=by omega
    simp only [A9H,A1 a1,cond_false];rw [List.take_of_length_le (Nat.le_refl _)]
theorem C9r(c:E9)(h:C2S c):A7K c=some (c,()):=by
  obtain ⟨h1,h2,h3,h4,h5,h6⟩:=h;simp only [A7K,B7N,A8q c.2.1 (by omega),C2T _ h2,B1c c.2.2.2.1 (by omega),B1c c.2.2.2.2.1 (by omega),bO];refine F6 (A7J B8 c) (fun k=>((k:Int),c.1,c.2.2.1.1,c.2.2.1.2.1,c.2.2.2.1.1,c.2.2.2.2.1.1,c.2.2.2.2.2.2.1,c.2.2.2.2.2.2.2,c.2.1,c.2.2.1.2.2,c.2.2.2.1.2,c.2.2.2.2.1.2,c.2.2.2.2.2.1.take k,())) c.2.2.2.2.2.1.length (c,()) (fun k hk=>?_) ?_
  · have a1:(k:Int)<(c.2.2.2.2.2.1.length:Int):=by omega
    have a2:(0:Int)<=(k:Int):=by omega
    have a3:rd B7 c.2.2.2.2.2.1 (k:Int)=c.2.2.2.2.2.1[k]:=T8 (k:=B7) hk;have a4:=h6 _ (List.getElem_mem hk);simp only [A7J,A0 a1,A0 a2,cond_true,a3,A8q _ (show (c.2.2.2.2.2.1[k]).2.2.2.length<=1000000000 by omega),bO];rw [D6k (by simp;omega),w64 (by omega) (by omega),List.take_succ_eq_append_getElem hk];rfl
  · have a1:¬ ((c.2.2.2.2.2.1.length:Nat):Int)<(c.2.2.2.2.2.1.length:Int):=by omega
    simp only [A7J,A1 a1,cond_false];rw [List.take_of_length_le (Nat.le_refl _)]
def C0E(c:E9)(j:Nat):Int:=(rd B7 c.2.2.2.2.2.1 (j:Int)).1
theorem F4q(c:E9)(id:Int)(h:c.2.2.2.2.2.1.length<=2000000):∃ i,i<=c.2.2.2.2.2.1.length/\(∀ j,j<i->C0E c j≠id)/\(i<c.2.2.2.2.2.1.length->C0E c i=id)/\
    A3B c id=some (if i<c.2.2.2.2.2.1.length then (i:Int) else -1,()):=by
  obtain ⟨i,h1,h2,h3,h4⟩:=A1e (B3s c id) (fun j=>((j:Int),())) c.2.2.2.2.2.1.length (fun j=>(if j<c.2.2.2.2.2.1.length then (j:Int) else -1,())) (fun j=>!decide (C0E c j=id)) (fun j hj=>by
    have a1:(j:Int)<(c.2.2.2.2.2.1.length:Int):=by omega
    have a2:(0:Int)<=(j:Int):=by omega
    simp only [B3s,A0 a1,A0 a2,cond_true,if_pos hj];rw [w64 (by omega) (by omega)];unfold C0E;cases decide ((rd B7 c.2.2.2.2.2.1 (j:Int)).1=id)<;>rfl) (by
    have a1:¬ ((c.2.2.2.2.2.1.length:Nat):Int)<(c.2.2.2.2.2.1.length:Int):=by omega
    simp only [B3s,A1 a1,cond_false,if_neg (Nat.lt_irrefl _)])
  exact ⟨i,h1,fun j hj=>by simpa using h2 j hj,fun hi=>by simpa using h3 hi,h4⟩
theorem str_eq(c:E9)(id:Int)(h:c.2.2.2.2.2.1.length<=2000000):∃ i,i<=c.2.2.2.2.2.1.length/\(∀ j,j<i->C0E c j<id)/\(i<c.2.2.2.2.2.1.length->¬ C0E c i<id)/\
    S1 c id=some ((i:Int),(decide (i<c.2.2.2.2.2.1.length)&&decide (C0E c i=id)),c,()):=by
  obtain ⟨i,h1,h2,h3,h4⟩:=A1e (A7O c id) (fun j=>((j:Int),())) c.2.2.2.2.2.1.length (fun j=>((j:Int),())) (fun j=>decide (C0E c j<id)) (fun j hj=>by
    have a1:(j:Int)<(c.2.2.2.2.2.1.length:Int):=by omega
    have a2:(0:Int)<=(j:Int):=by omega
    simp only [A7O,A0 a1,A0 a2,cond_true];rw [w64 (by omega) (by omega)];unfold C0E;cases decide ((rd B7 c.2.2.2.2.2.1 (j:Int)).1<id)<;>rfl) (by
    have a1:¬ ((c.2.2.2.2.2.1.length:Nat):Int)<(c.2.2.2.2.2.1.length:Int):=by omega
    simp only [A7O,A1 a1,cond_false])
  refine ⟨i,h1,fun j hj=>by simpa using h2 j hj,fun hi=>by simpa using h3 hi,?_⟩;simp only [S1,B7T];rw [show ((0:Int),())=(fun j:Nat=>((j:Int),())) 0 from rfl,h4];simp only [bO];by_cases hi:i<c.2.2.2.2.2.1.length
  · rw [A0 (p:=(i:Int)<(c.2.2.2.2.2.1.length:Int)) (by omega),A0 (p:=(0:Int)<=(i:Int)) (by omega),A0 hi]
    rfl
  · rw [A1 (p:=(i:Int)<(c.2.2.2.2.2.1.length:Int)) (by omega),A1 hi]
    rfl
theorem F0G{c:E9}(h:B8m c=true):∀ i,i+1<c.2.2.2.2.2.1.length->C0E c i<C0E c (i+1):=by
  intro i hi;have h1:A1f (A7q c) 0 c.2.2.2.2.2.1.length=c.2.2.2.2.2.1.length:=by
    simp only [B8m,Bool.and_eq_true,decide_eq_true_eq] at h;exact h.1
  have h2:=B46 (A7q c) c.2.2.2.2.2.1.length 0 (i+1) (by omega) (by omega);simp only [A7q,Bool.and_eq_true,Bool.or_eq_true,decide_eq_true_eq,Bool.not_eq_true',decide_eq_false_iff_not] at h2;have h3:=h2.1.1.2;rw [show (((i+1:Nat):Int)-1)=(i:Int) by omega] at h3;have h4:¬ C0E c (i+1)<=C0E c i:=by
    rcases h3 with q | q
    · omega
    · exact q
  omega
theorem F0H{c:E9}(h:B8m c=true):∀ k i,i+k+1<c.2.2.2.2.2.1.length->C0E c i<C0E c (i+k+1)
  | 0,i,hi=>F0G h i hi
  | k+1,i,hi=>by
    have h1:=F0H h k i (by omega);have h2:=F0G h (i+k+1) (by omega);rw [show i+(k+1)+1=i+k+1+1 by omega];omega
theorem at_eq(c:E9)(id:Int)(h:c.2.2.2.2.2.1.length<=2000000)(hs:B8m c=true):∃ i:Nat,∃ has:Bool,(has=true->i<c.2.2.2.2.2.1.length/\C0E c i=id)/\
    A3B c id=some (if has then (i:Int) else -1,())/\S1 c id=some ((i:Int),has,c,()):=by
  obtain ⟨i1,a1,a2,a3,a4⟩:=F4q c id h;obtain ⟨i2,b1,b2,b3,b4⟩:=str_eq c id h;refine ⟨i2,_,?_,?_,b4⟩
  · intro q
    simp only [Bool.and_eq_true,decide_eq_true_eq] at q;exact q
  · rw [a4]
    by_cases h1:i2<c.2.2.2.2.2.1.length
    · by_cases h2:C0E c i2=id
      · have e:i1=i2:=by
          rcases Nat.lt_trichotomy i1 i2 with q | q | q
          · have:=b2 i1 q
            have:=a3 (by omega);omega
          · exact q
          · exact absurd h2 (a2 i2 q)
        rw [e,A0 h1,A0 h2];simp [h1]
      · have e:¬ i1<c.2.2.2.2.2.1.length:=by
          intro q;have q3:=a3 q;rcases Nat.lt_trichotomy i1 i2 with q2 | q2 | q2
          · have:=b2 i1 q2;omega
          · rw [q2] at q3;exact h2 q3
          · have q4:=F0H hs (i1-i2-1) i2 (by omega)
            rw [show i2+(i1-i2-1)+1=i1 by omega] at q4;have:=b3 h1;omega
        rw [A1 h2,if_neg e];simp
    · have e:¬ i1<c.2.2.2.2.2.1.length:=by
        intro q;have:=b2 i1 (by omega);have:=a3 q;omega
      rw [A1 h1,if_neg e];simp
set_option maxRecDepth 100000
theorem D8q(t:B2)(h:t.2.length<=2000000)(m:Int)(h0:0<=m)(h1:m<=900000000000) :
    ∃ m' y,A35 t m=some (m',(t.1,y),())/\m<=m'/\m'<=m+4000000/\∀ a,A36 (a,y) m=some (m',()):=
  ⟨_,_,E0d t m h0 (by omega) (by omega),by omega,by omega,fun a=>E0e a _ m h0 (by omega) (by omega)⟩
theorem F6s(a:List F7)(h:a.length<=1048576):MH (B1I a) B1L (cost (fun u=>List.length u.2.2.2+5) a):=by
  refine F0A (A7B H3 F2) (A7G H4 F2) (fun u=>List.length u.2.2.2+5) a h (fun i hi m h0 h1=>?_) (fun m b hb=>by simp [A7B,hb]) (fun m b hb=>by simp [A7G,hb]);obtain ⟨m1,d,e1,b1,b2,e2⟩:=B5s a[i].2.2.2 (m+1+1+1+1+1) (by omega) (by omega);have w1:i64.wrap (m+1)=m+1:=w64 (by omega) (by omega);have w2:i64.wrap (m+1+1)=m+1+1:=w64 (by omega) (by omega);have w3:i64.wrap (m+1+1+1)=m+1+1+1:=w64 (by omega) (by omega);have w4:i64.wrap (m+1+1+1+1)=m+1+1+1+1:=w64 (by omega) (by omega);have w5:i64.wrap (m+1+1+1+1+1)=m+1+1+1+1+1:=w64 (by omega) (by omega);have wi:i64.wrap ((i:Int)+1)=(i:Int)+1:=w64 (by omega) (by omega);have g1:(0:Int)<=(i:Int):=by omega
  have ht:=A6e (m+1+1+1) (by omega);refine ⟨m1,(m,m+1,(m+1+1,mt (m+1+1+1),m+1+1+1+1),d),by omega,by omega,fun b hb e=>?_,fun b hb e=>?_⟩
  · have hib:i<b.length:=by omega
    have g2:(i:Int)<(b.length:Int):=by omega
    have hr:rd B7 b (i:Int)=a[i]:=by rw [T8 (k:=B7) (xs:=b) (by omega)];exact e
    simp only [A7B,A3,List.length_set,A0 g1,A0 g2,cond_true,Int.toNat_natCast,w1,w2,w3,w4,w5,wi,List.set_set,F4b (k:=B7) hib,hr,ht,e1]
  · have g2:(i:Int)<(b.length:Int):=by omega
    have hr:rd B7 b (i:Int)=(m,m+1,(m+1+1,mt (m+1+1+1),m+1+1+1+1),d):=by rw [T8 (k:=B7) (xs:=b) (by omega)];exact e
    simp only [A7G,A3,A0 g1,A0 g2,cond_true,w1,w2,w3,w4,w5,wi,hr,ht,e2];rw [A1 (show ¬ m1<0 by omega)];simp
theorem D8r:∀ a:List F7,(∀ x∈a,x.2.2.2.length<=2000000)->cost (fun u:F7=>List.length u.2.2.2+5) a<=2000005*a.length
  | [],_=>by simp [cost]
  | x::a,h=>by
    have h1:=D8r a fun y hy=>h y (List.mem_cons_of_mem _ hy)
    have h2:=h x List.mem_cons_self;simp only [cost,List.map_cons,List.sum_cons,List.length_cons] at h1 ⊢;omega
theorem F0I(c:E9)(h:C2S c)(hl:c.2.2.2.2.2.1.length<=1048576):∃ m' y1 y2 y3 y4 y5,A7C c 1=some (m',(c.1,(y1,((c.2.2.1.1,(c.2.2.1.2.1,y2)),((c.2.2.2.1.1,y3),((c.2.2.2.2.1.1,y4),(y5,c.2.2.2.2.2.2)))))),())/\1<=m'/\m'<=4000000000000/\
    ∀ q1 q2 q3 q4 q5 q6,A7H (q1,(y1,((q2,(q3,y2)),((q4,y3),((q5,y4),(y5,q6)))))) 1=some (m',()):=by
  obtain ⟨h1,h2,h3,h4,h5,h6⟩:=h;have hc:=D8r _ h6;obtain ⟨m1,y1,e1,a1,b1,f1⟩:=B5s c.2.1 1 (by omega) (by omega);obtain ⟨m2,y2,e2,a2,b2,f2⟩:=B5s c.2.2.1.2.2 m1 (by omega) (by omega);obtain ⟨m3,y3,e3,a3,b3,f3⟩:=D8q c.2.2.2.1 h3 m2 (by omega) (by omega);obtain ⟨m4,y4,e4,a4,b4,f4⟩:=D8q c.2.2.2.2.1 h4 m3 (by omega) (by omega);obtain ⟨m5,y5,e5,a5,b5,f5⟩:=F6s c.2.2.2.2.2.1 hl m4 (by omega) (by omega);refine ⟨m5,y1,y2,y3,y4,y5,?_,by omega,by omega,fun q1 q2 q3 q4 q5 q6=>?_⟩
  · simp only [A7C,B7F,A7A,B2a,e1,e2,e3,e4,e5,bO]
  · have d1:decide (m1<0)=false:=A1 (by omega)
    have d2:decide (m2<0)=false:=A1 (by omega);have d3:decide (m3<0)=false:=A1 (by omega);have d4:decide (m4<0)=false:=A1 (by omega);have d5:decide (m5<0)=false:=A1 (by omega);simp only [A7H,B7G,A7F,B2c,f1,f2,f3,f4,f5,bO,d1,d2,d3,d4,d5,cond_false]
theorem E6v(N:Nat):∀ fs:List A4,(∀ x∈fs,Sm N A5 x)->szT fs<=(2*N+32:Int)*fs.length
  | [],_=>by simp [szT]
  | f::fs,h=>by
    have h1:=E6v N fs fun x hx=>h x (List.mem_cons_of_mem _ hx)
    have h2:=h f List.mem_cons_self;have h3:f.1.size<=N:=h2.l;have h4:f.2.size<=N:=h2.r;simp only [szT,ofF,List.length_cons];rw [show ((fs.length+1:Nat):Int)=(fs.length:Int)+1 by omega,Int.mul_add,Int.mul_one];omega
set_option maxRecDepth 100000
def J8:Nat->Nat->List Bool
  | 0,_=> []
  | n+1,v=>v.testBit n::J8 n v
theorem A0f:∀ n v,(J8 n v).length=n
  | 0,_=>rfl
  | n+1,v=>by simp only [J8,List.length_cons,A0f n v]
theorem A6f(m:Nat):∀ (n v:Nat),n<=m->J8 n (v % 2 ^ m)=J8 n v
  | 0,_,_=>rfl
  | n+1,v,h=>by
    simp only [J8];rw [A6f m n v (by omega),Nat.testBit_mod_two_pow,A0 (show n<m by omega),Bool.true_and]
theorem B5u:∀ a b v,J8 (a+b) v=J8 a (v / 2 ^ b)++J8 b v
  | 0,b,v=>by simp [J8]
  | a+1,b,v=>by
    rw [show a+1+b=(a+b)+1 by omega];simp only [J8,List.cons_append];rw [B5u a b v,Nat.testBit_div_two_pow]
theorem C8a:∀ n v w,v<2 ^ n->w<2 ^ n->J8 n v=J8 n w->v=w
  | 0,v,w,hv,hw,_=>by simp at hv hw;omega
  | n+1,v,w,hv,hw,h=>by
    simp only [J8,List.cons.injEq] at h;obtain ⟨h1,h2⟩:=h;rw [<- A6f n n v (Nat.le_refl _),<- A6f n n w (Nat.le_refl _)] at h2;have h3:=C8a n _ _ (Nat.mod_lt _ (Nat.two_pow_pos n)) (Nat.mod_lt _ (Nat.two_pow_pos n)) h2;rw [Nat.testBit_eq_decide_div_mod_eq,Nat.testBit_eq_decide_div_mod_eq] at h1;rw [Nat.pow_succ] at hv hw;have h0:=Nat.two_pow_pos n;generalize 2 ^ n=p at *
    have h4:=Nat.div_add_mod v p;have h5:=Nat.div_add_mod w p;have h6:v / p<2:=Nat.div_lt_of_lt_mul hv;have h7:w / p<2:=Nat.div_lt_of_lt_mul hw;have h8:v / p=w / p:=by
      clear h4 h5
      generalize v / p=a at *
      generalize w / p=b at *
      have q1:a=0\/a=1:=by omega
      have q2:b=0\/b=1:=by omega
      rcases q1 with rfl | rfl<;>rcases q2 with rfl | rfl<;>simp_all
    rw [h8] at h4;omega
theorem B81:∀ n m,n<=m->J8 n (2 ^ m-1)=List.replicate n true
  | 0,_,_=>rfl
  | n+1,m,h=>by
    simp only [J8,List.replicate_succ];rw [B81 n m (by omega),Nat.testBit_two_pow_sub_one,A0 (show n<m by omega)]
def E5(l:List Int):List Bool:=l.flatMap fun x=>J8 8 x.toNat
theorem C5o(a b:List Int):E5 (a++b)=E5 a++E5 b:=by simp [E5]
theorem A3G(x:Int)(b:List Int):E5 (x::b)=J8 8 x.toNat++E5 b:=by simp [E5]
theorem E0f(x:Int):E5 [x]=J8 8 x.toNat:=by simp [E5]
theorem S7:∀ l:List Int,(E5 l).length=8*l.length
  | []=>rfl
  | x::l=>by
    have:=S7 l;rw [A3G,List.length_append,A0f,List.length_cons];omega
theorem C5p:∀ {a b:List Int},Byt a->Byt b->E5 a=E5 b->a=b
  | [],[],_,_,_=>rfl
  | [],y::b,_,_,h=>by have:=congrArg List.length h;rw [S7,S7] at this;simp at this
  | x::a,[],_,_,h=>by have:=congrArg List.length h;rw [S7,S7] at this;simp at this
  | x::a,y::b,ha,hb,h=>by
    rw [A3G,A3G] at h;have h1:=List.append_inj h (by rw [A0f,A0f]);have hx:=ha x List.mem_cons_self;have hy:=hb y List.mem_cons_self;have h2:=C8a 8 _ _ (by omega) (by omega) h1.1;have h3:=C5p (fun z hz=>ha z (List.mem_cons_of_mem _ hz)) (fun z hz=>hb z (List.mem_cons_of_mem _ hz)) h1.2;rw [h3,show x=y by omega]
def coN(x:Nat):Nat:=(codesT.getD x 0).toNat
def leN(x:Nat):Nat:=(lensT.getD x 0).toNat
def cod(x:Nat):List Bool:=J8 (leN x) (coN x)
theorem F4r:(List.range 257).all (fun x=>decide (0<=codesT.getD x 0)&&decide ((codesT.getD x 0).toNat<2 ^ (lensT.getD x 0).toNat))=true:=by kernel_rfl
theorem F0J{x:Nat}(h:x<257):0<=codesT.getD x 0/\coN x<2 ^ leN x:=by
  have:=List.all_eq_true.1 F4r x (List.mem_range.2 h);simpa [coN,leN] using this
theorem E3U{x:Nat}(h:x<257):5<=lensT.getD x 0/\lensT.getD x 0<=30:=by
  have h:=List.all_eq_true.1 D8o (lensT.getD x 0) (by
    rw [List.getD_eq_getElem?_getD,List.getElem?_eq_getElem (by rw [A13];exact h)];exact List.getElem_mem _)
  simpa using h
def A0L(l:List Nat):List Bool:=l.flatMap cod
theorem C9s(a b:List Nat):A0L (a++b)=A0L a++A0L b:=by simp [A0L]
theorem C5q{x y:Nat}(hx:x<9223372036854775808)(hy:y<9223372036854775808):N8 .i64 (x:Int) (y:Int)=((x &&& y:Nat):Int):=by
  have h:x &&& y<9223372036854775808:=Nat.lt_of_le_of_lt Nat.and_le_left hx;unfold N8;rw [BitVec.toNat_and,bits_nat (by simp only [IntKind.bits];omega),bits_nat (by simp only [IntKind.bits];omega)];exact E3E h
theorem E0g{x y:Nat}(hx:x<9223372036854775808)(hy:y<9223372036854775808):bOr .i64 (x:Int) (y:Int)=((x ||| y:Nat):Int):=F09 hx hy
theorem E0h{m:Nat}(h:m<64):(min (u64.wrap (m:Int)).toNat i64.bits)=m:=by
  have:u64.wrap (m:Int)=m:=by
    simp only [IntKind.wrap,IntKind.bits,IntKind.signed,Bool.false_and];simp;omega
  rw [this];simp only [IntKind.bits];omega
theorem C5r(m:Nat):((2:Int) ^ m)=((2 ^ m:Nat):Int):=by simp
theorem D3a{m n:Nat}(h:m<=n):2 ^ m<=2 ^ n:=Nat.pow_le_pow_right (by omega) h
theorem p62{m:Nat}(h:m<=62):2 ^ m<=4611686018427387904:=Nat.le_trans (D3a h) (by decide)
theorem E3V{v m:Nat}(hm:m<62)(h:v*2 ^ m<9223372036854775808):i64.wrap ((v:Int)*2 ^ (min (u64.wrap (m:Int)).toNat i64.bits))=((v*2 ^ m:Nat):Int):=by
  rw [E0h (by omega),C5r,<- Int.natCast_mul,w64 (by omega) (by omega)]
theorem C5s{m:Nat}(hm:m<62):i64.wrap (i64.wrap (1*2 ^ (min (u64.wrap (m:Int)).toNat i64.bits))-1)=((2 ^ m-1:Nat):Int):=by
  have h1:=p62 (show m<=62 by omega);have h2:=Nat.two_pow_pos m;have:=E3V (v:=1) hm (by omega);rw [show ((1:Nat):Int)=1 from rfl] at this;rw [this,w64 (by omega) (by omega)];omega
theorem C9t{x:Nat}(h:x<256):u8.wrap (x:Int)=x:=by
  simp only [IntKind.wrap,IntKind.bits,IntKind.signed,Bool.false_and];simp;omega
theorem F0K:∀ (k v n:Nat),v<2 ^ n->n<8*(k+1)->n<=60->∃ v' n':Nat,(dr k (v:Int) (n:Int)).1=v'/\(dr k (v:Int) (n:Int)).2.1=n'/\v'<2 ^ n'/\Byt (dr k (v:Int) (n:Int)).2.2/\E5 (dr k (v:Int) (n:Int)).2.2++J8 n' v' = J8 n v
  | 0,v,n,hv,h1,h2=>⟨v,n,rfl,rfl,hv,(fun x hx=>by cases hx),rfl⟩
  | k+1,v,n,hv,h1,h2=>by
    by_cases h:8<=n
    · have e:((n:Int)-8)=((n-8:Nat):Int):=by omega
      have hp:=p62 (show n<=62 by omega);have hq:=D3a (show n-8<=n by omega);have h0:=Nat.two_pow_pos (n-8);have e1:N8 .i64 (v:Int) (i64.wrap (i64.wrap (1*2 ^ (min (u64.wrap ((n:Int)-8)).toNat i64.bits))-1))=((v % 2 ^ (n-8):Nat):Int):=by
        rw [e,C5s (by omega),C5q (by omega) (by omega),Nat.and_two_pow_sub_one_eq_mod]
      have e2:u8.wrap ((v:Int).fdiv (2 ^ (min (u64.wrap ((n:Int)-8)).toNat i64.bits)))=((v / 2 ^ (n-8):Nat):Int):=by
        rw [e,E0h (by omega),Int.fdiv_eq_ediv_of_nonneg _ (by rw [C5r];omega),C5r,<- Int.natCast_ediv,C9t];refine Nat.div_lt_of_lt_mul ?_;rw [show n=(n-8)+8 by omega,Nat.pow_add] at hv;exact hv
      have e3:v / 2 ^ (n-8)<256:=by
        refine Nat.div_lt_of_lt_mul ?_;rw [show n=(n-8)+8 by omega,Nat.pow_add] at hv;exact hv
      obtain ⟨v',n',i1,i2,i3,i4,i5⟩:=F0K k (v % 2 ^ (n-8)) (n-8) (Nat.mod_lt _ h0) (by omega) (by omega);have hge:(n:Int)>=8:=by omega
      have hd:dr (k+1) (v:Int) (n:Int)=((dr k ((v % 2 ^ (n-8):Nat):Int) ((n-8:Nat):Int)).1,(dr k ((v % 2 ^ (n-8):Nat):Int) ((n-8:Nat):Int)).2.1,((v / 2 ^ (n-8):Nat):Int)::(dr k ((v % 2 ^ (n-8):Nat):Int) ((n-8:Nat):Int)).2.2):=by
        simp only [dr,if_pos hge];rw [e1,e2,e]
      rw [hd];refine ⟨v',n',i1,i2,i3,?_,?_⟩
      · intro x hx
        rcases List.mem_cons.1 hx with rfl | hx
        · generalize v / 2 ^ (n-8)=y at e3
          omega
        · exact i4 x hx
      · simp only []
        rw [A3G,List.append_assoc,i5,Int.toNat_natCast,A6f (n-8) (n-8) v (Nat.le_refl _),<- B5u 8 (n-8) v]
        congr 1
        omega
    · have hge:¬ (n:Int)>=8:=by omega
      refine ⟨v,n,?_,?_,hv,?_,?_⟩
      · simp only [dr,if_neg hge]
      · simp only [dr,if_neg hge]
      · simp only [dr,if_neg hge]
        intro x hx;cases hx
      · simp only [dr,if_neg hge]
        rfl
def E3W(s:X0):Nat->List Nat
  | 0=> []
  | k+1=>E3W s k ++ [(bt s k).toNat]
theorem E0i(s:X0)(k:Nat):leA s k=((leN (bt s k).toNat:Nat):Int):=by
  have:=E3U (C8V s k);simp only [leA,leN];omega
theorem F6t(s:X0)(k:Nat):coA s k=((coN (bt s k).toNat:Nat):Int):=by
  have:=F0J (C8V s k);simp only [coA,coN];omega
theorem E3a(s:X0):∀ k:Nat,∃ v n:Nat,(hst s k).1=v/\(hst s k).2.1=n/\v<2 ^ n/\n<8/\Byt (hst s k).2.2/\E5 (hst s k).2.2++J8 n v=A0L (E3W s k)
  | 0=>⟨0,0,rfl,rfl,by decide,by omega,(fun x hx=>by cases hx),rfl⟩
  | k+1=>by
    obtain ⟨v,n,h1,h2,h3,h4,h5,h6⟩:=E3a s k;have hl:=D2A s k;have hf:=(F0J (C8V s k)).2;rw [E0i] at hl;have hle:leN (bt s k).toNat<=30:=by omega
    generalize hL:leN (bt s k).toNat=L at *
    generalize hC:coN (bt s k).toNat=C at *
    have hp:v*2 ^ L+C<2 ^ (n+L):=by
      rw [Nat.pow_add];have:v*2 ^ L+2 ^ L<=2 ^ n*2 ^ L:=by rw [<- Nat.succ_mul];exact Nat.mul_le_mul_right _ h3
      omega
    have hq:2 ^ (n+L)<=2 ^ 38:=D3a (by omega);have hq':(2:Nat) ^ 38=274877906944:=by decide
    have e1:bOr .i64 (i64.wrap ((hst s k).1*2 ^ (min (u64.wrap (leA s k)).toNat i64.bits))) (coA s k)=((v*2 ^ L+C:Nat):Int):=by
      rw [h1,E0i,F6t,hL,hC,E3V (by omega) (by omega),E0g (by omega) (by omega),Nat.mul_comm v,Nat.two_pow_add_eq_or_of_lt hf]
    obtain ⟨v',n',i1,i2,i3,i4,i5⟩:=F0K 5 (v*2 ^ L+C) (n+L) hp (by omega) (by omega);have e2:(hst s k).2.1+leA s k=((n+L:Nat):Int):=by rw [h2,E0i,hL];omega
    have h7:=F0D s (k+1);simp only [hst,e1,e2] at h7;refine ⟨v',n',?_,?_,i3,?_,?_,?_⟩
    · simp only [hst,e1,e2];exact i1
    · simp only [hst,e1,e2];exact i2
    · omega
    · simp only [hst,e1,e2]
      intro x hx;rcases List.mem_append.1 hx with q | q
      · exact h5 x q
      · exact i4 x q
    · simp only [hst,e1,e2]
      rw [C5o,List.append_assoc,i5,B5u n L];have a1:(v*2 ^ L+C) / 2 ^ L=v:=by
        rw [Nat.mul_comm,Nat.mul_add_div (Nat.two_pow_pos L),Nat.div_eq_of_lt hf,Nat.add_zero]
      have a2:J8 L (v*2 ^ L+C)=J8 L C:=by
        rw [<- A6f L L (v*2 ^ L+C) (Nat.le_refl _),Nat.mul_comm,Nat.mul_add_mod,A6f L L C (Nat.le_refl _)]
      rw [a1,a2,<- List.append_assoc,h6];simp only [E3W,C9s]
      congr 1
      simp only [A0L,List.flatMap_cons,List.flatMap_nil,List.append_nil,cod,hL,hC]
theorem D3b(s:X0):Byt (C9p s)/\∃ p,p<8/\E5 (C9p s)=A0L (E3W s s.size)++List.replicate p true:=by
  obtain ⟨v,n,h1,h2,h3,h4,h5,h6⟩:=E3a s s.size;unfold C9p;by_cases h:(hst s s.size).2.1>0
  · rw [if_pos h]
    have hn:0<n:=by omega
    have e1:i64.wrap (8-(hst s s.size).2.1)=((8-n:Nat):Int):=by rw [h2,w64 (by omega) (by omega)];omega
    have hp:v*2 ^ (8-n)+(2 ^ (8-n)-1)<2 ^ (n+(8-n)):=by
      rw [Nat.pow_add];have:v*2 ^ (8-n)+2 ^ (8-n)<=2 ^ n*2 ^ (8-n):=by rw [<- Nat.succ_mul];exact Nat.mul_le_mul_right _ h3
      have:=Nat.two_pow_pos (8-n);omega
    rw [show n+(8-n)=8 by omega] at hp;have hq:2 ^ (8-n)<=2 ^ 8:=D3a (by omega);have h0:=Nat.two_pow_pos (8-n);have hm:v*2 ^ (8-n)<256:=by omega
    rw [e1,h1,C5s (by omega),E3V (by omega) (by omega),E0g (by omega) (by omega),Nat.mul_comm v,<- Nat.two_pow_add_eq_or_of_lt (show 2 ^ (8-n)-1<2 ^ (8-n) by omega),Nat.mul_comm _ v,C9t hp];refine ⟨fun x hx=>?_,8-n,by omega,?_⟩
    · rcases List.mem_append.1 hx with q | q
      · exact h5 x q
      · rcases List.mem_singleton.1 q with rfl
        omega
    · rw [C5o,E0f,Int.toNat_natCast,show (8:Nat)=n+(8-n) by omega,B5u n (8-n)]
      rw [show n+(8-n)-n=8-n by omega];have a1:(v*2 ^ (8-n)+(2 ^ (8-n)-1)) / 2 ^ (8-n)=v:=by
        rw [Nat.mul_comm,Nat.mul_add_div h0,Nat.div_eq_of_lt (by omega),Nat.add_zero]
      have a2:J8 (8-n) (v*2 ^ (8-n)+(2 ^ (8-n)-1))=List.replicate (8-n) true:=by
        rw [<- A6f (8-n) (8-n) _ (Nat.le_refl _),Nat.mul_comm,Nat.mul_add_mod,A6f (8-n) (8-n) _ (Nat.le_refl _),B81 _ _ (Nat.le_refl _)]
      rw [a1,a2,<- List.append_assoc,h6]
  · rw [if_neg h]
    refine ⟨h5,0,by omega,?_⟩;have:n=0:=by omega
    subst this;simpa [J8] using h6
set_option maxRecDepth 100000
def fdC:Nat->Nat->Int->Int->Option Nat
  | 0,_,_,_=>none
  | k+1,i,c,n=>if codesT.getD i 0=c/\lensT.getD i 0=n then some i else fdC k (i+1) c n
theorem D3c:∀ (k i:Nat) (c n:Int) (j:Nat),fdC k i c n=some j->i<=j/\j<i+k/\codesT.getD j 0=c/\lensT.getD j 0=n
  | 0,_,_,_,_,h=>by cases h
  | k+1,i,c,n,j,h=>by
    unfold fdC at h;by_cases hc:codesT.getD i 0=c/\lensT.getD i 0=n
    · rw [if_pos hc] at h
      injection h with h
      subst h;exact ⟨Nat.le_refl _,by omega,hc⟩
    · rw [if_neg hc] at h
      have:=D3c k (i+1) c n j h;omega
def B0G(c n:Nat):Option Nat:=fdC 257 0 (c:Int) (n:Int)
theorem B82{c n j:Nat}(h:B0G c n=some j):j<257/\coN j=c/\leN j=n:=by
  obtain ⟨h1,h2,h3,h4⟩:=D3c _ _ _ _ _ h;refine ⟨by omega,?_,?_⟩
  · simp only [coN,h3];omega
  · simp only [leN,h4];omega
theorem F1e{c n:Nat}(h:B0G c n=some 256):n=30:=by
  have:=(B82 h).2.2;have e:leN 256=30:=by kernel_rfl
  omega
abbrev RdS:=Nat×Nat×List Int
def U4(st:RdS)(x:Bool):Option RdS:=
  if st.2.1+1>30 then none else match B0G (2*st.1+x.toNat) (st.2.1+1) with
  | some j=>if j<256 then some (0,0,st.2.2 ++ [(j:Int)]) else some (2*st.1+x.toNat,st.2.1+1,st.2.2)
  | none=>some (2*st.1+x.toNat,st.2.1+1,st.2.2)
def R0(st:RdS)(x:Bool):Option RdS:=
  match B0G (2*st.1+x.toNat) (st.2.1+1) with
  | some j=>if j=256 then none else if st.2.1+1>30 then none else some (0,0,st.2.2 ++ [(j:Int)])
  | none=>if st.2.1+1>30 then none else some (2*st.1+x.toNat,st.2.1+1,st.2.2)
def V7(f:RdS->Bool->Option RdS):List Bool->RdS->RdS×Bool
  | [],st=>(st,false)
  | x::xs,st=>match f st x with
    | some st'=>V7 f xs st'
    | none=>(st,true)
theorem E3b(f:RdS->Bool->Option RdS):∀ (xs ys:List Bool) (st:RdS),V7 f (xs++ys) st=bif (V7 f xs st).2 then V7 f xs st else V7 f ys (V7 f xs st).1
  | [],ys,st=>by simp [V7]
  | x::xs,ys,st=>by
    simp only [List.cons_append,V7];cases f st x with
    | none=>rfl
    | some st'=>exact E3b f xs ys st'
def C0F(l:List Int):List Nat:=l.map Int.toNat
theorem D3d(n v:Nat)(x:Bool):J8 (n+1) (2*v+x.toNat)=J8 n v ++ [x]:=by
  rw [B5u n 1];cases x<;>simp [J8,Nat.testBit_zero]<;>(try (congr 1;omega))<;>omega
def RdI(done:List Bool)(st:RdS):Prop:=st.1<2 ^ st.2.1/\st.2.1<=30/\Byt st.2.2/\A0L (C0F st.2.2)++J8 st.2.1 st.1=done
theorem F4s{done:List Bool}{st:RdS}(h:RdI done st)(x:Bool)(h30:st.2.1+1<=30):RdI (done ++ [x]) (2*st.1+x.toNat,st.2.1+1,st.2.2):=by
  obtain ⟨h1,h2,h3,h4⟩:=h;refine ⟨?_,h30,h3,?_⟩
  · simp only [Nat.pow_succ]
    have:x.toNat<=1:=by cases x<;>simp
    omega
  · simp only [D3d]
    rw [<- List.append_assoc,h4]
theorem F6u{done:List Bool}{st:RdS}(h:RdI done st)(x:Bool){j:Nat}(hj:B0G (2*st.1+x.toNat) (st.2.1+1)=some j)(h2:j<256):RdI (done ++ [x]) (0,0,st.2.2 ++ [(j:Int)]):=by
  obtain ⟨h1,h30,h3,h4⟩:=h;obtain ⟨e1,e2,e3⟩:=B82 hj;refine ⟨by simp,by simp,?_,?_⟩
  · intro y hy
    rcases List.mem_append.1 hy with q | q
    · exact h3 y q
    · rcases List.mem_singleton.1 q with rfl
      omega
  · simp only [C0F,List.map_append,C9s,J8,List.append_nil]
    rw [show A0L (List.map Int.toNat [(j:Int)])=J8 (st.2.1+1) (2*st.1+x.toNat) by simp [A0L,cod,e2,e3],D3d,<- List.append_assoc];exact congrArg (· ++ [x]) h4
theorem C5t:∀ (xs done:List Bool) (st:RdS),RdI done st->
    ((V7 R0 xs st).2=false/\V7 U4 xs st=V7 R0 xs st/\RdI (done++xs) (V7 R0 xs st).1)\/
    ((V7 R0 xs st).2=true/\((V7 U4 xs st).2=true\/(V7 U4 xs st).1.2.1>=30)/\(A0L (C0F (V7 R0 xs st).1.2.2)).length+30<=(done++xs).length/\Byt (V7 R0 xs st).1.2.2)
  | [],done,st,h=>.inl ⟨rfl,rfl,by simpa [V7] using h⟩
  | x::xs,done,st,h=>by
    have hd:done++x::xs=(done ++ [x])++xs:=by simp
    have hlen:(A0L (C0F st.2.2)).length+st.2.1=done.length:=by
      have:=congrArg List.length h.2.2.2;rw [List.length_append,A0f] at this;exact this
    have hlost:∀ (ys:List Bool) (s:RdS),s.2.1>=30->(V7 U4 ys s).2=true\/(V7 U4 ys s).1.2.1>=30:=fun ys s hs=>by
      cases ys with
      | nil=>exact .inr hs
      | cons y ys=>
        left;simp only [V7];have:U4 s y=none:=by unfold U4;rw [if_pos (by omega)]
        rw [this]
    rw [hd];by_cases h30:st.2.1+1>30
    · right
      have e1:U4 st x=none:=by unfold U4;rw [if_pos h30]
      have e2:R0 st x=none:=by
        unfold R0;cases B0G (2*st.1+x.toNat) (st.2.1+1) with
        | none=>simp only [];rw [if_pos h30]
        | some j=>simp only [if_pos h30];split<;>rfl
      simp only [V7,e1,e2];exact ⟨trivial,.inl trivial,by simp only [List.length_append,List.length_singleton];omega,h.2.2.1⟩
    · cases hj:B0G (2*st.1+x.toNat) (st.2.1+1) with
      | none=>
        have e1:U4 st x=some (2*st.1+x.toNat,st.2.1+1,st.2.2):=by simp only [U4,if_neg h30,hj]
        have e2:R0 st x=some (2*st.1+x.toNat,st.2.1+1,st.2.2):=by simp only [R0,if_neg h30,hj]
        simp only [V7,e1,e2];exact C5t xs _ _ (F4s h x (by omega))
      | some j=>
        by_cases h256:j<256
        · have e1:U4 st x=some (0,0,st.2.2 ++ [(j:Int)]):=by simp only [U4,if_neg h30,hj,if_pos h256]
          have e2:R0 st x=some (0,0,st.2.2 ++ [(j:Int)]):=by simp only [R0,if_neg h30,hj,if_neg (show ¬ j=256 by omega)]
          simp only [V7,e1,e2];exact C5t xs _ _ (F6u h x hj h256)
        · have hj':j=256:=by have:=(B82 hj).1;omega
          subst hj';have e0:=F1e hj;right;have e1:U4 st x=some (2*st.1+x.toNat,st.2.1+1,st.2.2):=by simp only [U4,if_neg h30,hj,if_neg h256]
          have e2:R0 st x=none:=by simp only [R0,hj,if_true]
          simp only [V7,e1,e2];exact ⟨trivial,hlost xs _ (by simp only;omega),by simp only [List.length_append,List.length_singleton];omega,h.2.2.1⟩
theorem F4t{l:List Int}(hl:Byt l){k:Nat}(hk:k<l.length):bt (strOf l) (k:Int)=l[k]:=by
  have hb:=hl _ (List.getElem_mem hk);unfold bt strOf strOfNums;simp [List.getD,hk];omega
theorem D3e{l:List Int}(hl:Byt l):∀ k,k<=l.length->E3W (strOf l) k=(C0F l).take k
  | 0,_=>by simp [E3W]
  | k+1,h=>by
    rw [E3W,D3e hl k (by omega),F4t hl (by omega),List.take_succ_eq_append_getElem (show k<(C0F l).length by simp [C0F];omega)];simp [C0F]
theorem F4u{l:List Int}(hl:Byt l):E3W (strOf l) (strOf l).size=C0F l:=by
  rw [A8p,D3e hl _ (Nat.le_refl _),List.take_of_length_le (by simp [C0F])]
def unH(b:List Int):List Int:=(V7 R0 (E5 b) (0,0,[])).1.2.2
def B31(b:List Int):RdS×Bool:=V7 U4 (E5 b) (0,0,[])
def C1u(b:List Int):Bool:=!(B31 b).2&&decide ((B31 b).1.2.1<=7)&&decide ((B31 b).1.1=2 ^ (B31 b).1.2.1-1)
theorem F0L(b:List Int):Byt (unH b):=by
  rcases C5t (E5 b) [] (0,0,[]) ⟨by simp,by simp,(fun x hx=>by cases hx),by simp [C0F,A0L,J8]⟩ with ⟨_,_,h⟩ | ⟨_,_,_,h⟩
  · exact h.2.2.1
  · exact h
theorem F0M(b:List Int):5*(unH b).length<=8*b.length:=by
  have hs:∀ l:List Int,Byt l->5*l.length<=(A0L (C0F l)).length:=by
    intro l
    induction l with
    | nil=>intro _;simp
    | cons x l ih=>
      intro hb;have h1:=ih fun y hy=>hb y (List.mem_cons_of_mem _ hy)
      have h2:=hb x List.mem_cons_self;have h3:=E3U (show x.toNat<257 by omega);simp only [C0F,List.map_cons,A0L,List.flatMap_cons,List.length_append,List.length_cons,cod,A0f,leN] at h1 ⊢;omega
  have hb:=F0L b;have h1:=hs _ hb;have h2:=S7 b;rcases C5t (E5 b) [] (0,0,[]) ⟨by simp,by simp,(fun x hx=>by cases hx),by simp [C0F,A0L,J8]⟩ with ⟨_,_,h⟩ | ⟨_,_,h,_⟩
  · have:=congrArg List.length h.2.2.2
    rw [List.length_append] at this;simp only [List.nil_append] at this;unfold unH at h1 ⊢;omega
  · simp only [List.nil_append] at h
    unfold unH at h1 ⊢;omega
theorem F4v(b:List Int)(hb:Byt b):(C9p (strOf (unH b))=b↔C1u b=true)/\(C1u b=true->(B31 b).1.2.2=unH b):=by
  have hu:=F0L b;obtain ⟨c1,p,c2,c3⟩:=D3b (strOf (unH b));rw [F4u hu] at c3;have hl:=S7 b;rcases C5t (E5 b) [] (0,0,[]) ⟨by simp,by simp,(fun x hx=>by cases hx),by simp [C0F,A0L,J8]⟩ with ⟨h1,h2,h3⟩ | ⟨h1,h2,h3,h4⟩
  · obtain ⟨i1,i2,i3,i4⟩:=h3
    simp only [List.nil_append] at i4;have e:B31 b=V7 R0 (E5 b) (0,0,[]):=h2;have e2:(B31 b).2=false:=by rw [e];exact h1
    refine ⟨⟨fun hq=>?_,fun hq=>?_⟩,fun _=>by rw [e];rfl⟩
    · rw [hq,<- i4] at c3
      have c4:J8 _ _=List.replicate p true:=List.append_cancel_left (show A0L (C0F (unH b))++_=A0L (C0F (unH b))++_ from c3);have c5:=congrArg List.length c4;rw [A0f,List.length_replicate] at c5;unfold C1u;rw [e2,e,c5];have c6:J8 p (V7 R0 (E5 b) (0,0,[])).1.1=J8 p (2 ^ p-1):=by
        rw [B81 p p (Nat.le_refl _),<- c4,c5]
      have c7:=C8a p _ _ (by rw [<- c5];exact i1) (by have:=Nat.two_pow_pos p;omega) c6;simp only [Bool.not_false,Bool.true_and,Bool.and_eq_true,decide_eq_true_eq];exact ⟨by omega,c7⟩
    · unfold C1u at hq
      rw [e2,e] at hq;simp only [Bool.not_false,Bool.true_and,Bool.and_eq_true,decide_eq_true_eq] at hq;obtain ⟨q1,q2⟩:=hq;refine C5p c1 hb ?_;rw [c3,<- i4];have hn:(V7 R0 (E5 b) (0,0,[])).1.2.1=p:=by
        have d1:=congrArg List.length c3;have d2:=congrArg List.length i4;rw [S7,List.length_append,List.length_replicate] at d1;rw [List.length_append,A0f,hl] at d2;unfold unH at d1;omega
      rw [q2,hn,B81 p p (Nat.le_refl _)];rfl
  · have hno:C1u b=false:=by
      unfold C1u;rcases h2 with h2 | h2
      · rw [show (B31 b).2=true from h2];rfl
      · rw [show decide ((B31 b).1.2.1<=7)=false from A1 (by have:(B31 b).1.2.1>=30:=h2;omega)];simp
    refine ⟨⟨fun hq=>?_,fun hq=>by rw [hno] at hq;cases hq⟩,fun hq=>by rw [hno] at hq;cases hq⟩;exfalso;have d1:=congrArg List.length c3;rw [hq,hl,List.length_append,List.length_replicate] at d1;simp only [List.nil_append] at h3;unfold unH at d1;omega
set_option maxRecDepth 100000
def F7I:List ((Int×Int)×Int):=(List.range 257).map fun k=>((codesT.getD k 0,lensT.getD k 0),(k:Int))
theorem F1f:mkM (codesT.zip lensT) 257=F7I:=by kernel_rfl
theorem D8s(c n:Int):∀ (k i j:Nat),fdM ((List.range' i k).map fun q=>((codesT.getD q 0,lensT.getD q 0),(q:Int))) (c,n) j=(fdC k i c n).map fun (q:Nat)=>(j+(q-i),(q:Int))
  | 0,i,j=>rfl
  | k+1,i,j=>by
    rw [List.range'_succ,List.map_cons,fdM,fdC];by_cases h:codesT.getD i 0=c/\lensT.getD i 0=n
    · rw [if_pos ⟨h.1.symm,h.2.symm⟩,if_pos h]
      simp
    · rw [if_neg (fun e=>h ⟨e.1.symm,e.2.symm⟩),if_neg h,D8s c n k (i+1) (j+1)]
      cases hq:fdC k (i+1) c n with
      | none=>rfl
      | some q=>
        have:=(D3c k (i+1) c n q hq).1;simp only [Option.map_some,Option.some.injEq,Prod.mk.injEq,and_true];omega
theorem D8t(c n:Nat):fdM (mkM (codesT.zip lensT) 257) ((c:Int),(n:Int)) 0=(B0G c n).map fun (q:Nat)=>(q,(q:Int)):=by
  rw [F1f,F7I,List.range_eq_range',D8s];unfold B0G;cases fdC 257 0 (c:Int) (n:Int)<;>simp
theorem F1g(c n:Nat):lkO (mkM (codesT.zip lensT) 257) ((c:Int),(n:Int))=(B0G c n).isSome:=by
  unfold lkO;rw [D8t];cases B0G c n<;>rfl
theorem F1h{c n j:Nat}(h:B0G c n=some j):lkV (mkM (codesT.zip lensT) 257) ((c:Int),(n:Int))=(j:Int):=by
  unfold lkV;rw [D8t,h];rfl
theorem F4w{x:Nat}(h:x<9223372036854775808):N8 .i64 (x:Int) 1=(((x.testBit 0).toNat:Nat):Int):=by
  rw [show (1:Int)=((1:Nat):Int) from rfl,C5q h (by omega)]
  congr 1
  rw [Nat.and_one_is_mod,Nat.testBit_zero];rcases Nat.mod_two_eq_zero_or_one x with e | e<;>simp [e]
theorem F50{x k:Nat}(h:x<256):((x:Int).fdiv (2 ^ k))=((x / 2 ^ k:Nat):Int):=by
  rw [Int.fdiv_eq_ediv_of_nonneg _ (by rw [C5r];exact Int.natCast_nonneg _),C5r,<- Int.natCast_ediv]
theorem F51{x k:Nat}(h:x<256)(hk:k<8):N8 .i64 (((x:Int).fdiv (2 ^ (min (u64.wrap (k:Int)).toNat i64.bits)))) 1=(((x.testBit k).toNat:Nat):Int):=by
  rw [E0h (by omega),F50 h,F4w (Nat.lt_of_le_of_lt (Nat.div_le_self _ _) (by omega)),Nat.testBit_div_two_pow,Nat.zero_add]
theorem F52{v n:Nat}(hv:v<2 ^ n)(hn:n<=30)(x:Bool):bOr .i64 (i64.wrap ((v:Int)*2)) ((x.toNat:Nat):Int)=((2*v+x.toNat:Nat):Int):=by
  have h1:=p62 (show n<=62 by omega);have h2:2 ^ n<=2 ^ 30:=D3a hn;have h3:(2:Nat) ^ 30=1073741824:=by decide
  have h4:x.toNat<2 ^ 1:=by cases x<;>simp
  rw [show (v:Int)*2=((v*2:Nat):Int) by omega,w64 (by omega) (by omega),E0g (by omega) (by cases x<;>simp),Nat.mul_comm v]
  congr 1
  have:=Nat.two_pow_add_eq_or_of_lt h4 v;simpa using this.symm
def RdG(st:RdS):Prop:=st.1<2 ^ st.2.1/\st.2.1<=30
theorem D3f{st st':RdS}{x:Bool}(h:RdG st)(e:R0 st x=some st'):RdG st'/\st'.2.2.length<=st.2.2.length+1:=by
  unfold R0 at e;have hx:x.toNat<=1:=by cases x<;>simp
  have hp:2*st.1+x.toNat<2 ^ (st.2.1+1):=by have:=h.1;rw [Nat.pow_succ];omega
  cases hj:B0G (2*st.1+x.toNat) (st.2.1+1) with
  | none=>
    rw [hj] at e;by_cases h30:st.2.1+1>30
    · simp only [if_pos h30] at e;cases e
    · simp only [if_neg h30,Option.some.injEq] at e
      subst e;exact ⟨⟨hp,by simp only;omega⟩,by simp⟩
  | some j=>
    rw [hj] at e;by_cases h256:j=256
    · simp only [if_pos h256] at e;cases e
    · by_cases h30:st.2.1+1>30
      · simp only [if_neg h256,if_pos h30] at e;cases e
      · simp only [if_neg h256,if_neg h30,Option.some.injEq] at e
        subst e;exact ⟨⟨by simp,by simp⟩,by simp⟩
theorem C8b(a:List Int)(j:Nat)(x:Nat)(hx:x<256)(hj:rd (.int .u8) a (j:Int)=(x:Int))(q1 q2:Int)(q3:List Int):∀ (k:Nat) (st:RdS),k<=8->RdG st->st.2.2.length+k<=1000000000000->j<1000000000000->
    C3 (B1Q (codesT.zip lensT) a ((j:Int),q1,q2,q3,())) ((k:Int)-1,(st.1:Int),(st.2.1:Int),st.2.2,()) =
      (if (V7 R0 (J8 k x) st).2 then some (.inr (.inr (strOf (V7 R0 (J8 k x) st).1.2.2,()))) else some (.inl (((j+1:Nat):Int),((V7 R0 (J8 k x) st).1.1:Int),((V7 R0 (J8 k x) st).1.2.1:Int),(V7 R0 (J8 k x) st).1.2.2,())))
  | 0,st,_,_,_,hj2=>by
    rw [C8];have h:¬ ((0:Nat):Int)-1>=0:=by omega
    simp only [B1Q,A1 h,cond_false,J8,V7];rw [w64 (n:=(j:Int)+1) (by omega) (by omega),show (j:Int)+1=((j+1:Nat):Int) by omega];rfl
  | k+1,st,h8,hg,hl,hj2=>by
    rw [C8];have e0:((k+1:Nat):Int)-1=(k:Int):=by omega
    have h0:(k:Int)>=0:=by omega
    have e1:i64.wrap (x:Int)=(x:Int):=w64 (by omega) (by omega);have e2:=F51 hx (show k<8 by omega);have e3:=F52 hg.1 hg.2 (x.testBit k);have e4:i64.wrap ((st.2.1:Int)+1)=((st.2.1+1:Nat):Int):=by have:=hg.2;rw [w64 (by omega) (by omega)];omega
    have e5:i64.wrap ((k:Int)-1)=(k:Int)-1:=w64 (by omega) (by omega);rw [e0];simp only [B1Q,A0 h0,cond_true,A1 (u64_nonneg _),cond_false,hj,e1,e2,e3,e4,e5,F1g];simp only [J8,V7];cases hs:B0G (2*st.1+(x.testBit k).toNat) (st.2.1+1) with
    | none=>
      simp only [Option.isSome_none,cond_false];by_cases h30:st.2.1+1>30
      · have d1:((st.2.1+1:Nat):Int)>30:=by omega
        have e6:R0 st (x.testBit k)=none:=by unfold R0;rw [hs];simp only [if_pos h30]
        rw [e6];simp only [A0 d1,cond_true,D7,if_true]
      · have d1:¬ ((st.2.1+1:Nat):Int)>30:=by omega
        have e6:R0 st (x.testBit k)=some (2*st.1+(x.testBit k).toNat,st.2.1+1,st.2.2):=by unfold R0;rw [hs];simp only [if_neg h30]
        have hg2:=D3f hg e6;rw [e6];simp only [A1 d1,cond_false,D7];exact C8b a j x hx hj q1 q2 q3 k _ (by omega) hg2.1 (by simp only;omega) hj2
    | some s=>
      have e7:=F1h hs;have hlt:=(B82 hs).1;simp only [Option.isSome_some,cond_true,e7];by_cases h256:s=256
      · have d1:(s:Int)=256:=by omega
        have e6:R0 st (x.testBit k)=none:=by unfold R0;rw [hs];simp only [if_pos h256]
        rw [e6];simp only [A0 d1,cond_true,D7,if_true]
      · have d1:¬ (s:Int)=256:=by omega
        by_cases h30:st.2.1+1>30
        · have d2:((st.2.1+1:Nat):Int)>30:=by omega
          have e6:R0 st (x.testBit k)=none:=by unfold R0;rw [hs];simp only [if_neg h256,if_pos h30]
          rw [e6];simp only [A1 d1,A0 d2,cond_true,cond_false,D7,if_true]
        · have d2:¬ ((st.2.1+1:Nat):Int)>30:=by omega
          have e6:R0 st (x.testBit k)=some (0,0,st.2.2 ++ [(s:Int)]):=by unfold R0;rw [hs];simp only [if_neg h256,if_neg h30]
          have hg2:=D3f hg e6;rw [e6];simp only [A1 d1,A1 d2,cond_false,D7,C9t (show s<256 by omega)];rw [gA (by simp;omega)];exact C8b a j x hx hj q1 q2 q3 k _ (by omega) hg2.1 (by simp only [List.length_append,List.length_singleton];omega) hj2
theorem D3g(f:RdS->Bool->Option RdS)(hf:∀ st x st',RdG st->f st x=some st'->RdG st'/\st'.2.2.length<=st.2.2.length+1):∀ (xs:List Bool) (st:RdS),RdG st->RdG (V7 f xs st).1/\(V7 f xs st).1.2.2.length<=st.2.2.length+xs.length
  | [],st,h=>⟨h,by simp [V7]⟩
  | x::xs,st,h=>by
    simp only [V7];cases e:f st x with
    | none=>exact ⟨h,by simp only [List.length_cons];omega⟩
    | some st'=>
      have h1:=hf _ _ _ h e;have h2:=D3g f hf xs st' h1.1;exact ⟨h2.1,by simp only [List.length_cons];omega⟩
theorem D3h(a:List Int)(ha:Byt a)(hl:a.length<=1000000000):∀ (k j:Nat) (st:RdS),j+k=a.length->RdG st->st.2.2.length+8*k<=100000000000->
    C3 (A7N a (codesT.zip lensT)) ((j:Int),(st.1:Int),(st.2.1:Int),st.2.2,()) =
      (if (V7 R0 (E5 (a.drop j)) st).2 then some (.inr (strOf (V7 R0 (E5 (a.drop j)) st).1.2.2,())) else some (.inl ((V7 R0 (E5 (a.drop j)) st).1.2.2,())))
  | 0,j,st,hj,hg,hlen=>by
    rw [C8];have h:¬ (j:Int)<(a.length:Int):=by omega
    simp only [A7N,A1 h,cond_false];rw [List.drop_eq_nil_of_le (by omega)];rfl
  | k+1,j,st,hj,hg,hlen=>by
    rw [C8];have h:(j:Int)<(a.length:Int):=by omega
    have h0:(0:Int)<=(j:Int):=by omega
    have hx:=ha _ (List.getElem_mem (show j<a.length by omega));have hr:rd (.int .u8) a (j:Int)=((a[j].toNat:Nat):Int):=by rw [C0B (show j<a.length by omega)];exact (Int.toNat_of_nonneg hx.1).symm
    simp only [A7N,A0 h,A0 h0,cond_true];have e:=C8b a j a[j].toNat (by omega) hr (st.1:Int) (st.2.1:Int) st.2.2 8 st (by omega) hg (by omega) (by omega);rw [show ((8:Nat):Int)-1=7 from rfl] at e;rw [e];have hd:E5 (a.drop j)=J8 8 a[j].toNat++E5 (a.drop (j+1)):=by rw [List.drop_eq_getElem_cons (show j<a.length by omega),A3G]
    rw [hd,E3b];have hg2:=D3g R0 (fun st x st' h e=>D3f h e) (J8 8 a[j].toNat) st hg;rw [A0f] at hg2;cases hs:(V7 R0 (J8 8 a[j].toNat) st).2 with
    | true=>simp only [if_true,hs,cond_true]
    | false=>
      simp only [Bool.false_eq_true,if_false,cond_false];exact D3h a ha hl k (j+1) _ (by omega) hg2.1 (by omega)
theorem E3c(a:List Int)(ha:Byt a)(hl:a.length<=1000000000):B2h (codesT.zip lensT) a=some (strOf (unH a),()):=by
  have h257:(codesT.zip lensT).length=257:=by rw [List.length_zip,A6J,A13];rfl
  simp only [B2h,C4F,A0 h257,cond_true];have e:=D3h a ha hl a.length 0 (0,0,[]) (by omega) ⟨by simp,by simp⟩ (by simp;omega);have e':C3 (A7N a (codesT.zip lensT)) (0,0,0,[],())=_:=e;rw [e',List.drop_zero];cases hs:(V7 R0 (E5 a) (0,0,[])).2 with
  | true=>simp only [if_true,D7];rfl
  | false=>simp only [Bool.false_eq_true,if_false,D7];rfl
theorem F1i{a b:List Int}(ha:Byt a)(hb:Byt b):((strOf a).toList == (strOf b).toList)=decide (a=b):=by
  by_cases h:a=b
  · subst h;simp
  · rw [A1 h]
    cases hq:((strOf a).toList == (strOf b).toList) with
    | false=>rfl
    | true=>exact absurd (F1S ha hb (by simpa using hq)) h
def A2g(a:List Int):X0×Bool×Unit:=if C1u a=true then (strOf (unH a),true,()) else (⟨#[]⟩,false,())
theorem E3d(a:List Int)(ha:Byt a)(hl:a.length<=500000000):B2i a=some (A2g a):=by
  have hz:(strOf (unH a)).size<=1000000000000:=by rw [A8p];have:=F0M a;omega
  have hu:=F0M a;simp only [B2i,C4G,E0a,E3c a ha (by omega),bO];rw [F1a _ [] (by simp) (by rw [A8p];omega)];simp only [bO,List.nil_append,A97,B58];rw [F1i (D3b _).1 ha];have h:=(F4v a ha).1;unfold A2g;by_cases hq:C1u a=true
  · rw [if_pos hq,A0 (h.2 hq)];rfl
  · rw [if_neg hq,A1 (fun e=>hq (h.1 e))];rfl
set_option maxRecDepth 100000
def byN(b:List Int)(p:Nat):Nat:=(b.getD p 0).toNat
def gpN(b:List Int)(p n i:Nat):Nat:=n+byN b p % 128*2 ^ (7*i)
def gpL(b:List Int):Nat->Nat->Nat->Nat->Int×Int×Bool×Unit
  | 0,_,_,_=>(0,0,false,())
  | k+1,p,n,i=>if p<b.length then (if byN b p<128 then (if gpN b p n i>16777216 then (0,0,false,()) else ((gpN b p n i:Int),((p+1:Nat):Int),true,())) else gpL b k (p+1) (gpN b p n i) (i+1)) else (0,0,false,())
def A9(b:List Int)(p m:Nat):Int×Int×Bool×Unit:=
  if p<b.length then (if byN b p % 2 ^ m<2 ^ m-1 then (((byN b p % 2 ^ m:Nat):Int),((p+1:Nat):Int),true,()) else gpL b 4 (p+1) (byN b p % 2 ^ m) 0) else (0,0,false,())
theorem B0d{b:List Int}(hb:Byt b){p:Nat}(h:p<b.length):rd (.int .u8) b (p:Int)=(byN b p:Int)/\byN b p<256:=by
  have h1:=D3P hb p;have e:rd (.int .u8) b (p:Int)=b.getD p 0:=by simp [rd,zd]
  refine ⟨e.trans (show b.getD p 0=(((b.getD p 0).toNat:Nat):Int) by omega),?_⟩;unfold byN;omega
theorem F0N(b:List Int):∀ k p n i,(gpL b k p n i).2.2.1=true->0<=(gpL b k p n i).1/\(gpL b k p n i).1<=16777216/\(p:Int)<(gpL b k p n i).2.1/\(gpL b k p n i).2.1<=b.length
  | 0,_,_,_,h=>by cases h
  | k+1,p,n,i,h=>by
    unfold gpL at h ⊢;by_cases h1:p<b.length
    · rw [if_pos h1] at h ⊢
      by_cases h2:byN b p<128
      · rw [if_pos h2] at h ⊢
        by_cases h3:gpN b p n i>16777216
        · rw [if_pos h3] at h;cases h
        · rw [if_neg h3]
          simp only [];omega
      · rw [if_neg h2] at h ⊢
        have:=F0N b k _ _ _ h;omega
    · rw [if_neg h1] at h;cases h
theorem A06(b:List Int)(p m:Nat)(hm:m<=8)(h:(A9 b p m).2.2.1=true):0<=(A9 b p m).1/\(A9 b p m).1<=16777216/\(p:Int)<(A9 b p m).2.1/\(A9 b p m).2.1<=b.length:=by
  unfold A9 at h ⊢;by_cases h1:p<b.length
  · rw [if_pos h1] at h ⊢
    by_cases h2:byN b p % 2 ^ m<2 ^ m-1
    · rw [if_pos h2]
      have:2 ^ m<=2 ^ 8:=D3a hm;simp only [];omega
    · rw [if_neg h2] at h ⊢
      have:=F0N b _ _ _ _ h;omega
  · rw [if_neg h1] at h;cases h
theorem E0j{x m:Nat}(hx:x<256)(hm:m<=8):N8 .i64 (x:Int) ((2 ^ m-1:Nat):Int)=((x % 2 ^ m:Nat):Int):=by
  have:2 ^ m<=2 ^ 8:=D3a hm;rw [C5q (by omega) (by omega),Nat.and_two_pow_sub_one_eq_mod]
theorem F7J{x:Nat}(hx:x<256):N8 .i64 (x:Int) 127=((x % 128:Nat):Int):=E0j (m:=7) hx (by omega)
theorem F53{b:List Int}{p n i:Nat}(hi:i<4)(hn:n<=255+128 ^ i):gpN b p n i<=255+128 ^ (i+1)/\byN b p % 128*2 ^ (7*i)<=268435456:=by
  have e:2 ^ (7*i)=128 ^ i:=by rw [Nat.pow_mul]
  have h1:byN b p % 128<128:=Nat.mod_lt _ (by omega);have h2:byN b p % 128*128 ^ i<=127*128 ^ i:=Nat.mul_le_mul_right _ (by omega);have h3:128 ^ (i+1)=128 ^ i*128:=Nat.pow_succ ..;have h4:128 ^ i<=128 ^ 3:=Nat.pow_le_pow_right (by omega) (by omega);unfold gpN;rw [e];omega
theorem F7K{b:List Int}(hb:Byt b)(hl:b.length<=500000000):∀ (k p n i:Nat),k+i=4->n<=255+128 ^ i->p<=2000000000->
    (D7 (C3 (A2m b) ((p:Int),(n:Int),(i:Int),())) fun (m3:Unit)=>some (0,0,false,()))=some (gpL b k p n i)
  | 0,p,n,i,hk,hn,hp=>by
    have h:¬ (i:Int)<4:=by omega
    rw [C8];simp only [A2m,A1 h,cond_false,D7,gpL]
  | k+1,p,n,i,hk,hn,hp=>by
    have h:(i:Int)<4:=by omega
    rw [C8];by_cases h1:p<b.length
    · have d1:(p:Int)<(b.length:Int):=by omega
      have d2:(0:Int)<=(p:Int):=by omega
      obtain ⟨e1,e2⟩:=B0d hb h1;have hg:=F53 (b:=b) (p:=p) (show i<4 by omega) hn;have h5:128 ^ (i+1)<=128 ^ 4:=Nat.pow_le_pow_right (by omega) (by omega);have e3:i64.wrap (byN b p:Int)=(byN b p:Int):=w64 (by omega) (by omega);have e4:i64.wrap (7*(i:Int))=((7*i:Nat):Int):=by rw [w64 (by omega) (by omega)];omega
      have e5:=E3V (v:=byN b p % 128) (m:=7*i) (by omega) (by omega);have e6:i64.wrap ((n:Int)+((byN b p % 128*2 ^ (7*i):Nat):Int))=(gpN b p n i:Int):=by
        have e0:(n:Int)+((byN b p % 128*2 ^ (7*i):Nat):Int)=((gpN b p n i:Nat):Int):=by unfold gpN;omega
        rw [e0];exact E3E (by omega)
      have e7:i64.wrap ((p:Int)+1)=((p+1:Nat):Int):=by rw [w64 (by omega) (by omega)];omega
      have e8:i64.wrap ((i:Int)+1)=((i+1:Nat):Int):=by rw [w64 (by omega) (by omega)];omega
      simp only [A2m,A0 h,A0 d1,A0 d2,cond_true,bSl,A1 (u64_nonneg _),cond_false,e1,e3,F7J e2,e4,e5,e6,e7,e8,gpL,if_pos h1];by_cases h2:byN b p<128
      · rw [A0 (show (byN b p:Int)<128 by omega),if_pos h2]
        by_cases h3:gpN b p n i>16777216
        · rw [A0 (show (gpN b p n i:Int)>16777216 by omega),if_pos h3];rfl
        · rw [A1 (show ¬ (gpN b p n i:Int)>16777216 by omega),if_neg h3];rfl
      · rw [A1 (show ¬ (byN b p:Int)<128 by omega),if_neg h2]
        exact F7K hb hl k (p+1) _ (i+1) (by omega) hg.1 (by omega)
    · have d1:¬ (p:Int)<(b.length:Int):=by omega
      simp only [A2m,A0 h,A1 d1,cond_true,cond_false,D7,gpL,if_neg h1]
theorem F7L{b:List Int}(hb:Byt b)(hl:b.length<=500000000)(a:Nat)(ha:a<=1000000000):∀ (k n i:Nat),k+i=4->n<=255+128 ^ i->
    (D7 (C3 (A2q (a:Int) b) ((n:Int),(i:Int),())) fun (m3:Unit)=>some (0,0,false,()))=some (gpL b k (a+1+i) n i)
  | 0,n,i,hk,hn=>by
    have h:¬ (i:Int)<4:=by omega
    rw [C8];simp only [A2q,A1 h,cond_false,D7,gpL]
  | k+1,n,i,hk,hn=>by
    have h:(i:Int)<4:=by omega
    have e0:i64.wrap (i64.wrap ((a:Int)+1)+(i:Int))=((a+1+i:Nat):Int):=by rw [w64 (n:=(a:Int)+1) (by omega) (by omega),w64 (by omega) (by omega)];omega
    have e0':i64.wrap (i64.wrap ((a:Int)+2)+(i:Int))=((a+1+i+1:Nat):Int):=by rw [w64 (n:=(a:Int)+2) (by omega) (by omega),w64 (by omega) (by omega)];omega
    rw [C8];by_cases h1:a+1+i<b.length
    · have d1:((a+1+i:Nat):Int)<(b.length:Int):=by omega
      have d2:(0:Int)<=((a+1+i:Nat):Int):=by omega
      obtain ⟨e1,e2⟩:=B0d hb h1;have hg:=F53 (b:=b) (p:=a+1+i) (show i<4 by omega) hn;have h5:128 ^ (i+1)<=128 ^ 4:=Nat.pow_le_pow_right (by omega) (by omega);have e3:i64.wrap (byN b (a+1+i):Int)=(byN b (a+1+i):Int):=w64 (by omega) (by omega);have e4:i64.wrap (7*(i:Int))=((7*i:Nat):Int):=by rw [w64 (by omega) (by omega)];omega
      have e5:=E3V (v:=byN b (a+1+i) % 128) (m:=7*i) (by omega) (by omega);have e6:i64.wrap ((n:Int)+((byN b (a+1+i) % 128*2 ^ (7*i):Nat):Int))=(gpN b (a+1+i) n i:Int):=by
        have e0:(n:Int)+((byN b (a+1+i) % 128*2 ^ (7*i):Nat):Int)=((gpN b (a+1+i) n i:Nat):Int):=by unfold gpN;omega
        rw [e0];exact E3E (by omega)
      have e8:i64.wrap ((i:Int)+1)=((i+1:Nat):Int):=by rw [w64 (by omega) (by omega)];omega
      simp only [A2q,e0,e0',A0 h,A0 d1,A0 d2,cond_true,bSl,A1 (u64_nonneg _),cond_false,e1,e3,F7J e2,e4,e5,e6,e8,gpL,if_pos h1];by_cases h2:byN b (a+1+i)<128
      · rw [A0 (show (byN b (a+1+i):Int)<128 by omega),if_pos h2]
        by_cases h3:gpN b (a+1+i) n i>16777216
        · rw [A0 (show (gpN b (a+1+i) n i:Int)>16777216 by omega),if_pos h3];rfl
        · rw [A1 (show ¬ (gpN b (a+1+i) n i:Int)>16777216 by omega),if_neg h3];rfl
      · rw [A1 (show ¬ (byN b (a+1+i):Int)<128 by omega),if_neg h2]
        exact F7L hb hl a ha k _ (i+1) (by omega) hg.1
    · have d1:¬ ((a+1+i:Nat):Int)<(b.length:Int):=by omega
      simp only [A2q,e0,A0 h,A1 d1,cond_true,cond_false,D7,gpL,if_neg h1]
theorem C0G{b:List Int}(hb:Byt b)(hl:b.length<=500000000)(p m:Nat)(hp:p<=1000000000)(hm:1<=m/\m<=8):A1a b (p:Int) (m:Int)=some (A9 b p m):=by
  have d1:decide ((1:Int)<=(m:Int)/\(m:Int)<=8)=true:=A0 (by omega);have e1:i64.wrap ((b.length:Int)-1)=(b.length:Int)-1:=w64 (by omega) (by omega);simp only [A1a,B57,K1,bO,d1,Bool.not_true,cond_false,e1];unfold A9;by_cases h1:p<b.length
  · have d2:decide ((0:Int)<=(p:Int)/\(p:Int)<=(b.length:Int)-1)=true:=A0 (by omega)
    have d3:(p:Int)<(b.length:Int):=by omega
    obtain ⟨q1,q2⟩:=B0d hb h1;have e2:=C5s (m:=m) (by omega);have e3:i64.wrap (byN b p:Int)=(byN b p:Int):=w64 (by omega) (by omega);have e7:i64.wrap ((p:Int)+1)=((p+1:Nat):Int):=by rw [w64 (by omega) (by omega)];omega
    have h8:byN b p % 2 ^ m<=255:=by have:=Nat.mod_le (byN b p) (2 ^ m);omega
    simp only [d2,Bool.not_true,cond_false,bSl,A1 (u64_nonneg _),A0 (show (0:Int)<=(p:Int) by omega),A0 d3,cond_true,q1,e2,e3,e7,E0j q2 hm.2,if_pos h1];by_cases h2:byN b p % 2 ^ m<2 ^ m-1
    · rw [A0 (show ((byN b p % 2 ^ m:Nat):Int)<((2 ^ m-1:Nat):Int) by omega),if_pos h2];rfl
    · rw [A1 (show ¬ ((byN b p % 2 ^ m:Nat):Int)<((2 ^ m-1:Nat):Int) by omega),if_neg h2]
      exact F7K hb hl 4 (p+1) _ 0 (by omega) (by omega) (by omega)
  · have d2:decide ((0:Int)<=(p:Int)/\(p:Int)<=(b.length:Int)-1)=false:=A1 (by omega)
    simp only [d2,Bool.not_false,cond_true,bSr,if_neg h1]
theorem A7s{b:List Int}(hb:Byt b)(hl:b.length<=500000000)(p m:Nat)(hp:p<=1000000000)(hm:1<=m/\m<=8):P3 b (p:Int) (m:Int)=some (A9 b p m):=by
  have d1:decide ((1:Int)<=(m:Int)/\(m:Int)<=8)=true:=A0 (by omega);have e1:i64.wrap ((b.length:Int)-1)=(b.length:Int)-1:=w64 (by omega) (by omega);simp only [P3,B5E,U1,bO,d1,Bool.not_true,cond_false,e1];unfold A9;by_cases h1:p<b.length
  · have d2:decide ((0:Int)<=(p:Int)/\(p:Int)<=(b.length:Int)-1)=true:=A0 (by omega)
    have d3:(p:Int)<(b.length:Int):=by omega
    obtain ⟨q1,q2⟩:=B0d hb h1;have e2:=C5s (m:=m) (by omega);have e3:i64.wrap (byN b p:Int)=(byN b p:Int):=w64 (by omega) (by omega);have e7:i64.wrap ((p:Int)+1)=((p+1:Nat):Int):=by rw [w64 (by omega) (by omega)];omega
    have h8:byN b p % 2 ^ m<=255:=by have:=Nat.mod_le (byN b p) (2 ^ m);omega
    simp only [d2,Bool.not_true,cond_false,bSl,A1 (u64_nonneg _),A0 (show (0:Int)<=(p:Int) by omega),A0 d3,cond_true,q1,e2,e3,e7,E0j q2 hm.2,if_pos h1];by_cases h2:byN b p % 2 ^ m<2 ^ m-1
    · rw [A0 (show ((byN b p % 2 ^ m:Nat):Int)<((2 ^ m-1:Nat):Int) by omega),if_pos h2];rfl
    · rw [A1 (show ¬ ((byN b p % 2 ^ m:Nat):Int)<((2 ^ m-1:Nat):Int) by omega),if_neg h2]
      exact F7L hb hl p hp 4 _ 0 (by omega) (by omega)
  · have d2:decide ((0:Int)<=(p:Int)/\(p:Int)<=(b.length:Int)-1)=false:=A1 (by omega)
    simp only [d2,Bool.not_false,cond_true,bSr,if_neg h1]
def A8P(b:List Int)(p n:Nat):List Int:=(b.take (p+n)).drop p
def G6(b:List Int)(p:Nat):X0×Int×Bool×Unit:=
  if (A9 b p 7).2.2.1=false then (⟨#[]⟩,0,false,()) else if (A9 b p 7).1>4000 then (⟨#[]⟩,0,false,()) else if (A9 b p 7).1>(b.length:Int)-(A9 b p 7).2.1 then (⟨#[]⟩,0,false,())
  else if byN b p<128 then (strOf (A8P b (A9 b p 7).2.1.toNat (A9 b p 7).1.toNat),(A9 b p 7).2.1+(A9 b p 7).1,true,())
  else if (A2g (A8P b (A9 b p 7).2.1.toNat (A9 b p 7).1.toNat)).2.1=false then (⟨#[]⟩,0,false,())
  else if (((A2g (A8P b (A9 b p 7).2.1.toNat (A9 b p 7).1.toNat)).1.size:Int)>4000) then (⟨#[]⟩,0,false,())
  else ((A2g (A8P b (A9 b p 7).2.1.toNat (A9 b p 7).1.toNat)).1,(A9 b p 7).2.1+(A9 b p 7).1,true,())
theorem D8u{b:List Int}(hb:Byt b)(p n:Nat):Byt (A8P b p n):=C0D (D3O hb _) _
theorem D8v(b:List Int)(p n:Nat):(A8P b p n).length<=b.length:=by simp [A8P];omega
theorem A4f{b:List Int}(p:Nat)(h:(G6 b p).2.2.1=true):(G6 b p).1.size<=4000/\(p:Int)<(G6 b p).2.1/\(G6 b p).2.1<=b.length:=by
  unfold G6 at h ⊢;by_cases h1:(A9 b p 7).2.2.1=false
  · rw [if_pos h1] at h;cases h
  have hr:=A06 b p 7 (by omega) (by simpa using h1);rw [if_neg h1] at h ⊢;by_cases h2:(A9 b p 7).1>4000
  · rw [if_pos h2] at h;cases h
  rw [if_neg h2] at h ⊢;by_cases h3:(A9 b p 7).1>(b.length:Int)-(A9 b p 7).2.1
  · rw [if_pos h3] at h;cases h
  rw [if_neg h3] at h ⊢;by_cases h4:byN b p<128
  · rw [if_pos h4]
    refine ⟨?_,by simp only;omega,by simp only;omega⟩;rw [A8p];simp only [A8P,List.length_drop,List.length_take];omega
  rw [if_neg h4] at h ⊢;by_cases h5:(A2g (A8P b (A9 b p 7).2.1.toNat (A9 b p 7).1.toNat)).2.1=false
  · rw [if_pos h5] at h;cases h
  rw [if_neg h5] at h ⊢;by_cases h6:(((A2g (A8P b (A9 b p 7).2.1.toNat (A9 b p 7).1.toNat)).1.size:Int)>4000)
  · rw [if_pos h6] at h;cases h
  rw [if_neg h6];refine ⟨by simp only;omega,by simp only;omega,by simp only;omega⟩
theorem C0H{b:List Int}(hb:Byt b)(hl:b.length<=500000000)(p:Nat)(hp:p<=1000000000):A5P b (p:Int)=some (G6 b p):=by
  have e0:=C0G hb hl p 7 hp (by omega);rw [show ((7:Nat):Int)=7 from rfl] at e0;simp only [A5P,B59,e0,bO];unfold G6;by_cases h1:(A9 b p 7).2.2.1=false
  · rw [if_pos h1,h1];rfl
  have h1':(A9 b p 7).2.2.1=true:=by simpa using h1
  obtain ⟨r1,r2,r3,r4⟩:=A06 b p 7 (by omega) h1';rw [if_neg h1,h1',w64 (n:=(b.length:Int)-(A9 b p 7).2.1) (by omega) (by omega),w64 (n:=(A9 b p 7).2.1+(A9 b p 7).1) (by omega) (by omega)];simp only [Bool.not_true,cond_false];by_cases h2:(A9 b p 7).1>4000
  · rw [if_pos h2,A0 h2];rfl
  rw [if_neg h2,A1 h2];by_cases h3:(A9 b p 7).1>(b.length:Int)-(A9 b p 7).2.1
  · rw [if_pos h3,A0 h3];rfl
  obtain ⟨q1,q2⟩:=B0d hb (show p<b.length by omega);have e3:((A9 b p 7).2.1+(A9 b p 7).1).toNat=(A9 b p 7).2.1.toNat+(A9 b p 7).1.toNat:=by omega
  rw [if_neg h3,A1 h3];simp only [cond_false,bSl];rw [A0 (show (0:Int)<=(A9 b p 7).2.1 by omega),A0 (show (A9 b p 7).2.1<=(A9 b p 7).2.1+(A9 b p 7).1 by omega),A0 (show (A9 b p 7).2.1+(A9 b p 7).1<=(b.length:Int) by omega),A0 (show (0:Int)<=(p:Int) by omega),A0 (show (p:Int)<(b.length:Int) by omega),q1,e3];simp only [cond_true];rw [show ((b.take ((A9 b p 7).2.1.toNat+(A9 b p 7).1.toNat)).drop (A9 b p 7).2.1.toNat)=A8P b (A9 b p 7).2.1.toNat (A9 b p 7).1.toNat from rfl,E3d _ (D8u hb _ _) (Nat.le_trans (D8v _ _ _) hl)];simp only [bO];by_cases h4:byN b p<128
  · rw [if_pos h4,A0 (show (byN b p:Int)<128 by omega)];rfl
  rw [if_neg h4,A1 (show ¬ (byN b p:Int)<128 by omega)];simp only [cond_false];by_cases h5:(A2g (A8P b (A9 b p 7).2.1.toNat (A9 b p 7).1.toNat)).2.1=false
  · rw [if_pos h5,h5];rfl
  rw [if_neg h5,show (A2g (A8P b (A9 b p 7).2.1.toNat (A9 b p 7).1.toNat)).2.1=true by simpa using h5];by_cases h6:(((A2g (A8P b (A9 b p 7).2.1.toNat (A9 b p 7).1.toNat)).1.size:Int)>4000)
  · rw [if_pos h6,A0 h6];rfl
  · rw [if_neg h6,A1 h6];rfl
set_option maxRecDepth 100000
abbrev noF:A4:=(⟨#[]⟩,⟨#[]⟩)
noncomputable def V8(t:B2)(i:Int):A4×Bool×Unit:=
  if i<=61 then (if 1<=i then (rd A5 firstT (i-1),true,()) else (noF,false,())) else if i-61>(t.2.length:Int) then (noF,false,()) else (rd A5 t.2 (i-62),true,())
theorem F0O:∀ {fs:List A4} {f:A4},f∈fs->ofF f<=szT fs
  | [],_,h=>by cases h
  | x::fs,f,h=>by
    have h2:=A3a fs;have h3:=B80 x;simp only [szT];rcases List.mem_cons.1 h with rfl | h
    · omega
    · have:=F0O h;omega
theorem F54(xs:List A4)(i:Int):rd A5 xs i∈xs\/rd A5 xs i=noF:=by
  unfold rd;rw [List.getD_eq_getElem?_getD];by_cases h:i.toNat<xs.length
  · rw [List.getElem?_eq_getElem h];exact .inl (List.getElem_mem h)
  · rw [List.getElem?_eq_none (by omega)];exact .inr rfl
theorem E3e{t:B2}(ht:W6 t)(i:Int):(V8 t i).1.1.size<=10000/\(V8 t i).1.2.size<=10000:=by
  unfold V8;have h0:noF.1.size<=10000/\noF.2.size<=10000:=⟨by decide,by decide⟩;split
  · split
    · rcases F54 firstT (i-1) with h | h
      · have:=Nat.le_of_ble_eq_true (List.all_eq_true.1 F1b _ h)
        simp only;omega
      · simp only [h];exact h0
    · exact h0
  · split
    · exact h0
    · rcases F54 t.2 (i-62) with h | h
      · have h1:=F0O h
        obtain ⟨_,h2,h3⟩:=ht;unfold ofF at h1;simp only;omega
      · simp only [h];exact h0
theorem E0k(t:B2)(i:Int)(hi:0<=i/\i<=100000000)(ht:t.2.length<=1000000):B02 t i=some (V8 t i):=by
  simp only [B02,B9o,A7M,B2g,K1,C8W,bO];unfold V8;by_cases h1:i<=61
  · rw [A0 h1,if_pos h1]
    by_cases h2:1<=i
    · rw [A0 ⟨h2,h1⟩,if_pos h2,w64 (n:=i-1) (by omega) (by omega),A0 (show 0<=i-1 by omega),A0 (show i-1<(firstT.length:Int) by rw [C4d];omega)]
      rfl
    · rw [A1 (show ¬ (1<=i/\i<=61) by omega),if_neg h2]
      rfl
  · rw [A1 h1,if_neg h1,w64 (n:=i-61) (by omega) (by omega),w64 (n:=i-61-1) (by omega) (by omega)]
    by_cases h2:i-61>(t.2.length:Int)
    · rw [A0 h2,if_pos h2];rfl
    · rw [A1 h2,if_neg h2,A0 (show 0<=i-61-1 by omega),A0 (show i-61-1<(t.2.length:Int) by omega),show i-61-1=i-62 by omega]
      rfl
theorem C5u(t:B2)(i:Int)(hi:0<=i/\i<=100000000)(ht:t.2.length<=1000000):A47 t i=some (V8 t i):=by
  simp only [A47,C04,A7i,B2r,U1,E0b,bO];unfold V8;by_cases h1:i<=61
  · rw [A0 h1,if_pos h1]
    by_cases h2:1<=i
    · rw [A0 ⟨h2,h1⟩,if_pos h2,w64 (n:=i-1) (by omega) (by omega),A0 (show 0<=i-1 by omega),A0 (show i-1<(firstT.length:Int) by rw [C4d];omega)]
      rfl
    · rw [A1 (show ¬ (1<=i/\i<=61) by omega),if_neg h2]
      rfl
  · rw [A1 h1,if_neg h1,w64 (n:=i-62) (by omega) (by omega)]
    by_cases h2:i-61>(t.2.length:Int)
    · rw [A0 (show i-62>=(t.2.length:Int) by omega),if_pos h2];rfl
    · rw [A1 (show ¬ i-62>=(t.2.length:Int) by omega),if_neg h2,A0 (show 0<=i-62 by omega),A0 (show i-62<(t.2.length:Int) by omega)]
      rfl
noncomputable def E0l(t:B2)(f:A4):B2:=match V2 t f with
  | some x=>x.1
  | none=>t
noncomputable def E0m(t:B2)(n:Int):B2:=match P1 (n,t.2) with
  | some x=>x.1
  | none=>t
theorem F0P{t:B2}(ht:W6 t){f:A4}(h1:f.1.size<=10000)(h2:f.2.size<=10000):V2 t f=some (E0l t f,())/\W6 (E0l t f):=by
  obtain ⟨q0,q1,q2⟩:=ht;obtain ⟨T,e,hT⟩:=F8K t f q0 (by omega) (by unfold ofF;omega);have hv:E0l t f=(t.1,T):=by unfold E0l;rw [e]
  rw [hv];exact ⟨e,q0,q1,hT⟩
theorem F0Q{t:B2}(ht:W6 t){n:Int}(h1:0<=n)(h2:n<=4096):P1 (n,t.2)=some (E0m t n,())/\W6 (E0m t n):=by
  obtain ⟨q0,q1,q2⟩:=ht;obtain ⟨k,_,_,e,hT⟩:=F4m n t.2 h1 (by omega) (by omega);have hv:E0m t n=(n,t.2.take k):=by unfold E0m;rw [e]
  rw [hv];exact ⟨e,h1,h2,hT⟩
theorem E3f{t:B2}(h:W6 t):A0a t=some (true,()):=by
  obtain ⟨h0,h1,h2⟩:=h;obtain ⟨m,fs⟩:=t;simp only at h0 h1 h2;have e:B2d (m,fs)=some (szT fs,()):=by
    have hl:=A3a fs;have:=F6 (B1N A3t (m,fs)) (fun k=>(szT (fs.take k),(k:Int),())) fs.length (szT fs,()) (fun k hk=>by
      have h3:(k:Int)<(fs.length:Int):=by omega
      have h4:(0:Int)<=(k:Int):=by omega
      have h5:=D3U fs hk;have h6:=D3T fs (k+1);have h7:=B80 fs[k];have h8:=A3a (fs.take k);have e1:rd A5 fs (k:Int)=fs[k]:=T8 (k:=A5) hk;simp only [B1N,A0 h3,A0 h4,cond_true,e1];rw [C9q _ (by omega)];simp only [A3];rw [w64 (n:=szT (fs.take k)+ofF fs[k]) (by omega) (by omega),w64 (n:=(k:Int)+1) (by omega) (by omega),h5];rfl) (by
      have h3:¬ ((fs.length:Nat):Int)<(fs.length:Int):=by omega
      simp only [B1N,A1 h3,cond_false];rw [List.take_of_length_le (by omega)])
    simp only [B2d,C4C];rw [show ((0:Int),(0:Int),())=(fun k:Nat=>(szT (fs.take k),(k:Int),())) 0 by simp [szT]];rw [this]
    try rfl
  simp only [A0a,B9m,K1,A3,e];rw [A0 ⟨h0,h1⟩,A0 h2];rfl
noncomputable def A2s(t:B2)(b:List Int)(p m:Nat):Int×A4×Nat:=
  if (A9 b p m).2.2.1=false then (1,noF,0)
  else if (A9 b p m).1=0 then
    (if (G6 b (A9 b p m).2.1.toNat).2.2.1=false then (1,noF,0)
     else if (G6 b (G6 b (A9 b p m).2.1.toNat).2.1.toNat).2.2.1=false then (1,noF,0)
     else (0,((G6 b (A9 b p m).2.1.toNat).1,(G6 b (G6 b (A9 b p m).2.1.toNat).2.1.toNat).1),(G6 b (G6 b (A9 b p m).2.1.toNat).2.1.toNat).2.1.toNat))
  else if (V8 t (A9 b p m).1).2.1=false then (2,noF,0)
  else if (G6 b (A9 b p m).2.1.toNat).2.2.1=false then (1,noF,0)
  else (0,((V8 t (A9 b p m).1).1.1,(G6 b (A9 b p m).2.1.toNat).1),(G6 b (A9 b p m).2.1.toNat).2.1.toNat)
theorem D2B{t:B2}(ht:W6 t){b:List Int}{p m:Nat}(hm:m<=8)(h:(A2s t b p m).1=0):(A2s t b p m).2.1.1.size<=10000/\(A2s t b p m).2.1.2.size<=10000/\p<(A2s t b p m).2.2/\(A2s t b p m).2.2<=b.length:=by
  unfold A2s at h ⊢;by_cases h1:(A9 b p m).2.2.1=false
  · rw [if_pos h1] at h;cases h
  have r1:=A06 b p m hm (by simpa using h1);rw [if_neg h1] at h ⊢;by_cases h2:(A9 b p m).1=0
  · rw [if_pos h2] at h ⊢
    by_cases h3:(G6 b (A9 b p m).2.1.toNat).2.2.1=false
    · rw [if_pos h3] at h;cases h
    rw [if_neg h3] at h ⊢;have r2:=A4f (A9 b p m).2.1.toNat (by simpa using h3);by_cases h4:(G6 b (G6 b (A9 b p m).2.1.toNat).2.1.toNat).2.2.1=false
    · rw [if_pos h4] at h;cases h
    rw [if_neg h4];have r3:=A4f (G6 b (A9 b p m).2.1.toNat).2.1.toNat (by simpa using h4);simp only;omega
  · rw [if_neg h2] at h ⊢
    by_cases h5:(V8 t (A9 b p m).1).2.1=false
    · rw [if_pos h5] at h;cases h
    rw [if_neg h5] at h ⊢;by_cases h3:(G6 b (A9 b p m).2.1.toNat).2.2.1=false
    · rw [if_pos h3] at h;cases h
    rw [if_neg h3];have r2:=A4f (A9 b p m).2.1.toNat (by simpa using h3);have r4:=E3e ht (A9 b p m).1;simp only;omega
section
variable {b:List Int} (hb:Byt b) (hl:b.length<=500000000)
include hb hl
theorem C0I(p m:Nat)(hp:p<=1000000000)(hm:1<=m/\m<=8)(t:B2)(l:List A4) :
    G5 (b,(p:Int),0,t,l) (m:Int)=some (if (A9 b p m).2.2.1=false then (0,(b,(p:Int),1,t,l),()) else ((A9 b p m).1,(b,(A9 b p m).2.1,0,t,l),())):=by
  simp only [G5,A2Q,C0G hb hl p m hp hm,bO];by_cases h1:(A9 b p m).2.2.1=false
  · rw [if_pos h1,h1];rfl
  · rw [if_neg h1,show (A9 b p m).2.2.1=true by simpa using h1];rfl
theorem C0J(p:Nat)(hp:p<=1000000000)(t:B2)(l:List A4) :
    N0 (b,(p:Int),0,t,l)=some (if (G6 b p).2.2.1=false then (⟨#[]⟩,(b,(p:Int),1,t,l),()) else ((G6 b p).1,(b,(G6 b p).2.1,0,t,l),())):=by
  simp only [N0,A18,C0H hb hl p hp,bO];by_cases h1:(G6 b p).2.2.1=false
  · rw [if_pos h1,h1];rfl
  · rw [if_neg h1,show (G6 b p).2.2.1=true by simpa using h1];rfl
theorem D3i(p:Nat)(hp:p<=1000000000)(c:Int)(hc:c≠0)(t:B2)(l:List A4) :
    N0 (b,(p:Int),c,t,l)=some (⟨#[]⟩,(b,(p:Int),c,t,l),()):=by
  simp only [N0,A18,C0H hb hl p hp,bO,D5,M9,A1 hc,Bool.not_false,cond_true,cond_false]
theorem C4e(p:Nat)(c:Int)(t:B2)(ht:W6 t)(l:List A4)(i:Int)(hi:0<=i/\i<=100000000) :
    H1 (b,(p:Int),c,t,l) i=some ((V8 t i).1,(if (V8 t i).2.1=false then (b,(p:Int),if c=0 then 2 else c,t,l) else (b,(p:Int),c,t,l)),()):=by
  have h:=A60 ht;simp only [H1,A3N,E0k t i hi (by omega),bO,D5,M9];by_cases h1:(V8 t i).2.1=false
  · rw [if_pos h1,h1]
    by_cases hc:c=0
    · rw [A0 hc,if_pos hc];rfl
    · rw [A1 hc,if_neg hc];rfl
  · rw [if_neg h1,show (V8 t i).2.1=true by simpa using h1];rfl
theorem E3g(p:Nat)(c:Int)(hc:c≠0)(t:B2)(ht:W6 t)(l:List A4)(i:Int)(hi:0<=i/\i<=100000000) :
    H1 (b,(p:Int),c,t,l) i=some ((V8 t i).1,(b,(p:Int),c,t,l),()):=by
  rw [C4e hb hl p c t ht l i hi,if_neg hc];split<;>rfl
theorem E0n(p:Nat)(t:B2)(ht:W6 t)(l:List A4)(i:Int)(hi:0<=i/\i<=100000000) :
    H1 (b,(p:Int),0,t,l) i=some ((V8 t i).1,(b,(p:Int),(if (V8 t i).2.1=false then 2 else 0),t,l),()):=by
  rw [C4e hb hl p 0 t ht l i hi,if_pos rfl];split<;>rfl
theorem C5v(p m:Nat)(hp:p<=1000000000)(hm:1<=m/\m<=8)(t:B2)(ht:W6 t)(l:List A4) :
    ∃ f q,K7 (b,(p:Int),0,t,l) (m:Int)=some (f,(b,q,(A2s t b p m).1,t,l),())/\((A2s t b p m).1=0->f=(A2s t b p m).2.1/\q=((A2s t b p m).2.2:Int)):=by
  simp only [K7,A02,C0I hb hl p m hp hm t l,bO];unfold A2s;by_cases h1:(A9 b p m).2.2.1=false
  · rw [if_pos h1,if_pos h1]
    exact ⟨_,_,rfl,fun h=>by cases h⟩
  have r1:=A06 b p m hm.2 (by simpa using h1);have e1:(A9 b p m).2.1=(((A9 b p m).2.1.toNat:Nat):Int):=by omega
  rw [if_neg h1,if_neg h1];simp only [decide_true,Bool.not_true,cond_false];by_cases h2:(A9 b p m).1=0
  · rw [if_pos h2,A0 h2]
    simp only [cond_true];rw [e1,C0J hb hl _ (by omega) t l,Int.toNat_natCast];simp only [bO];by_cases h3:(G6 b (A9 b p m).2.1.toNat).2.2.1=false
    · rw [if_pos h3,if_pos h3]
      simp only [bSl];rw [D3i hb hl _ (by omega) 1 (by decide) t l];exact ⟨_,_,rfl,fun h=>by cases h⟩
    have r2:=A4f (A9 b p m).2.1.toNat (by simpa using h3);have e2:(G6 b (A9 b p m).2.1.toNat).2.1=(((G6 b (A9 b p m).2.1.toNat).2.1.toNat:Nat):Int):=by omega
    rw [if_neg h3,if_neg h3];simp only [bSl];rw [e2,C0J hb hl _ (by omega) t l,Int.toNat_natCast];simp only [bO];by_cases h4:(G6 b (G6 b (A9 b p m).2.1.toNat).2.1.toNat).2.2.1=false
    · rw [if_pos h4,if_pos h4]
      exact ⟨_,_,rfl,fun h=>by cases h⟩
    · have r3:=A4f (G6 b (A9 b p m).2.1.toNat).2.1.toNat (by simpa using h4)
      rw [if_neg h4,if_neg h4];exact ⟨_,_,rfl,fun _=>⟨rfl,by simp only;omega⟩⟩
  · rw [if_neg h2,A1 h2]
    simp only [cond_false];rw [e1,C4e hb hl _ 0 t ht l _ (by omega),Int.toNat_natCast];simp only [bO];by_cases h5:(V8 t (A9 b p m).1).2.1=false
    · rw [if_pos h5,if_pos h5]
      simp only [bSl,if_true];rw [D3i hb hl _ (by omega) 2 (by decide) t l];exact ⟨_,_,rfl,fun h=>by cases h⟩
    rw [if_neg h5,if_neg h5];simp only [bSl];rw [C0J hb hl _ (by omega) t l];simp only [bO];by_cases h3:(G6 b (A9 b p m).2.1.toNat).2.2.1=false
    · rw [if_pos h3,if_pos h3]
      exact ⟨_,_,rfl,fun h=>by cases h⟩
    · have r2:=A4f (A9 b p m).2.1.toNat (by simpa using h3)
      rw [if_neg h3,if_neg h3];exact ⟨_,_,rfl,fun _=>⟨rfl,by simp only;omega⟩⟩
end
set_option maxRecDepth 100000
abbrev RdT:=Int×B2×Nat×List A4
def B0H(t:B2)(p:Nat)(l:List A4)(f:A4):RdT:=(if 100<l.length+1 then 4 else 0,t,p,l ++ [f])
noncomputable def B0I(b:List Int)(most:Int)(t:B2)(p:Nat)(l:List A4):RdT:=
  if 128<=byN b p then
    (if (A9 b p 7).2.2.1=false then (1,t,p,l) else if (V8 t (A9 b p 7).1).2.1=false then (2,t,p,l) else B0H t (A9 b p 7).2.1.toNat l (V8 t (A9 b p 7).1).1)
  else if 64<=byN b p then (if (A2s t b p 6).1=0 then B0H (E0l t (A2s t b p 6).2.1) (A2s t b p 6).2.2 l (A2s t b p 6).2.1 else ((A2s t b p 6).1,t,p,l))
  else if 32<=byN b p then (if (A9 b p 5).2.2.1=false then (1,t,p,l) else if (A9 b p 5).1>most\/0<l.length then (3,t,p,l) else (0,E0m t (A9 b p 5).1,(A9 b p 5).2.1.toNat,l))
  else (if (A2s t b p 4).1=0 then B0H t (A2s t b p 4).2.2 l (A2s t b p 4).2.1 else ((A2s t b p 4).1,t,p,l))
def RdK(b:List Int)(t:B2)(p:Nat)(l:List A4):Prop:=W6 t/\p<=b.length/\l.length<=100/\∀ f∈l,f.1.size<=10000/\f.2.size<=10000
theorem D3j{b:List Int}{t:B2}{p p':Nat}{l:List A4}{f:A4}(ht:W6 t)(hp:p'<=b.length)(hlt:p<p')(hk:l.length<=100/\∀ f∈l,f.1.size<=10000/\f.2.size<=10000)(h1:f.1.size<=10000)(h2:f.2.size<=10000)(h:(B0H t p' l f).1=0) :
    RdK b (B0H t p' l f).2.1 (B0H t p' l f).2.2.1 (B0H t p' l f).2.2.2/\p<(B0H t p' l f).2.2.1:=by
  unfold B0H at h ⊢;by_cases h3:100<l.length+1
  · simp only [if_pos h3] at h;cases h
  · refine ⟨⟨ht,hp,by simp only [List.length_append,List.length_singleton];omega,fun x hx=>?_⟩,hlt⟩
    rcases List.mem_append.1 hx with q | q
    · exact hk.2 x q
    · rcases List.mem_singleton.1 q with rfl
      exact ⟨h1,h2⟩
theorem E0o{b:List Int}{most:Int}(hmost:most<=4096){t:B2}{p:Nat}{l:List A4}(hk:RdK b t p l)(h:(B0I b most t p l).1=0):RdK b (B0I b most t p l).2.1 (B0I b most t p l).2.2.1 (B0I b most t p l).2.2.2/\p<(B0I b most t p l).2.2.1:=by
  obtain ⟨ht,hp,hl⟩:=hk;unfold B0I at h ⊢;by_cases c1:128<=byN b p
  · rw [if_pos c1] at h ⊢
    by_cases h1:(A9 b p 7).2.2.1=false
    · rw [if_pos h1] at h;cases h
    rw [if_neg h1] at h ⊢;have r1:=A06 b p 7 (by omega) (by simpa using h1);by_cases h2:(V8 t (A9 b p 7).1).2.1=false
    · rw [if_pos h2] at h;cases h
    rw [if_neg h2] at h ⊢;have r2:=E3e ht (A9 b p 7).1;exact D3j ht (by omega) (by omega) hl r2.1 r2.2 h
  rw [if_neg c1] at h ⊢;by_cases c2:64<=byN b p
  · rw [if_pos c2] at h ⊢
    by_cases h1:(A2s t b p 6).1=0
    · rw [if_pos h1] at h ⊢
      obtain ⟨q1,q2,q3,q4⟩:=D2B ht (by omega) h1;exact D3j (F0P ht q1 q2).2 q4 q3 hl q1 q2 h
    · rw [if_neg h1] at h;exact absurd h h1
  rw [if_neg c2] at h ⊢;by_cases c3:32<=byN b p
  · rw [if_pos c3] at h ⊢
    by_cases h1:(A9 b p 5).2.2.1=false
    · rw [if_pos h1] at h;cases h
    rw [if_neg h1] at h ⊢;have r1:=A06 b p 5 (by omega) (by simpa using h1);by_cases h2:(A9 b p 5).1>most\/0<l.length
    · rw [if_pos h2] at h;cases h
    rw [if_neg h2];exact ⟨⟨(F0Q ht r1.1 (by omega)).2,by simp only;omega,hl⟩,by simp only;omega⟩
  rw [if_neg c3] at h ⊢;by_cases h1:(A2s t b p 4).1=0
  · rw [if_pos h1] at h ⊢
    obtain ⟨q1,q2,q3,q4⟩:=D2B ht (by omega) h1;exact D3j ht q4 q3 hl q1 q2 h
  · rw [if_neg h1] at h;exact absurd h h1
theorem E6w(t:B2)(p:Nat)(l:List A4)(f:A4):(if 100<l.length+1 then (if (0:Int)=0 then 4 else 0) else 0)=(B0H t p l f).1:=by
  unfold B0H;by_cases h:100<l.length+1
  · rw [if_pos h,if_pos rfl]
    simp only [if_pos h]
  · rw [if_neg h]
    simp only [if_neg h]
theorem F7M(l:List A4){c:Int}(h:c≠0):(if 100<l.length+1 then (if c=0 then 4 else c) else c)=c:=by
  rw [if_neg h];split<;>rfl
theorem D3k(b:List Int)(q c:Int)(t:B2)(l:List A4)(f:A4)(hl:l.length<=1000) :
    (bif decide (l.length+([f]:List A4).length<=9223372036854775807) then bif decide ((l.length+([f]:List A4).length)*32<=140737488355328) then bif (decide (((l ++ [f]).length:Int)>100)) then A3 (D5 (b,(q,(c,(t,(l ++ [f]))))) 4) fun c63=>some (c63.1,()) else some ((b,(q,(c,(t,(l ++ [f]))))),()) else none else none) =
      some ((b,q,(if 100<l.length+1 then (if c=0 then 4 else c) else c),t,l ++ [f]),()):=by
  rw [F4g (by simp;omega)];by_cases h:100<l.length+1
  · rw [A0 (show ((l ++ [f]).length:Int)>100 by simp;omega),if_pos h]
    simp only [cond_true,D5,M9];by_cases hc:c=0
    · rw [A0 hc,if_pos hc];rfl
    · rw [A1 hc,if_neg hc];rfl
  · rw [A1 (show ¬ ((l ++ [f]).length:Int)>100 by simp;omega),if_neg h]
    rfl
theorem E3h{t:B2}(ht:W6 t){n:Int}(h1:0<=n)(h2:n<=4096):B2k t n=some (E0m t n,()):=by
  have hl:=A60 ht;simp only [B2k,C4H,B1c t (by omega),K1,E3f ht,bO,A0 (show 0<=n/\n<=4096 from ⟨h1,h2⟩),Bool.not_true,cond_false,bSl,(F0Q ht h1 h2).1]
theorem F1j{b:List Int}(hb:Byt b)(hl:b.length<=500000000)(most:Int)(hmost:0<=most/\most<=4096)(t:B2)(p:Nat)(l:List A4)(hk:RdK b t p l)(hp:p<b.length) :
    ∃ q c t' l',H6 (b,(p:Int),0,t,l) most=some ((b,q,c,t',l'),())/\c=(B0I b most t p l).1/\((B0I b most t p l).1=0->q=((B0I b most t p l).2.2.1:Int)/\t' = (B0I b most t p l).2.1/\l' = (B0I b most t p l).2.2.2):=by
  obtain ⟨ht,_,hl1,hl2⟩:=hk;obtain ⟨q1,q2⟩:=B0d hb hp;have d1:decide ((0:Int)<=(p:Int))=true:=A0 (by omega);have d2:decide ((p:Int)<(b.length:Int))=true:=A0 (by omega);simp only [H6,A0u,d1,d2,cond_true,q1];unfold B0I;by_cases c1:128<=byN b p
  · rw [A0 (show (byN b p:Int)>=128 by omega),if_pos c1]
    have e:=C0I hb hl p 7 (by omega) (by omega) t l;rw [show ((7:Nat):Int)=7 from rfl] at e;simp only [cond_true,e,bO];by_cases h1:(A9 b p 7).2.2.1=false
    · rw [if_pos h1,if_pos h1]
      simp only [];rw [E3g hb hl p 1 (by decide) t ht l 0 (by omega)];simp only [bO,bSl];rw [show ((V8 t 0).1.1,(V8 t 0).1.2)=(V8 t 0).1 from rfl,D3k b _ 1 t l _ (by omega)];exact ⟨_,_,_,_,rfl,by simp,fun h=>by cases h⟩
    have r1:=A06 b p 7 (by omega) (by simpa using h1);have e1:(A9 b p 7).2.1=(((A9 b p 7).2.1.toNat:Nat):Int):=by omega
    rw [if_neg h1,if_neg h1];simp only [];rw [e1,E0n hb hl _ t ht l _ (by omega),Int.toNat_natCast];simp only [bO,bSl];by_cases h2:(V8 t (A9 b p 7).1).2.1=false
    · rw [if_pos h2,if_pos h2]
      rw [show ((V8 t (A9 b p 7).1).1.1,(V8 t (A9 b p 7).1).1.2)=(V8 t (A9 b p 7).1).1 from rfl,D3k b _ 2 t l _ (by omega)];exact ⟨_,_,_,_,rfl,by simp,fun h=>by cases h⟩
    · rw [if_neg h2,if_neg h2]
      rw [show ((V8 t (A9 b p 7).1).1.1,(V8 t (A9 b p 7).1).1.2)=(V8 t (A9 b p 7).1).1 from rfl,D3k b _ 0 t l _ (by omega)];refine ⟨_,_,_,_,rfl,?_,fun h=>⟨?_,rfl,rfl⟩⟩
      · exact E6w ..
      · unfold B0H;rfl
  rw [A1 (show ¬ (byN b p:Int)>=128 by omega),if_neg c1];simp only [cond_false];by_cases c2:64<=byN b p
  · rw [A0 (show (byN b p:Int)>=64 by omega),if_pos c2]
    obtain ⟨f,q,e,e'⟩:=C5v hb hl p 6 (by omega) (by omega) t ht l;rw [show ((6:Nat):Int)=6 from rfl] at e;simp only [cond_true,e,bO];by_cases h1:(A2s t b p 6).1=0
    · obtain ⟨e1,e2⟩:=e' h1
      obtain ⟨s1,s2,s3,s4⟩:=D2B ht (by omega) h1;subst e1 e2;rw [A0 h1,if_pos h1];simp only [cond_true,(F0P ht s1 s2).1,bO,bSl,h1];rw [show ((A2s t b p 6).2.1.1,(A2s t b p 6).2.1.2)=(A2s t b p 6).2.1 from rfl,D3k b _ 0 (E0l t (A2s t b p 6).2.1) l _ (by omega)];refine ⟨_,_,_,_,rfl,?_,fun h=>⟨?_,rfl,rfl⟩⟩
      · exact E6w ..
      · unfold B0H;rfl
    · rw [A1 h1,if_neg h1]
      simp only [cond_false,bSl];rw [show (f.1,f.2)=f from rfl,D3k b _ _ t l _ (by omega)];refine ⟨_,_,_,_,rfl,?_,fun h=>absurd h h1⟩;exact F7M l h1
  rw [A1 (show ¬ (byN b p:Int)>=64 by omega),if_neg c2];simp only [cond_false];by_cases c3:32<=byN b p
  · rw [A0 (show (byN b p:Int)>=32 by omega),if_pos c3]
    have e:=C0I hb hl p 5 (by omega) (by omega) t l;rw [show ((5:Nat):Int)=5 from rfl] at e;simp only [cond_true,R4,A0I,e,bO];by_cases h1:(A9 b p 5).2.2.1=false
    · rw [if_pos h1,if_pos h1]
      simp only [A1 (show ¬ (0:Int)>most by omega),cond_false,D5,M9,bO,show decide ((1:Int)=0)=false from rfl];cases decide ((l.length:Int)>0)<;>exact ⟨_,_,_,_,rfl,rfl,fun h=>by cases h⟩
    have r1:=A06 b p 5 (by omega) (by simpa using h1);rw [if_neg h1,if_neg h1];simp only [D5,M9,bO,decide_true,cond_true];by_cases h2:(A9 b p 5).1>most
    · rw [A0 h2,if_pos (.inl h2)]
      exact ⟨_,_,_,_,rfl,rfl,fun h=>by cases h⟩
    · rw [A1 h2]
      simp only [cond_false];by_cases h3:0<l.length
      · rw [A0 (show (l.length:Int)>0 by omega),if_pos (.inr h3)]
        exact ⟨_,_,_,_,rfl,rfl,fun h=>by cases h⟩
      · rw [A1 (show ¬ (l.length:Int)>0 by omega),if_neg (by omega)]
        simp only [cond_false,bO,decide_true,cond_true,E3h ht r1.1 (show (A9 b p 5).1<=4096 by omega),bSr];exact ⟨_,_,_,_,rfl,rfl,fun _=>⟨by omega,rfl,rfl⟩⟩
  rw [A1 (show ¬ (byN b p:Int)>=32 by omega),if_neg c3];obtain ⟨f,q,e,e'⟩:=C5v hb hl p 4 (by omega) (by omega) t ht l;rw [show ((4:Nat):Int)=4 from rfl] at e;simp only [cond_false,e,bO,bSl];by_cases h1:(A2s t b p 4).1=0
  · obtain ⟨e1,e2⟩:=e' h1
    subst e1 e2;rw [if_pos h1];simp only [h1];rw [show ((A2s t b p 4).2.1.1,(A2s t b p 4).2.1.2)=(A2s t b p 4).2.1 from rfl,D3k b _ 0 t l _ (by omega)];refine ⟨_,_,_,_,rfl,?_,fun h=>⟨?_,rfl,rfl⟩⟩
    · exact E6w ..
    · unfold B0H;rfl
  · rw [if_neg h1,show (f.1,f.2)=f from rfl,D3k b _ _ t l _ (by omega)]
    refine ⟨_,_,_,_,rfl,?_,fun h=>absurd h h1⟩;exact F7M l h1
noncomputable def gfM(b:List Int)(most:Int):Nat->B2->Nat->List A4->Int×B2×List A4
  | 0,t,p,l=>(0,t,l)
  | k+1,t,p,l=>if p<b.length then (if (B0I b most t p l).1=0 then gfM b most k (B0I b most t p l).2.1 (B0I b most t p l).2.2.1 (B0I b most t p l).2.2.2 else ((B0I b most t p l).1,t,l)) else (0,t,l)
theorem E70{b:List Int}{most:Int}(hmost:most<=4096):∀ (k:Nat) (t:B2) (p:Nat) (l:List A4),RdK b t p l->(gfM b most k t p l).1=0->W6 (gfM b most k t p l).2.1/\(gfM b most k t p l).2.2.length<=100/\∀ f∈(gfM b most k t p l).2.2,f.1.size<=10000/\f.2.size<=10000
  | 0,t,p,l,hk,_=>⟨hk.1,hk.2.2⟩
  | k+1,t,p,l,hk,h=>by
    unfold gfM at h ⊢;by_cases h1:p<b.length
    · rw [if_pos h1] at h ⊢
      by_cases h2:(B0I b most t p l).1=0
      · rw [if_pos h2] at h ⊢
        exact E70 hmost k _ _ _ (E0o hmost hk h2).1 h
      · rw [if_neg h2] at h;exact absurd h h2
    · rw [if_neg h1];exact ⟨hk.1,hk.2.2⟩
theorem D8w{b:List Int}(hb:Byt b)(hl:b.length<=500000000)(most:Int)(hmost:0<=most/\most<=4096):∀ (k:Nat) (t:B2) (p:Nat) (l:List A4),RdK b t p l->b.length<=p+k->
    ∃ q t1 t2 l',C3 (A10 H6 b most) (b,(p:Int),0,t.1,t.2,l,())=some (b,q,(gfM b most k t p l).1,t1,t2,l',())/\((gfM b most k t p l).1=0->(t1,t2)=(gfM b most k t p l).2.1/\l' = (gfM b most k t p l).2.2)
  | 0,t,p,l,hk,hle=>by
    have h1:¬ (p:Int)<(b.length:Int):=by omega
    rw [C8];simp only [A10,decide_true,cond_true,A1 h1,cond_false];exact ⟨_,_,_,_,rfl,fun _=>⟨rfl,rfl⟩⟩
  | k+1,t,p,l,hk,hle=>by
    rw [C8];unfold gfM;by_cases h1:p<b.length
    · obtain ⟨q,c,t',l',e,hc,hz⟩:=F1j hb hl most hmost t p l hk h1
      have e':H6 (b,(p:Int),0,(t.1,t.2),l) most=some ((b,q,c,t',l'),()):=e;simp only [A10,decide_true,cond_true,A0 (show (p:Int)<(b.length:Int) by omega),e',bO];rw [if_pos h1];by_cases h2:(B0I b most t p l).1=0
      · obtain ⟨z1,z2,z3⟩:=hz h2
        subst z1 z2 z3;rw [if_pos h2,hc,h2];have hk2:=E0o hmost.2 hk h2;exact D8w hb hl most hmost k _ _ _ hk2.1 (by omega)
      · rw [if_neg h2,C8]
        have hc0:¬ c=0:=by rw [hc];exact h2
        simp only [A1 hc0,cond_false,A10];rw [hc];exact ⟨_,_,_,_,rfl,fun h=>absurd h h2⟩
    · have h1':¬ (p:Int)<(b.length:Int):=by omega
      rw [if_neg h1];simp only [A10,decide_true,cond_true,A1 h1',cond_false];exact ⟨_,_,_,_,rfl,fun _=>⟨rfl,rfl⟩⟩
noncomputable def I0(t:B2)(most:Int)(b:List Int):List A4×B2×Int×Unit:=
  if (gfM b most b.length t 0 []).1=0 then ((gfM b most b.length t 0 []).2.2,(gfM b most b.length t 0 []).2.1,0,()) else ([],t,(gfM b most b.length t 0 []).1,())
theorem C4f{t:B2}(ht:W6 t){most:Int}(hmost:most<=4096)(b:List Int):W6 (I0 t most b).2.1/\(I0 t most b).1.length<=100/\∀ f∈(I0 t most b).1,f.1.size<=10000/\f.2.size<=10000:=by
  unfold I0;by_cases h:(gfM b most b.length t 0 []).1=0
  · rw [if_pos h]
    exact E70 hmost b.length t 0 [] ⟨ht,by omega,by simp,fun f hf=>by cases hf⟩ h
  · rw [if_neg h]
    exact ⟨ht,by simp,fun f hf=>by cases hf⟩
theorem D3l{t:B2}(ht:W6 t){b:List Int}(hb:Byt b)(hl:b.length<=500000000){most:Int}(hmost:0<=most/\most<=4096):A5Q t most b=some (I0 t most b):=by
  have htl:=A60 ht;obtain ⟨q,t1,t2,l',e,hz⟩:=D8w hb hl most hmost b.length t 0 [] ⟨ht,by omega,by simp,fun f hf=>by cases hf⟩ (by omega);rw [show ((0:Nat):Int)=0 from rfl] at e;simp only [A5Q,B5A,K1,A0 hmost,E3f ht,B1c t (by omega),bO,Bool.not_true,cond_false,bSl,e];unfold I0;by_cases h:(gfM b most b.length t 0 []).1=0
  · obtain ⟨z1,z2⟩:=hz h
    rw [if_pos h,h,<- z1,<- z2];rfl
  · rw [if_neg h,A1 h]
    rfl
set_option maxRecDepth 100000
def nmA(l:List A4)(k:Nat):X0:=(rd A5 l (k:Int)).1
def L7(l:List A4)(name:X0):Nat->Nat
  | 0=>0
  | k+1=>L7 l name k+(if ((nmA l k).toList == name.toList)=true then 1 else 0)
def T9(l:List A4)(name:X0):Nat->X0
  | 0=>⟨#[]⟩
  | k+1=>if ((nmA l k).toList == name.toList)=true then (if L7 l name k=0 then (rd A5 l (k:Int)).2 else T9 l name k) else T9 l name k
theorem E0p(l:List A4)(name:X0):∀ k,L7 l name k<=k
  | 0=>Nat.le_refl _
  | k+1=>by have:=E0p l name k;unfold L7;split<;>omega
theorem A2h(l:List A4)(name:X0)(hl:l.length<=1000000):J0 l name=some (T9 l name l.length,(L7 l name l.length:Int),()):=by
  have e:=F6 (A5R l name) (fun k=>(T9 l name k,(L7 l name k:Int),(k:Int),())) l.length (T9 l name l.length,(L7 l name l.length:Int),()) (fun k hk=>by
    have h1:(k:Int)<(l.length:Int):=by omega
    have h2:(0:Int)<=(k:Int):=by omega
    have h3:=E0p l name k;have w1:i64.wrap ((k:Int)+1)=((k+1:Nat):Int):=by rw [w64 (by omega) (by omega)];omega
    have w2:i64.wrap ((L7 l name k:Int)+1)=((L7 l name k+1:Nat):Int):=by rw [w64 (by omega) (by omega)];omega
    simp only [A5R,A0 h1,A0 h2,cond_true,w1,w2];simp only [T9,L7];rw [show (rd A5 l (k:Int)).1=nmA l k from rfl];cases hq:((nmA l k).toList == name.toList) with
    | false=>simp only [cond_false,Bool.false_eq_true,if_false,Nat.add_zero]
    | true=>
      simp only [cond_true,if_true];by_cases h0:L7 l name k=0
      · rw [A0 (show (L7 l name k:Int)=0 by omega),if_pos h0];rfl
      · rw [A1 (show ¬ (L7 l name k:Int)=0 by omega),if_neg h0];rfl) (by
    have h1:¬ ((l.length:Nat):Int)<(l.length:Int):=by omega
    simp only [A5R,A1 h1,cond_false])
  simp only [J0,B9r];have e':C3 (A5R l name) ((⟨#[]⟩:X0),0,0,())=some (T9 l name l.length,(L7 l name l.length:Int),()):=e;rw [e'];rfl
theorem F7w{go:Nat->Bool}{n:Nat}{f:Int×Unit->Option ((Int×Unit)⊕(Unit⊕(Bool×Unit)))}(hs:∀ i:Nat,i<n->f ((i:Int),())=if go i then some (.inl (((i+1:Nat):Int),())) else some (.inr (.inr (false,()))))
    (he:f ((n:Int),())=some (.inr (.inl ()))) (g:Unit->Option (Bool×Unit)) (c:Bool) (hg:g ()=some (c,())):D7 (C3 f (0,())) g=some ((List.range n).all go&&c,()):=by
  obtain ⟨i,h1,h2,h3,h4⟩:=A1e f (fun i=>((i:Int),())) n (fun i=>if i<n then .inr (false,()) else .inl ()) go (fun i hi=>by
    simp only [if_pos hi];exact hs i hi) (by simp only [Nat.lt_irrefl,if_false];exact he)
  have h4':C3 f (0,())=some (if i<n then .inr (false,()) else .inl ()):=h4;rw [h4'];by_cases hi:i<n
  · rw [if_pos hi]
    have:(List.range n).all go=false:=by
      rw [List.all_eq_false];exact ⟨i,List.mem_range.2 hi,by simp [h3 hi]⟩
    simp [D7,this]
  · rw [if_neg hi]
    have:(List.range n).all go=true:=by
      rw [List.all_eq_true];intro j hj;exact h2 j (by have:=List.mem_range.1 hj;omega)
    simp only [D7,this,hg,Bool.true_and]
def C1v(s:X0)(i:Nat):Bool:=decide (65<=bt s (i:Int))&&decide (bt s (i:Int)<=90)
def C5w(s:X0):Bool:=(List.range s.size).all (fun i=>!C1v s i)&&!(s.toList == (⟨#[]⟩:X0).toList)
theorem E3i(s:X0)(h:s.size<=1000000000):A41 s=some (C5w s,()):=by
  simp only [A41,C4I];refine F7w (fun i hi=>?_) ?_ _ _ rfl
  · have h1:(i:Int)<(s.size:Int):=by omega
    have h2:(0:Int)<=(i:Int):=by omega
    have w1:i64.wrap ((i:Int)+1)=((i+1:Nat):Int):=by rw [w64 (by omega) (by omega)];omega
    simp only [B7c,A0 h1,A0 h2,cond_true,w1];by_cases a:65<=bt s (i:Int)
    · rw [A0 (show bt s (i:Int)>=65 from a)]
      by_cases b:bt s (i:Int)<=90
      · rw [show C1v s i=true by unfold C1v;rw [A0 a,A0 b];rfl,A0 b];rfl
      · rw [show C1v s i=false by unfold C1v;rw [A0 a,A1 b];rfl,A1 b];rfl
    · rw [show C1v s i=false by unfold C1v;rw [A1 a];rfl,A1 (show ¬ bt s (i:Int)>=65 from a)];rfl
  · have h1:¬ (s.size:Int)<(s.size:Int):=by omega
    simp only [B7c,A1 h1,cond_false]
theorem D3m{s:X0}(h:(!(s.toList == (⟨#[]⟩:X0).toList))=true):0<s.size:=by
  rcases Nat.eq_zero_or_pos s.size with h0 | h0
  · exfalso
    have:s=⟨#[]⟩:=ByteArray.ext (Array.eq_empty_of_size_eq_zero h0);rw [this] at h;simp at h
  · exact h0
theorem E71{s:X0}(h:C5w s=true):0<s.size:=D3m (by
  unfold C5w at h;simp only [Bool.and_eq_true] at h;exact h.2)
abbrev nM:X0:=⟨#[58,109,101,116,104,111,100]⟩
abbrev nS:X0:=⟨#[58,115,99,104,101,109,101]⟩
abbrev nP:X0:=⟨#[58,112,97,116,104]⟩
abbrev nA:X0:=⟨#[58,97,117,116,104,111,114,105,116,121]⟩
def C4g(x:X0):Bool:=(x.toList == nM.toList)||(x.toList == nS.toList)||(x.toList == nP.toList)||(x.toList == nA.toList)
theorem D6l(a b c d x:X0):E7 [a,b,c,d] x=some ((x.toList == a.toList)||(x.toList == b.toList)||(x.toList == c.toList)||(x.toList == d.toList),()):=by
  have s0:G9 [a,b,c,d] x (0,())=bif (x.toList == a.toList) then some (.inr (0,())) else some (.inl (1,())):=rfl
  have s1:G9 [a,b,c,d] x (1,())=bif (x.toList == b.toList) then some (.inr (1,())) else some (.inl (2,())):=rfl
  have s2:G9 [a,b,c,d] x (2,())=bif (x.toList == c.toList) then some (.inr (2,())) else some (.inl (3,())):=rfl
  have s3:G9 [a,b,c,d] x (3,())=bif (x.toList == d.toList) then some (.inr (3,())) else some (.inl (4,())):=rfl
  have s4:G9 [a,b,c,d] x (4,())=some (.inr (-1,())):=rfl;simp only [E7,T7,P7,A03];rw [C8,s0];cases (x.toList == a.toList)
  case true=>rfl
  simp only [cond_false];rw [C8,s1];cases (x.toList == b.toList)
  case true=>rfl
  simp only [cond_false];rw [C8,s2];cases (x.toList == c.toList)
  case true=>rfl
  simp only [cond_false];rw [C8,s3];cases (x.toList == d.toList)
  case true=>rfl
  simp only [cond_false];rw [C8,s4];rfl
def plN(l:List A4):Nat->Bool
  | 0=>false
  | k+1=>plN l k||!decide (bt (nmA l k) 0=58)
def B8n(l:List A4)(k:Nat):Bool:=C5w (nmA l k)&&(bif decide (bt (nmA l k) 0=58) then !plN l k&&C4g (nmA l k)&&decide (L7 l (nmA l k) l.length<=1) else true)
def D3n(l:List A4):Bool:=(List.range l.length).all (B8n l)&&(decide (1<=L7 l nM l.length)&&decide (1<=L7 l nS l.length)&&decide (1<=L7 l nP l.length))
theorem E3j(l:List A4)(hl:l.length<=1000000)(hn:∀ f∈l,f.1.size<=1000000000)(k:Nat)(hk:k<l.length) :
    A4O A41 J0 E7 l (plN l k,(k:Int),())=if B8n l k then some (.inl (plN l (k+1),((k+1:Nat):Int),())) else some (.inr (.inr (false,()))):=by
  have h1:(k:Int)<(l.length:Int):=by omega
  have h2:(0:Int)<=(k:Int):=by omega
  have w1:i64.wrap ((k:Int)+1)=((k+1:Nat):Int):=by rw [w64 (by omega) (by omega)];omega
  have hz:(nmA l k).size<=1000000000:=by
    have e:rd A5 l (k:Int)=l[k]:=T8 (k:=A5) hk;unfold nmA;rw [e];exact hn _ (List.getElem_mem hk)
  simp only [A4O,A0 h1,A0 h2,cond_true,w1];rw [show (rd A5 l (k:Int)).1=nmA l k from rfl,E3i _ hz];simp only [bO];unfold B8n;cases hq:C5w (nmA l k) with
  | false=>rfl
  | true=>
    have h0:=E71 hq;rw [A0 (show (0:Int)<((nmA l k).size:Int) by omega),A2h l _ hl,D6l];simp only [Bool.not_true,cond_false,cond_true,bO,Bool.true_and,plN];by_cases h58:bt (nmA l k) 0=58
    · rw [A0 h58]
      simp only [Bool.not_true,cond_false,cond_true,Bool.or_false];rw [show ((nmA l k).toList == nM.toList||(nmA l k).toList == nS.toList||(nmA l k).toList == nP.toList||(nmA l k).toList == nA.toList)=C4g (nmA l k) from rfl];cases plN l k with
      | true=>rfl
      | false=>
        cases C4g (nmA l k) with
        | false=>rfl
        | true=>
          by_cases hc:L7 l (nmA l k) l.length<=1
          · rw [A1 (show ¬ (L7 l (nmA l k) l.length:Int)>1 by omega),A0 hc];rfl
          · rw [A0 (show (L7 l (nmA l k) l.length:Int)>1 by omega),A1 hc];rfl
    · rw [A1 h58]
      simp
theorem F6v(l:List A4)(hl:l.length<=1000000):C3 (A4P J0 l) (0,())=some (decide (1<=L7 l nM l.length)&&decide (1<=L7 l nS l.length)&&decide (1<=L7 l nP l.length),()):=by
  have s0:A4P J0 l (0,())=A3 (J0 l nM) fun c55=>bif (decide (c55.2.1=0)) then some (.inr (false,())) else some (.inl (1,())):=rfl
  have s1:A4P J0 l (1,())=A3 (J0 l nS) fun c55=>bif (decide (c55.2.1=0)) then some (.inr (false,())) else some (.inl (2,())):=rfl
  have s2:A4P J0 l (2,())=A3 (J0 l nP) fun c55=>bif (decide (c55.2.1=0)) then some (.inr (false,())) else some (.inl (3,())):=rfl
  have s3:A4P J0 l (3,())=some (.inr (true,())):=rfl;have hd:∀ n:Nat,decide ((n:Int)=0)=!decide (1<=n):=fun n=>by
    by_cases h:1<=n
    · rw [A0 h,A1 (by omega)];rfl
    · rw [A1 h,A0 (by omega)];rfl
  rw [C8,s0,A2h l _ hl];simp only [bO,hd];cases decide (1<=L7 l nM l.length)
  case false=>rfl
  simp only [Bool.not_true,cond_false];rw [C8,s1,A2h l _ hl];simp only [bO,hd];cases decide (1<=L7 l nS l.length)
  case false=>rfl
  simp only [Bool.not_true,cond_false];rw [C8,s2,A2h l _ hl];simp only [bO,hd];cases decide (1<=L7 l nP l.length)
  case false=>rfl
  simp only [Bool.not_true,cond_false];rw [C8,s3];rfl
theorem E3k(l:List A4)(hl:l.length<=1000000)(hn:∀ f∈l,f.1.size<=1000000000):B2n l=some (D3n l,()):=by
  simp only [B2n,C4J];obtain ⟨i,h1,h2,h3,h4⟩:=A1e (A4O A41 J0 E7 l) (fun i=>(plN l i,(i:Int),())) l.length (fun i=>if i<l.length then .inr (false,()) else .inl ()) (B8n l) (fun i hi=>by
    simp only [if_pos hi];exact E3j l hl hn i hi) (by
    have h1:¬ ((l.length:Nat):Int)<(l.length:Int):=by omega
    simp only [Nat.lt_irrefl,if_false,A4O,A1 h1,cond_false])
  have h4':C3 (A4O A41 J0 E7 l) (false,0,())=some (if i<l.length then .inr (false,()) else .inl ()):=h4;rw [h4'];unfold D3n;by_cases hi:i<l.length
  · rw [if_pos hi]
    have:(List.range l.length).all (B8n l)=false:=by
      rw [List.all_eq_false];exact ⟨i,List.mem_range.2 hi,by simp [h3 hi]⟩
    simp [D7,this]
  · rw [if_neg hi]
    have:(List.range l.length).all (B8n l)=true:=by
      rw [List.all_eq_true];intro j hj;exact h2 j (by have:=List.mem_range.1 hj;omega)
    simp only [D7,this,Bool.true_and];exact F6v l hl
def opB(a:X0):Int:=
  bif ((⟨#[80,79,83,84]⟩:X0).toList == a.toList) then 1 else bif ((⟨#[72,69,65,68]⟩:X0).toList == a.toList) then 2 else bif ((⟨#[80,65,84,67,72]⟩:X0).toList == a.toList) then 3 else bif ((⟨#[80,85,84]⟩:X0).toList == a.toList) then 4 else bif ((⟨#[71,69,84]⟩:X0).toList == a.toList) then 5 else bif ((⟨#[68,69,76,69,84,69]⟩:X0).toList == a.toList) then 6 else 0
theorem F1k(a:X0):B9s a=some (opB a,()):=by
  have s1:A42 V3 a (1,())=bif ((⟨#[80,79,83,84]⟩:X0).toList == a.toList) then some (.inr (1,())) else some (.inl (2,())):=rfl
  have s2:A42 V3 a (2,())=bif ((⟨#[72,69,65,68]⟩:X0).toList == a.toList) then some (.inr (2,())) else some (.inl (3,())):=rfl
  have s3:A42 V3 a (3,())=bif ((⟨#[80,65,84,67,72]⟩:X0).toList == a.toList) then some (.inr (3,())) else some (.inl (4,())):=rfl
  have s4:A42 V3 a (4,())=bif ((⟨#[80,85,84]⟩:X0).toList == a.toList) then some (.inr (4,())) else some (.inl (5,())):=rfl
  have s5:A42 V3 a (5,())=bif ((⟨#[71,69,84]⟩:X0).toList == a.toList) then some (.inr (5,())) else some (.inl (6,())):=rfl
  have s6:A42 V3 a (6,())=bif ((⟨#[68,69,76,69,84,69]⟩:X0).toList == a.toList) then some (.inr (6,())) else some (.inl (7,())):=rfl
  have s7:A42 V3 a (7,())=some (.inr (0,())):=rfl;simp only [B9s,D3D,opB];rw [C8,s1];cases ((⟨#[80,79,83,84]⟩:X0).toList == a.toList)
  case true=>rfl
  simp only [cond_false];rw [C8,s2];cases ((⟨#[72,69,65,68]⟩:X0).toList == a.toList)
  case true=>rfl
  simp only [cond_false];rw [C8,s3];cases ((⟨#[80,65,84,67,72]⟩:X0).toList == a.toList)
  case true=>rfl
  simp only [cond_false];rw [C8,s4];cases ((⟨#[80,85,84]⟩:X0).toList == a.toList)
  case true=>rfl
  simp only [cond_false];rw [C8,s5];cases ((⟨#[71,69,84]⟩:X0).toList == a.toList)
  case true=>rfl
  simp only [cond_false];rw [C8,s6];cases ((⟨#[68,69,76,69,84,69]⟩:X0).toList == a.toList)
  case true=>rfl
  simp only [cond_false];rw [C8,s7]
abbrev nUp:X0:=⟨#[47,117,112,47]⟩
theorem D3o(s:X0):T2 s nUp=some (bif decide (4<=s.size)&&((s.extract 0 4).toList == nUp.toList) then (s.extract 4 s.size,true,()) else (s,false,())):=by
  have h4:nUp.size=4:=rfl;simp only [T2,A5E,M3,S4,M1,S3,h4];by_cases h:4<=s.size
  · rw [A0 (show (s.size:Int)>=((4:Nat):Int) by omega),A0 h]
    simp only [show decide ((0:Int)<=((4:Nat):Int))=true from rfl,cond_true,bO,Int.toNat_natCast,Bool.true_and];cases ((s.extract 0 4).toList == nUp.toList)<;>rfl
  · rw [A1 (show ¬ (s.size:Int)>=((4:Nat):Int) by omega),A1 h]
    rfl
def B3J(s:X0)(i:Nat):Bool:=decide (48<=bt s (i:Int))&&decide (bt s (i:Int)<=57)
def A0g(s:X0):Nat->Nat
  | 0=>0
  | k+1=>A0g s k*10+(bt s (k:Int)-48).toNat
theorem E0q(s:X0):∀ k,A0g s k+25<=25*10 ^ k
  | 0=>by simp [A0g]
  | k+1=>by
    have h1:=E0q s k;have h2:=C2M s (k:Int);rw [A0g,Nat.pow_succ];omega
def E3l(s:X0)(most:Int):Bool:=decide (1<=(s.size:Int)/\(s.size:Int)<=10)&&(List.range s.size).all (B3J s)&&decide ((A0g s s.size:Int)<=most)&&((itB (A0g s s.size:Int)).toList == s.toList)
theorem D6m(s:X0)(most:Int)(hm:most<=4294967295):A7T s most=some (bif E3l s most then ((A0g s s.size:Int),true,()) else (0,false,())):=by
  simp only [A7T,B7b,K1,bO];unfold E3l;by_cases hr:1<=(s.size:Int)/\(s.size:Int)<=10
  · rw [A0 hr]
    simp only [Bool.not_true,cond_false,Bool.true_and];obtain ⟨i,h1,h2,h3,h4⟩:=A1e (A40 s) (fun i=>((A0g s i:Int),(i:Int),())) s.size (fun i=>if i<s.size then .inr (0,false,()) else .inl ((A0g s s.size:Int),())) (B3J s) (fun i hi=>by
      have h1:(i:Int)<(s.size:Int):=by omega
      have h2:(0:Int)<=(i:Int):=by omega
      have w1:i64.wrap ((i:Int)+1)=((i+1:Nat):Int):=by rw [w64 (by omega) (by omega)];omega
      have b1:=D8k s (i:Int);have b2:=C2M s (i:Int);have hn:=E0q s i;have hp:10 ^ i<=10 ^ 10:=Nat.pow_le_pow_right (by omega) (by omega);simp only [if_pos hi,A40,A0 h1,A0 h2,cond_true,w1];by_cases c1:bt s (i:Int)<48
      · rw [show B3J s i=false by unfold B3J;rw [A1 (show ¬ 48<=bt s (i:Int) by omega)];rfl,A0 c1];rfl
      · rw [A1 c1]
        by_cases c2:bt s (i:Int)>57
        · rw [show B3J s i=false by unfold B3J;rw [A1 (show ¬ bt s (i:Int)<=57 by omega),Bool.and_false],A0 c2];rfl
        · rw [show B3J s i=true by unfold B3J;rw [A0 (show 48<=bt s (i:Int) by omega),A0 (show bt s (i:Int)<=57 by omega)];rfl,A1 c2]
          simp only [cond_false,bSl,if_true];have e1:u8.wrap (bt s (i:Int)-48)=bt s (i:Int)-48:=by
            rw [show bt s (i:Int)-48=(((bt s (i:Int)-48).toNat:Nat):Int) by omega];exact C9t (by omega)
          rw [e1,w64 (n:=bt s (i:Int)-48) (by omega) (by omega),w64 (n:=(A0g s i:Int)*10) (by omega) (by omega),w64 (by omega) (by omega),A0g];rw [show (A0g s i:Int)*10+(bt s (i:Int)-48)=((A0g s i*10+(bt s (i:Int)-48).toNat:Nat):Int) by omega]) (by
      have h1:¬ ((s.size:Nat):Int)<(s.size:Int):=by omega
      simp only [Nat.lt_irrefl,if_false,A40,A1 h1,cond_false])
    have h4':C3 (A40 s) (0,0,())=some (if i<s.size then .inr (0,false,()) else .inl ((A0g s s.size:Int),())):=h4;rw [h4'];by_cases hi:i<s.size
    · rw [if_pos hi]
      have:(List.range s.size).all (B3J s)=false:=by
        rw [List.all_eq_false];exact ⟨i,List.mem_range.2 hi,by simp [h3 hi]⟩
      simp [D7,this]
    · rw [if_neg hi]
      have ha:(List.range s.size).all (B3J s)=true:=by
        rw [List.all_eq_true];intro j hj;exact h2 j (by have:=List.mem_range.1 hj;omega)
      simp only [bSl,ha,Bool.true_and];by_cases hq:(A0g s s.size:Int)<=most
      · rw [A1 (show ¬ (A0g s s.size:Int)>most by omega),A0 hq,F6r _ (by omega) (by omega)]
        simp only [cond_false,bO,Bool.true_and];cases ((itB (A0g s s.size:Int)).toList == s.toList)<;>rfl
      · rw [A0 (show (A0g s s.size:Int)>most by omega),A1 hq]
        rfl
  · rw [A1 hr]
    rfl
set_option maxRecDepth 100000
theorem E0r{l:List A4}(hl:∀ f∈l,f.1.size<=10000/\f.2.size<=10000)(name:X0):∀ k,k<=l.length->(T9 l name k).size<=10000
  | 0,_=>by simp [T9,ByteArray.size]
  | k+1,h=>by
    have h1:=E0r hl name k (by omega);have e:rd A5 l (k:Int)=l[k]:=T8 (k:=A5) (by omega);unfold T9;split
    · split
      · rw [e];exact (hl _ (List.getElem_mem _)).2
      · exact h1
    · exact h1
def A6o(op:Int):X0×Int:=if op=1 then (⟨#[117,112,108,111,97,100,45,108,101,110,103,116,104]⟩,1000000000) else if op=3 then (⟨#[117,112,108,111,97,100,45,111,102,102,115,101,116]⟩,1000000000) else if op=4 then (⟨#[117,112,108,111,97,100,45,115,117,109]⟩,4294967295) else (⟨#[]⟩,0)
theorem C8c(op:Int):A2n op=some ((A6o op).1,(A6o op).2,()):=by
  simp only [A2n,B0V];unfold A6o;by_cases h1:op=1
  · rw [A0 h1,if_pos h1];rfl
  rw [A1 h1,if_neg h1];by_cases h3:op=3
  · rw [A0 h3,if_pos h3];rfl
  rw [A1 h3,if_neg h3];by_cases h4:op=4
  · rw [A0 h4,if_pos h4];rfl
  · rw [A1 h4,if_neg h4];rfl
theorem F1l(op:Int):(A6o op).2<=4294967295:=by
  unfold A6o;split
  · simp
  · split
    · simp
    · split<;>simp
abbrev noR:B4w:=(0,⟨#[]⟩,0)
def B5v(s:X0):X0×Bool:=bif decide (4<=s.size)&&((s.extract 0 4).toList == nUp.toList) then (s.extract 4 s.size,true) else (s,false)
def A2C(l:List A4):B4w×Int:=
  bif D3n l then
    (if opB (T9 l nM l.length)=0 then (noR,2)
     else bif (B5v (T9 l nP l.length)).2&&idB (B5v (T9 l nP l.length)).1 then
      (bif ((A6o (opB (T9 l nM l.length))).1.toList == (⟨#[]⟩:X0).toList) then ((opB (T9 l nM l.length),(B5v (T9 l nP l.length)).1,0),0)
       else bif decide (L7 l (A6o (opB (T9 l nM l.length))).1 l.length=1)&&E3l (T9 l (A6o (opB (T9 l nM l.length))).1 l.length) (A6o (opB (T9 l nM l.length))).2
         then ((opB (T9 l nM l.length),(B5v (T9 l nP l.length)).1,(A0g (T9 l (A6o (opB (T9 l nM l.length))).1 l.length) (T9 l (A6o (opB (T9 l nM l.length))).1 l.length).size:Int)),0) else (noR,4))
     else (noR,3))
  else (noR,1)
theorem E72(s:X0)(a b:Nat):(s.extract a b).size<=s.size:=by rw [ByteArray.size_extract];omega
theorem F55(s:X0):(B5v s).1.size<=s.size:=by
  unfold B5v;cases decide (4<=s.size)&&((s.extract 0 4).toList == nUp.toList)
  · exact Nat.le_refl _
  · exact E72 _ _ _
theorem E73(l:List A4)(hl:l.length<=1000)(hn:∀ f∈l,f.1.size<=10000/\f.2.size<=10000):B5q l=some ((A2C l).1,(A2C l).2,()):=by
  have hv:=fun name=>E0r hn name l.length (Nat.le_refl _)
  have hi:(B5v (T9 l nP l.length)).1.size<=maxLen:=by have:=F55 (T9 l nP l.length);have:=hv nP;simp only [maxLen];omega
  simp only [B5q,C8Q,E3k l (by omega) (fun f hf=>by have:=(hn f hf).1;omega),bO];unfold A2C;cases D3n l
  case false=>rfl
  simp only [Bool.not_true,cond_false,cond_true];have v1:=A2h l nM (by omega);have v2:=A2h l nP (by omega);simp only [v1,v2,bO,F1k];by_cases h0:opB (T9 l nM l.length)=0
  · rw [A0 h0,if_pos h0];rfl
  rw [A1 h0,if_neg h0];simp only [cond_false];have hc:T2 (T9 l nP l.length) nUp=some ((B5v (T9 l nP l.length)).1,(B5v (T9 l nP l.length)).2,()):=by
    rw [D3o];unfold B5v;cases decide (4<=(T9 l nP l.length).size)&&(((T9 l nP l.length).extract 0 4).toList == nUp.toList)<;>rfl
  rw [hc];simp only [bO,F6i _ hi,C8c];cases (B5v (T9 l nP l.length)).2
  case false=>rfl
  cases idB (B5v (T9 l nP l.length)).1
  case false=>rfl
  simp only [Bool.not_true,cond_false,bSl,Bool.and_self,cond_true];cases ((A6o (opB (T9 l nM l.length))).1.toList == (⟨#[]⟩:X0).toList)
  case true=>rfl
  simp only [cond_false];rw [A2h l _ (by omega)];simp only [bO];rw [D6m _ _ (F1l _)];simp only [bO];by_cases h1:L7 l (A6o (opB (T9 l nM l.length))).1 l.length=1
  · rw [A0 (show (L7 l (A6o (opB (T9 l nM l.length))).1 l.length:Int)=1 by omega),A0 h1]
    simp only [Bool.not_true,cond_false,Bool.true_and];cases E3l (T9 l (A6o (opB (T9 l nM l.length))).1 l.length) (A6o (opB (T9 l nM l.length))).2<;>rfl
  · rw [A1 (show ¬ (L7 l (A6o (opB (T9 l nM l.length))).1 l.length:Int)=1 by omega),A1 h1]
    rfl
noncomputable def stV(st ev:Int):Int×Int:=match N1 st ev with
  | some x=>(x.1,x.2.1)
  | none=>(0,1)
theorem F1m(ev:Int):∃ a b,A7P ev=some (a,b,()):=by
  simp only [A7P,B7U];cases decide (ev=1)<;>cases decide (ev=2)<;>cases decide (ev=6)<;>cases decide (ev=7)<;>exact ⟨_,_,rfl⟩
theorem F1n(ev:Int):∃ a b,A7Q ev=some (a,b,()):=by
  simp only [A7Q,B7V];cases decide (ev=1)<;>cases decide (ev=2)<;>cases decide (ev=4)<;>cases decide (ev=7)<;>cases decide (ev=9)<;>cases decide (ev=5)<;>cases decide (ev=10)<;>exact ⟨_,_,rfl⟩
theorem E74(ev:Int):∃ a b,A1A ev=some (a,b,()):=by
  simp only [A1A,A7R];cases decide (ev=5)<;>cases decide (ev=6)<;>cases decide (ev=7)<;>cases decide (ev=8)<;>cases decide (ev=9)<;>cases decide (ev=10)<;>exact ⟨_,_,rfl⟩
theorem F1o(ev:Int):∃ a b,A22 ev=some (a,b,()):=by
  simp only [A22,A8c];cases decide (ev=1)<;>cases decide (ev=2)<;>cases decide (ev=3)<;>cases decide (ev=4)<;>cases decide (ev=5)<;>cases decide (ev=10)<;>exact ⟨_,_,rfl⟩
theorem D90(st ev:Int):N1 st ev=some ((stV st ev).1,(stV st ev).2,()):=by
  have:∃ a b,N1 st ev=some (a,b,()):=by
    obtain ⟨a1,b1,e1⟩:=F1m ev;obtain ⟨a2,b2,e2⟩:=F1n ev;obtain ⟨a3,b3,e3⟩:=E74 ev;obtain ⟨a4,b4,e4⟩:=F1o ev;simp only [N1,A7S,K1,bO,e1,e2,e3,e4];cases decide (1<=ev/\ev<=10)<;>cases decide (st=0)<;>cases decide (st=1)<;>cases decide (st=2)<;>cases decide (st=3)<;>cases decide (st=4)<;>cases decide (ev=5)<;>exact ⟨_,_,rfl⟩
  obtain ⟨a,b,e⟩:=this;unfold stV;rw [e]
set_option maxRecDepth 100000
structure HM where
  g:D6
  dec:B2
  strs:List F7
  last:Int
  calls:List H0
  out:List Int
abbrev mkC(pre:Int)(inn:List Int)(enc:B2)(dead:Int)(m:HM):E9:=(pre,inn,m.g,m.dec,enc,m.strs,m.last,dead)
abbrev mkH(pre:Int)(inn:List Int)(enc:B2)(dead:Int)(m:HM):B6:=(mkC pre inn enc dead m,m.calls,m.out)
def E0s(last:Int)(s:F7):Prop:=s.1.tmod 2=1/\1<=s.1/\s.1<=last/\(s.2.1=1\/s.2.1=2)/\s.2.2.2.length<=2000
def B5w(strs:List F7)(last:Int):Prop:=strs.length<=100/\(strs.map (·.1)).Pairwise (· < ·)/\∀ s∈strs,E0s last s
def sAt(strs:List F7)(i:Nat):F7:=rd B7 strs (i:Int)
theorem A1r{strs:List F7}{i:Nat}(h:i<strs.length):sAt strs i=strs[i]:=T8 (k:=B7) h
theorem D91{strs:List F7}{last:Int}(h:B5w strs last){i:Nat}(hi:i<strs.length){s:F7}(h1:s.1=(sAt strs i).1)(h2:s.2.1=1\/s.2.1=2)(h3:s.2.2.2.length<=2000):B5w (strs.set i s) last:=by
  obtain ⟨a,b,c⟩:=h;rw [A1r hi] at h1;refine ⟨by simpa using a,?_,fun x hx=>?_⟩
  · rw [List.map_set,h1]
    have:(strs.map (·.1)).set i strs[i].1=strs.map (·.1):=by
      apply List.ext_getElem (by simp);intro j hj1 hj2;rw [List.getElem_set];split
      · rename_i e;subst e;simp
      · rfl
    rw [this];exact b
  · rcases List.mem_or_eq_of_mem_set hx with q | q
    · exact c x q
    · subst q
      have:=c _ (List.getElem_mem hi);unfold E0s at this ⊢;rw [h1];exact ⟨this.1,this.2.1,this.2.2.1,h2,h3⟩
end Go.Proofs.YthnfghmjipikhaaGreatDoor.Ev
