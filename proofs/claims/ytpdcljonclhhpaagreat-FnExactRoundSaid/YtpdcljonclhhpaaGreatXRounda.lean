/- What the plain functions of the program and of the reference answer: laws of plain data. -/
import Derived.Test.YtpdcljonclhhpaaGreatPu
import Derived.Laws.Strings
set_option linter.unusedVariables false
set_option linter.unusedSimpArgs false
namespace Go.Proofs.YtpdcljonclhhpaaGreat.Ev
theorem w64{n:Int}(h0:-9223372036854775808≤n)(h1:n<9223372036854775808):IntKind.i64.wrap n=n:=by
  simp only [IntKind.wrap,IntKind.bits,IntKind.signed,Bool.true_and]
  simp
  split<;>omega
theorem A3M{α β:Type}(f:α→Option (α⊕β))(μ:α→Nat)(I:α→Prop)(Q:β→Prop)
    (h:∀ x,I x→(∃ y,f x=some (.inl y)∧I y∧μ y<μ x)∨∃ z,f x=some (.inr z)∧Q z):∀ x,I x→∃ z,B7 f x=some z∧Q z:=by
  intro x
  generalize hn:μ x=n
  induction n using Nat.strongRecOn generalizing x with
  | ind n ih=>
    intro hx
    rw [I0]
    rcases h x hx with ⟨y,e,hy,hl⟩ | ⟨z,e,hz⟩
    · rw [e];exact ih (μ y) (by omega) y rfl hy
    · rw [e];exact ⟨z,rfl,hz⟩
theorem E5{α β:Type}(f:α→Option (α⊕β))(s:Nat→α)(n:Nat)(z:β)(h:∀ i,i<n→f (s i)=some (.inl (s (i+1))))(he:f (s n)=some (.inr z)):B7 f (s 0)=some z:=by
  have key:∀ k i,i+k=n→B7 f (s i)=some z:=by
    intro k
    induction k with
    | zero=>intro i hi;rw [I0,show i=n by omega,he]
    | succ k ih=>intro i hi;rw [I0,h i (by omega)];exact ih (i+1) (by omega)
  exact key n 0 (by omega)
theorem E03{α β:Type}(f:α→Option (α⊕β))(s:Nat→α)(n:Nat)(z:Nat→β)(go:Nat→Bool)(h:∀ i,i<n→f (s i)=if go i then some (.inl (s (i+1))) else some (.inr (z i)))(he:f (s n)=some (.inr (z n))) :
    ∃ i,i≤n∧(∀ j,j<i→go j=true)∧(i<n→go i=false)∧B7 f (s 0)=some (z i):=by
  have key:∀ k i,i+k=n→(∀ j,j<i→go j=true)→∃ i',i'≤n∧(∀ j,j<i'→go j=true)∧(i'<n→go i' = false)∧B7 f (s i)=some (z i'):=by
    intro k
    induction k with
    | zero=>
      intro i hi hg
      obtain rfl:i=n:=by omega
      exact ⟨i,Nat.le_refl _,hg,fun h=>absurd h (by omega),by rw [I0,he]⟩
    | succ k ih=>
      intro i hi hg
      cases hgo:go i with
      | true=>
        obtain ⟨i',h1,h2,h3,h4⟩:=ih (i+1) (by omega) (fun j hj=>by
          by_cases h:j<i
          · exact hg j h
          · rw [show j=i by omega];exact hgo)
        refine ⟨i',h1,h2,h3,?_⟩
        rw [I0,h i (by omega),if_pos hgo]
        exact h4
      | false=>
        refine ⟨i,by omega,hg,fun _=>hgo,?_⟩
        rw [I0,h i (by omega),hgo]
        rfl
  exact key n 0 (by omega) (fun j hj=>by omega)
theorem E9f(s:ByteArray)(i:Int):0≤bt s i:=by unfold bt;omega
theorem E9g(s:ByteArray)(i:Int):bt s i<256:=by
  have:=(s.data.toList.getD i.toNat 0).toNat_lt
  unfold bt;omega
theorem E9F(s:ByteArray)(i:Int):IntKind.i64.wrap (bt s i)=bt s i:=w64 (by have:=E9f s i;omega) (by have:=E9g s i;omega)
theorem D0{k:K}{xs:List k.T}{i:Nat}(h:i<xs.length):rd k xs (i:Int)=xs[i]:=by
  unfold rd
  rw [Int.toNat_natCast]
  simp [List.getD,h]
theorem C2N{κ:IntKind}{xs:List Int}{i:Nat}(h:i<xs.length):rd (.int κ) xs (i:Int)=xs[i]:=D0 (k:=.int κ) h
theorem E2z{xs:List Bool}{i:Nat}(h:i<xs.length):rd .bool xs (i:Int)=xs[i]:=D0 (k:=.bool) h
theorem A6m{xs:List ByteArray}{i:Nat}(h:i<xs.length):rd .str xs (i:Int)=xs[i]:=D0 (k:=.str) h
theorem E9G{κ:IntKind}{n:Int}(h:Wf (.int κ) n):κ.min≤n∧n≤κ.max:=by
  simp only [Wf,Lit.wf,Bool.and_eq_true,decide_eq_true_eq] at h
  exact h
theorem wf_u8{n:Int}(h:Wf (.int .u8) n):0≤n∧n<256:=by
  have:=E9G h
  simp only [IntKind.min,IntKind.max,IntKind.signed,IntKind.bits] at this
  simp at this
  omega
def Byt(a:List Int):Prop:=∀ x∈a,0≤x∧x<256
theorem E04{a:List Int}(h:∀ x∈a,Wf (.int .u8) x):Byt a:=fun x hx=>wf_u8 (h x hx)
theorem A0{p:Prop} [Decidable p] (h:p):decide p=true:=decide_eq_true h
theorem A4{p:Prop} [Decidable p] (h:¬ p):decide p=false:=decide_eq_false h
def Sm(N:Nat):(k:K)→k.T→Prop
  | .int _,_=>True
  | .bool,_=>True
  | .fnc _,_=>True
  | .str,s=>s.size≤N
  | .sl _ k,xs=>xs.length≤N∧∀ x∈xs,Sm N k x
  | .rs _ k,xs=>xs.length≤N∧∀ x∈xs,Sm N k x
  | .pair a b,x=>Sm N a x.1∧Sm N b x.2
theorem D6Q:∀ {k:K} {x:k.T},Wf k x→Sm maxLen k x
  | .int _,_,_=>trivial
  | .bool,_,_=>trivial
  | .fnc _,_,_=>trivial
  | .str,_,h=>h
  | .sl _ _,_,h=>⟨h.1,fun x hx=>D6Q (h.2 x hx)⟩
  | .rs _ _,_,h=>⟨h.1,fun x hx=>D6Q (h.2 x hx)⟩
  | .pair _ _,_,h=>⟨D6Q h.1,D6Q h.2⟩
theorem Sm.l{N:Nat}{a b:K}{x:(K.pair a b).T}(h:Sm N (.pair a b) x):Sm N a x.1:=h.1
theorem Sm.r{N:Nat}{a b:K}{x:(K.pair a b).T}(h:Sm N (.pair a b) x):Sm N b x.2:=h.2
def B40(P:Int→Option (Int×Unit))(S:Prop):Prop:=∀ l:Int,0≤l→l≤1048576→∃ r,P l=some (r,())∧r≤l∧(0≤r→S)
theorem C6b{T:Type}(f:T→Int→Option (Int×Unit))(S:T→Prop)(L:Int×Int×Unit→Option ((Int×Int×Unit)⊕(Int×Unit)))(a:List T)(hn:a.length≤maxLen)(hf:∀ x∈a,B40 (f x) (S x))
    (hs:∀ (i:Nat) (hi:i<a.length) (l:Int),L (l,(i:Int),())=A3 (f a[i] l) fun c=>bif decide (c.1<0) then some (.inr (-1,())) else some (.inl (c.1,IntKind.i64.wrap ((i:Int)+1),())))
    (he:∀ l,L (l,(a.length:Int),())=some (.inr (l,()))):B40 (fun l=>B7 L (l,0,())) (∀ x∈a,S x):=by
  have key:∀ k i,i+k=a.length→∀ l:Int,0≤l→l≤1048576→∃ r,B7 L (l,(i:Int),())=some (r,())∧r≤l∧(0≤r→∀ j (hj:j<a.length),i≤j→S a[j]):=by
    intro k
    induction k with
    | zero=>
      intro i hi l h0 h1
      obtain rfl:i=a.length:=by omega
      exact ⟨l,by rw [I0,he],Int.le_refl _,fun _ j hj hi=>by omega⟩
    | succ k ih=>
      intro i hi l h0 h1
      have hlt:i<a.length:=by omega
      obtain ⟨r,e,h2,h3⟩:=hf a[i] (List.getElem_mem hlt) l h0 h1
      rw [I0,hs i hlt,e]
      simp only [A3]
      by_cases hr:r<0
      · rw [A0 hr]
        exact ⟨-1,rfl,by omega,fun h=>by omega⟩
      · rw [A4 hr]
        simp only [cond_false]
        rw [w64 (by omega) (by simp only [maxLen] at hn;omega)]
        obtain ⟨r',e',h4,h5⟩:=ih (i+1) (by omega) r (by omega) (by omega)
        refine ⟨r',by simpa using e',by omega,fun h j hj hij=>?_⟩
        by_cases hji:j=i
        · subst hji;exact h3 (by omega)
        · exact h5 h j hj (by omega)
  intro l h0 h1
  obtain ⟨r,e,h2,h3⟩:=key a.length 0 (by omega) l h0 h1
  refine ⟨r,by simpa using e,h2,fun h x hx=>?_⟩
  obtain ⟨j,hj,rfl⟩:=List.getElem_of_mem hx
  exact h3 h j hj (by omega)
theorem B2o(L:Int×Unit→Option ((Int×Unit)⊕(Bool×Unit)))(n:Nat)(hn:n≤maxLen)(hs:∀ i:Nat,i<n→L ((i:Int),())=some (.inl (IntKind.i64.wrap ((i:Int)+1),())))
    (he:L ((n:Int),())=some (.inr (true,()))):B7 L (0,())=some (true,()):=by
  refine E5 L (fun i=>((i:Int),())) n (true,()) (fun i hi=>?_) he
  rw [hs i hi,w64 (by omega) (by simp only [maxLen] at hn;omega)]
  rfl
theorem B2p{T:Type}(L:Int×List T×Unit→Option ((Int×List T×Unit)⊕(List T×Unit)))(a:List T)(z:T)(hn:a.length≤maxLen)
    (hs:∀ (i:Nat) (hi:i<a.length) (b:List T),b.length=a.length→L ((i:Int),b,())=some (.inl (IntKind.i64.wrap ((i:Int)+1),b.set i a[i],())))
    (he:∀ b,L ((a.length:Int),b,())=some (.inr (b,()))):B7 L (0,List.replicate a.length z,())=some (a,()):=by
  have key:=E5 L (fun i=>((i:Int),a.take i++List.replicate (a.length-i) z,())) a.length (a,()) (fun i hi=>?_) ?_
  · simpa using key
  · have hl:(a.take i++List.replicate (a.length-i) z).length=a.length:=by simp;omega
    rw [hs i hi _ hl,w64 (by omega) (by simp only [maxLen] at hn;omega)]
    have:(a.take i++List.replicate (a.length-i) z).set i a[i]=a.take (i+1)++List.replicate (a.length-(i+1)) z:=by
      rw [List.set_append_right _ _ (by simp;omega)]
      rw [List.take_succ_eq_append_getElem hi,List.append_assoc]
      congr 1
      rw [show (a.take i).length=i by simp;omega,Nat.sub_self,show a.length-i=(a.length-(i+1))+1 by omega,List.replicate_succ]
      rfl
    rw [this]
    rfl
  · rw [he]
    simp
theorem B59{α β:Type}{f g:α→Option (α⊕β)}(I:α→Prop)(h:∀ x,I x→f x=g x)(hI:∀ x y,I x→f x=some (.inl y)→I y):∀ n x,I x→A6s f n x=A6s g n x
  | 0,_,_=>rfl
  | n+1,x,hx=>by
    simp only [A6s,← h x hx]
    cases e:f x with
    | none=>rfl
    | some v=>
      cases v with
      | inl y=>exact B59 I h hI n y (hI x y hx e)
      | inr z=>rfl
theorem B5A{α β:Type}{f g:α→Option (α⊕β)}(I:α→Prop)(h:∀ x,I x→f x=g x)(hI:∀ x y,I x→f x=some (.inl y)→I y){x:α}(hx:I x):B7 f x=B7 g x:=by
  cases e:B7 g x with
  | some z=>
    obtain ⟨n,hn⟩:=A4l e
    exact B4J (n:=n) (by rw [B59 I h hI n x hx];exact hn)
  | none=>
    cases e':B7 f x with
    | none=>rfl
    | some z=>
      obtain ⟨n,hn⟩:=A4l e'
      rw [B59 I h hI n x hx] at hn
      rw [B4J hn] at e
      cases e
def O7(go:Nat→Bool):Nat→Nat→Nat
  | i,0=>i
  | i,k+1=>if go i then O7 go (i+1) k else i
theorem C2O(go:Nat→Bool):∀ k i,O7 go i k≤i+k
  | 0,i=>Nat.le_refl _
  | k+1,i=>by
    simp only [O7]
    split
    · have:=C2O go k (i+1);omega
    · omega
theorem B2q(go:Nat→Bool):∀ k i,O7 go i k<i+k→go (O7 go i k)=false
  | 0,i,h=>by simp [O7] at h
  | k+1,i,h=>by
    simp only [O7] at h ⊢
    split
    · rename_i hg
      rw [if_pos hg] at h
      exact B2q go k (i+1) (by omega)
    · rename_i hg
      simpa using hg
theorem A3N{α β:Type}(f:α→Option (α⊕β))(s:Nat→α)(n:Nat)(z:Nat→β)(go:Nat→Bool)(h:∀ i,i<n→f (s i)=if go i then some (.inl (s (i+1))) else some (.inr (z i)))(he:f (s n)=some (.inr (z n))) :
    B7 f (s 0)=some (z (O7 go 0 n)):=by
  have key:∀ k i,i+k=n→B7 f (s i)=some (z (O7 go i k)):=by
    intro k
    induction k with
    | zero=>
      intro i hi
      obtain rfl:i=n:=by omega
      rw [I0,he]
      rfl
    | succ k ih=>
      intro i hi
      rw [I0,h i (by omega)]
      simp only [O7]
      cases go i with
      | true=>simp only [if_true];exact ih (i+1) (by omega)
      | false=>rfl
  exact key n 0 (by omega)
theorem C3a(L:Int×Unit→Option ((Int×Unit)⊕(Bool×Unit)))(n:Nat)(hn:n≤maxLen)(go:Nat→Bool)(hs:∀ i:Nat,i<n→L ((i:Int),())=bif go i then some (.inl (IntKind.i64.wrap ((i:Int)+1),())) else some (.inr (false,())))
    (he:L ((n:Int),())=some (.inr (true,()))):B7 L (0,())=some ((List.range n).all go,()):=by
  have h:=A3N L (fun i=>((i:Int),())) n (fun i=>(decide (i=n),())) go (fun i hi=>by
    rw [hs i hi,w64 (by omega) (by simp only [maxLen] at hn;omega)]
    cases go i with
    | true=>rfl
    | false=>simp only [Bool.false_eq_true,if_false,cond_false];rw [A4 (by omega)]) (by rw [he];simp)
  have h':B7 L (0,())=some (decide (O7 go 0 n=n),()):=h
  rw [h']
  have key:∀ k i,decide (O7 go i k=i+k)=((List.range k).all fun j=>go (i+j)):=by
    intro k
    induction k with
    | zero=>intro i;simp [O7]
    | succ k ih=>
      intro i
      have e:((List.range (k+1)).all fun j=>go (i+j))=(go i&&(List.range k).all fun j=>go (i+1+j)):=by
        rw [List.range_succ_eq_map,List.all_cons,List.all_map]
        simp only [Nat.add_zero]
        congr 2
        funext j
        simp only [Function.comp]
        congr 1
        omega
      rw [e,← ih (i+1)]
      by_cases hg:go i=true
      · have e1:O7 go i (k+1)=O7 go (i+1) k:=by simp only [O7];rw [if_pos hg]
        rw [Bool.eq_iff_iff,hg]
        simp only [decide_eq_true_eq,Bool.true_and,e1]
        omega
      · have e1:O7 go i (k+1)=i:=by simp only [O7];rw [if_neg hg]
        rw [Bool.eq_iff_iff]
        simp only [decide_eq_true_eq,Bool.and_eq_true,e1]
        constructor
        · intro h;omega
        · intro h;exact absurd h.1 hg
  have k0:=key n 0
  simp only [Nat.zero_add] at k0
  rw [k0]
theorem D4D(a:List Int)(h:a.length≤maxLen):S5 a a=some (true,()):=by
  simp only [S5,B4p]
  simp only [decide_true,Bool.not_true,cond_false]
  refine E5 (A5W a a) (fun i=>((i:Int),())) a.length (true,()) (fun i hi=>?_) ?_
  · have h1:((i:Int)<(a.length:Int)):=by omega
    have h2:(0:Int)≤(i:Int):=by omega
    simp only [A5W,A0 h1,A0 h2,cond_true,decide_true,Bool.not_true,cond_false]
    rw [w64 (by omega) (by simp only [maxLen] at h;omega)]
    rfl
  · simp [A5W]
theorem E05(a:List Int)(h:a.length≤281474976710656):S4 a=some (a,()):=by
  simp only [S4,B4g]
  have h1:(0:Int)≤(a.length:Int):=by omega
  rw [A0 h1,Int.toNat_natCast,A0 (show a.length≤9223372036854775807 by omega),A0 (show 1*a.length≤281474976710656 by omega)]
  simp only [cond_true]
  have key:=E5 (A5T a) (fun i=>((i:Int),a.take i++List.replicate (a.length-i) 0,())) a.length (a,()) (fun i hi=>?_) ?_
  · simpa using key
  · have h1:((i:Int)<(a.length:Int)):=by omega
    have h2:(0:Int)≤(i:Int):=by omega
    have hl:(a.take i++List.replicate (a.length-i) (0:Int)).length=a.length:=by simp;omega
    simp only [A5T,hl,A0 h1,A0 h2,cond_true]
    rw [w64 (by omega) (by omega),Int.toNat_natCast,D0 hi]
    have:(a.take i++List.replicate (a.length-i) (0:Int)).set i a[i]=a.take (i+1)++List.replicate (a.length-(i+1)) 0:=by
      rw [List.set_append_right _ _ (by simp;omega)]
      rw [List.take_succ_eq_append_getElem hi,List.append_assoc]
      congr 1
      rw [show (a.take i).length=i by simp;omega,Nat.sub_self,show a.length-i=(a.length-(i+1))+1 by omega,List.replicate_succ]
      rfl
    rw [this]
    rfl
  · simp [A5T]
abbrev R8:=ByteArray×List Int×Int×Int
theorem E06(a:List Int)(l:Int)(h0:l≤1048576)(h1:0≤l)(h:a.length≤maxLen):S3 a l=some (if (a.length:Int)≤l then (l-a.length:Int) else -1,()):=by
  simp only [S3,B4Z,maxLen] at *
  rw [w64 (by omega) (by omega)]
  split
  · rw [A4 (by omega)];rfl
  · rw [A0 (by omega)];rfl
def marked(m:Int)(n:Nat):List Int:=(List.range n).map fun j=>IntKind.u8.wrap (m+(j:Nat))
theorem D4E(a:List Int)(m:Int)(h0:0≤m)(h:m+a.length<9223372036854775808):I2 a m=some (m+a.length,marked m a.length,()):=by
  simp only [I2,B0G]
  have key:=E5 A2j (fun i=>(m+(i:Int),(i:Int),marked m i++a.drop i,())) a.length (m+a.length,marked m a.length,()) (fun i hi=>?_) ?_
  · simpa [marked] using key
  · have h1:((i:Int)<(a.length:Int)):=by omega
    have h2:(0:Int)≤(i:Int):=by omega
    have hl:(marked m i++a.drop i).length=a.length:=by simp [marked];omega
    simp only [A2j,hl,A0 h1,A0 h2,cond_true]
    rw [w64 (by omega) (by omega),w64 (by omega) (by omega),Int.toNat_natCast]
    have:(marked m i++a.drop i).set i (IntKind.u8.wrap (m+(i:Int)))=marked m (i+1)++a.drop (i+1):=by
      rw [List.set_append_right _ _ (by simp [marked])]
      rw [show (marked m i).length=i by simp [marked],Nat.sub_self,List.drop_eq_getElem_cons hi,List.set_cons_zero]
      simp [marked,List.range_succ]
    rw [this]
    simp only [Int.natCast_add,Int.natCast_one,Int.add_assoc]
  · simp [A2j,marked]
theorem D4F(n:Nat)(m:Int)(h0:0≤m)(h:m+n<9223372036854775808):I3 (marked m n) m=some (m+n,()):=by
  simp only [I3,B0J]
  have hl:(marked m n).length=n:=by simp [marked]
  have key:=E5 (A2q (marked m n)) (fun i=>(m+(i:Int),(i:Int),())) n (m+n,()) (fun i hi=>?_) ?_
  · simpa [marked] using key
  · have h1:((i:Int)<(n:Int)):=by omega
    have h2:(0:Int)≤(i:Int):=by omega
    simp only [A2q,hl,A0 h1,A0 h2,cond_true]
    have hr:rd (.int .u8) (marked m n) (i:Int)=IntKind.u8.wrap (m+(i:Int)):=by
      rw [D0 (by rw [hl];exact hi)]
      simp [marked]
    rw [hr,w64 (by omega) (by omega),w64 (by omega) (by omega)]
    simp only [decide_true,Bool.not_true,cond_false,Int.natCast_add,Int.natCast_one,Int.add_assoc]
  · simp [A2q,hl]
theorem B9V(a:List Int)(h:Sm maxLen (.sl 0 (.int .u8)) a):B40 (S3 a) (Sm 1048576 (.sl 0 (.int .u8)) a):=by
  intro l h0 h1
  refine ⟨_,E06 a l h1 h0 h.1,?_,fun hr=>⟨?_,fun x _=>trivial⟩⟩
  · split<;>omega
  · split at hr<;>omega
theorem B9W(a:List Int)(h:Sm 1048576 (.sl 0 (.int .u8)) a):S4 a=some (a,()):=E05 a (by have:=h.1;omega)
theorem B9X(a:List Int)(h:Sm maxLen (.sl 0 (.int .u8)) a):S5 a a=some (true,()):=D4D a h.1
theorem E07(a:List Bool)(h:Sm maxLen (.sl 4 .bool) a):B40 (A62 a) (Sm 1048576 (.sl 4 .bool) a):=by
  have hl:a.length≤9223372036854775807:=h.1
  intro l h0 h1
  simp only [A62,B4d]
  rw [w64 (by omega) (by omega)]
  by_cases hn:l-(a.length:Int)<0
  · rw [A0 hn];exact ⟨-1,rfl,by omega,fun h=>by omega⟩
  rw [A4 hn];simp only [cond_false]
  exact ⟨_,rfl,by omega,fun _=>⟨by omega,fun x _=>by simp [Sm]⟩⟩
theorem D6R(a:B0)(h:Sm maxLen B2 a):B40 (A07 a) (Sm 1048576 B2 a):=by
  intro l h0 h1
  simp only [A07,B2M]
  have z1:a.1.size≤9223372036854775807:=(Sm.l h)
  rw [w64 (n:=l-(a.1.size:Int)) (by omega) (by omega)]
  by_cases n1:l-(a.1.size:Int)<0
  · rw [A0 n1];exact ⟨-1,rfl,by omega,fun h=>by omega⟩
  rw [A4 n1];simp only [cond_false]
  obtain ⟨r2,e2,u2,v2⟩:=B9V a.2.1 (Sm.l (Sm.r h)) (l-(a.1.size:Int)) (by omega) (by omega)
  rw [e2];simp only [A3]
  by_cases n2:r2<0
  · rw [A0 n2];exact ⟨-1,rfl,by omega,fun h=>by omega⟩
  rw [A4 n2];simp only [cond_false]
  exact ⟨_,rfl,by omega,fun _=>⟨by show a.1.size≤1048576;omega,⟨v2 (by omega),⟨by simp [Sm],by simp [Sm]⟩⟩⟩⟩
theorem D4G(a:List B0)(h:Sm maxLen (.sl 218 B2) a):B40 (A1x a) (Sm 1048576 (.sl 218 B2) a):=by
  have hl:a.length≤9223372036854775807:=h.1
  intro l h0 h1
  simp only [A1x,B05]
  rw [w64 (by omega) (by omega)]
  by_cases hn:l-(a.length:Int)<0
  · rw [A0 hn];exact ⟨-1,rfl,by omega,fun h=>by omega⟩
  rw [A4 hn];simp only [cond_false]
  obtain ⟨r,e,h2,h3⟩:=C6b A07 (fun x=>Sm 1048576 B2 x) (A2h A07 a) a h.1 (fun x hx=>D6R x (h.2 x hx)) (by
    intro i hi l
    have g1:((i:Int)<(a.length:Int)):=by omega
    have g2:(0:Int)≤(i:Int):=by omega
    simp only [A2h,A0 g1,A0 g2,cond_true]
    rw [D0 (k:=B2) (xs:=a) hi]
    ) (fun l=>by simp [A2h]) (l-(a.length:Int)) (by omega) (by omega)
  exact ⟨r,e,by omega,fun h=>⟨by omega,h3 h⟩⟩
theorem C0J(a:List ByteArray)(h:Sm maxLen (.sl 9 .str) a):B40 (A1w a) (Sm 1048576 (.sl 9 .str) a):=by
  have hl:a.length≤9223372036854775807:=h.1
  intro l h0 h1
  simp only [A1w,B04]
  rw [w64 (by omega) (by omega)]
  by_cases hn:l-(a.length:Int)<0
  · rw [A0 hn];exact ⟨-1,rfl,by omega,fun h=>by omega⟩
  rw [A4 hn];simp only [cond_false]
  obtain ⟨r,e,h2,h3⟩:=C6b (fun (x:ByteArray) l=>some (IntKind.i64.wrap (l-(x.size:Int)),())) (fun x=>Sm 1048576 .str x) (A2g a) a h.1 (fun x hx l h0 h1=>⟨_,rfl,by have:=h.2 x hx;simp only [Sm,maxLen] at this;rw [w64 (by omega) (by omega)];omega,fun hr=>by have:=h.2 x hx;simp only [Sm,maxLen] at this ⊢;rw [w64 (by omega) (by omega)] at hr;omega⟩) (by
    intro i hi l
    have g1:((i:Int)<(a.length:Int)):=by omega
    have g2:(0:Int)≤(i:Int):=by omega
    simp only [A2g,A0 g1,A0 g2,cond_true]
    rw [A6m (xs:=a) hi]
    rfl
    ) (fun l=>by simp [A2g]) (l-(a.length:Int)) (by omega) (by omega)
  exact ⟨r,e,by omega,fun h=>⟨by omega,h3 h⟩⟩
theorem E3u(a:F2)(h:Sm maxLen A0x a):B40 (A7r a) (Sm 1048576 A0x a):=by
  intro l h0 h1
  simp only [A7r,B9A]
  obtain ⟨r1,e1,u1,v1⟩:=C0J a.1 (Sm.l h) l (by omega) (by omega)
  rw [e1];simp only [A3]
  by_cases n1:r1<0
  · rw [A0 n1];exact ⟨-1,rfl,by omega,fun h=>by omega⟩
  rw [A4 n1];simp only [cond_false]
  obtain ⟨r2,e2,u2,v2⟩:=C0J a.2 (Sm.r h) r1 (by omega) (by omega)
  rw [e2];simp only [A3]
  by_cases n2:r2<0
  · rw [A0 n2];exact ⟨-1,rfl,by omega,fun h=>by omega⟩
  rw [A4 n2];simp only [cond_false]
  exact ⟨_,rfl,by omega,fun _=>⟨v1 (by omega),v2 (by omega)⟩⟩
theorem C7U(a:List B6)(h:Sm maxLen (.sl 203 A9) a):B40 (A1B a) (Sm 1048576 (.sl 203 A9) a):=by
  have hl:a.length≤9223372036854775807:=h.1
  intro l h0 h1
  simp only [A1B,B4c]
  rw [w64 (by omega) (by omega)]
  by_cases hn:l-(a.length:Int)<0
  · rw [A0 hn];exact ⟨-1,rfl,by omega,fun h=>by omega⟩
  rw [A4 hn];simp only [cond_false]
  exact ⟨_,rfl,by omega,fun _=>⟨by omega,fun x _=>by simp [Sm]⟩⟩
theorem E3v(a:List Int)(h:Sm maxLen (.sl 3 (.int .i64)) a):B40 (A7u a) (Sm 1048576 (.sl 3 (.int .i64)) a):=by
  have hl:a.length≤9223372036854775807:=h.1
  intro l h0 h1
  simp only [A7u,B9C]
  rw [w64 (by omega) (by omega)]
  by_cases hn:l-(a.length:Int)<0
  · rw [A0 hn];exact ⟨-1,rfl,by omega,fun h=>by omega⟩
  rw [A4 hn];simp only [cond_false]
  exact ⟨_,rfl,by omega,fun _=>⟨by omega,fun x _=>by simp [Sm]⟩⟩
theorem E6V(a:U6)(h:Sm maxLen N3 a):B40 (B0t a) (Sm 1048576 N3 a):=by
  intro l h0 h1
  simp only [B0t,C2E]
  have z1:a.2.1.size≤9223372036854775807:=(Sm.l (Sm.r h))
  rw [w64 (n:=l-(a.2.1.size:Int)) (by omega) (by omega)]
  by_cases n1:l-(a.2.1.size:Int)<0
  · rw [A0 n1];exact ⟨-1,rfl,by omega,fun h=>by omega⟩
  rw [A4 n1];simp only [cond_false]
  exact ⟨_,rfl,by omega,fun _=>⟨by simp [Sm],⟨by show a.2.1.size≤1048576;omega,by simp [Sm]⟩⟩⟩
theorem E83(a:TUp)(h:Sm maxLen kUp a):B40 (A7s a) (Sm 1048576 kUp a):=by
  intro l h0 h1
  simp only [A7s,C7P]
  have z1:a.1.size≤9223372036854775807:=(Sm.l h)
  rw [w64 (n:=l-(a.1.size:Int)) (by omega) (by omega)]
  by_cases n1:l-(a.1.size:Int)<0
  · rw [A0 n1];exact ⟨-1,rfl,by omega,fun h=>by omega⟩
  rw [A4 n1];simp only [cond_false]
  obtain ⟨r2,e2,u2,v2⟩:=B9V a.2.2.1 (Sm.l (Sm.r (Sm.r h))) (l-(a.1.size:Int)) (by omega) (by omega)
  rw [e2];simp only [A3]
  by_cases n2:r2<0
  · rw [A0 n2];exact ⟨-1,rfl,by omega,fun h=>by omega⟩
  rw [A4 n2];simp only [cond_false]
  exact ⟨_,rfl,by omega,fun _=>⟨by show a.1.size≤1048576;omega,⟨by simp [Sm],⟨v2 (by omega),by simp [Sm]⟩⟩⟩⟩
theorem E6W(a:List TUp)(h:Sm maxLen (.sl 248 kUp) a):B40 (B0s a) (Sm 1048576 (.sl 248 kUp) a):=by
  have hl:a.length≤9223372036854775807:=h.1
  intro l h0 h1
  simp only [B0s,C2D]
  rw [w64 (by omega) (by omega)]
  by_cases hn:l-(a.length:Int)<0
  · rw [A0 hn];exact ⟨-1,rfl,by omega,fun h=>by omega⟩
  rw [A4 hn];simp only [cond_false]
  obtain ⟨r,e,h2,h3⟩:=C6b A7s (fun x=>Sm 1048576 kUp x) (A8s A7s a) a h.1 (fun x hx=>E83 x (h.2 x hx)) (by
    intro i hi l
    have g1:((i:Int)<(a.length:Int)):=by omega
    have g2:(0:Int)≤(i:Int):=by omega
    simp only [A8s,A0 g1,A0 g2,cond_true]
    rw [D0 (k:=kUp) (xs:=a) hi]
    ) (fun l=>by simp [A8s]) (l-(a.length:Int)) (by omega) (by omega)
  exact ⟨r,e,by omega,fun h=>⟨by omega,h3 h⟩⟩
theorem E08(a:A8)(h:Sm maxLen B6T a):B40 (A61 a) (Sm 1048576 B6T a):=by
  intro l h0 h1
  simp only [A61,B4b]
  obtain ⟨r1,e1,u1,v1⟩:=E3u a.1 (Sm.l h) l (by omega) (by omega)
  rw [e1];simp only [A3]
  by_cases n1:r1<0
  · rw [A0 n1];exact ⟨-1,rfl,by omega,fun h=>by omega⟩
  rw [A4 n1];simp only [cond_false]
  obtain ⟨r2,e2,u2,v2⟩:=E6W a.2.2.2 (Sm.r (Sm.r (Sm.r h))) r1 (by omega) (by omega)
  rw [e2];simp only [A3]
  by_cases n2:r2<0
  · rw [A0 n2];exact ⟨-1,rfl,by omega,fun h=>by omega⟩
  rw [A4 n2];simp only [cond_false]
  exact ⟨_,rfl,by omega,fun _=>⟨v1 (by omega),⟨by simp [Sm],⟨by simp [Sm],v2 (by omega)⟩⟩⟩⟩
theorem D6S(a:C0)(h:Sm maxLen B0o a):B40 (A3t a) (Sm 1048576 B0o a):=by
  intro l h0 h1
  simp only [A3t,B2L]
  obtain ⟨r1,e1,u1,v1⟩:=E08 a.1 (Sm.l h) l (by omega) (by omega)
  rw [e1];simp only [A3]
  by_cases n1:r1<0
  · rw [A0 n1];exact ⟨-1,rfl,by omega,fun h=>by omega⟩
  rw [A4 n1];simp only [cond_false]
  obtain ⟨r2,e2,u2,v2⟩:=C7U a.2 (Sm.r h) r1 (by omega) (by omega)
  rw [e2];simp only [A3]
  by_cases n2:r2<0
  · rw [A0 n2];exact ⟨-1,rfl,by omega,fun h=>by omega⟩
  rw [A4 n2];simp only [cond_false]
  exact ⟨_,rfl,by omega,fun _=>⟨v1 (by omega),v2 (by omega)⟩⟩
theorem E3w(a:D5)(h:Sm maxLen B8 a):B40 (A33 a) (Sm 1048576 B8 a):=by
  intro l h0 h1
  simp only [A33,B9B]
  obtain ⟨r1,e1,u1,v1⟩:=E6V a.2.1 (Sm.l (Sm.r h)) l (by omega) (by omega)
  rw [e1];simp only [A3]
  by_cases n1:r1<0
  · rw [A0 n1];exact ⟨-1,rfl,by omega,fun h=>by omega⟩
  rw [A4 n1];simp only [cond_false]
  obtain ⟨r2,e2,u2,v2⟩:=B9V a.2.2 (Sm.r (Sm.r h)) r1 (by omega) (by omega)
  rw [e2];simp only [A3]
  by_cases n2:r2<0
  · rw [A0 n2];exact ⟨-1,rfl,by omega,fun h=>by omega⟩
  rw [A4 n2];simp only [cond_false]
  exact ⟨_,rfl,by omega,fun _=>⟨by simp [Sm],⟨v1 (by omega),v2 (by omega)⟩⟩⟩
theorem E09(a:List D5)(h:Sm maxLen (.sl 221 B8) a):B40 (A63 a) (Sm 1048576 (.sl 221 B8) a):=by
  have hl:a.length≤9223372036854775807:=h.1
  intro l h0 h1
  simp only [A63,B4e]
  rw [w64 (by omega) (by omega)]
  by_cases hn:l-(a.length:Int)<0
  · rw [A0 hn];exact ⟨-1,rfl,by omega,fun h=>by omega⟩
  rw [A4 hn];simp only [cond_false]
  obtain ⟨r,e,h2,h3⟩:=C6b A33 (fun x=>Sm 1048576 B8 x) (A5R A33 a) a h.1 (fun x hx=>E3w x (h.2 x hx)) (by
    intro i hi l
    have g1:((i:Int)<(a.length:Int)):=by omega
    have g2:(0:Int)≤(i:Int):=by omega
    simp only [A5R,A0 g1,A0 g2,cond_true]
    rw [D0 (k:=B8) (xs:=a) hi]
    ) (fun l=>by simp [A5R]) (l-(a.length:Int)) (by omega) (by omega)
  exact ⟨r,e,by omega,fun h=>⟨by omega,h3 h⟩⟩
theorem E0A(a:A6)(h:Sm maxLen X5 a):B40 (A64 a) (Sm 1048576 X5 a):=by
  intro l h0 h1
  simp only [A64,B4f]
  obtain ⟨r1,e1,u1,v1⟩:=D6S a.1 (Sm.l h) l (by omega) (by omega)
  rw [e1];simp only [A3]
  by_cases n1:r1<0
  · rw [A0 n1];exact ⟨-1,rfl,by omega,fun h=>by omega⟩
  rw [A4 n1];simp only [cond_false]
  obtain ⟨r2,e2,u2,v2⟩:=D4G a.2.1 (Sm.l (Sm.r h)) r1 (by omega) (by omega)
  rw [e2];simp only [A3]
  by_cases n2:r2<0
  · rw [A0 n2];exact ⟨-1,rfl,by omega,fun h=>by omega⟩
  rw [A4 n2];simp only [cond_false]
  obtain ⟨r3,e3,u3,v3⟩:=E07 a.2.2.1 (Sm.l (Sm.r (Sm.r h))) r2 (by omega) (by omega)
  rw [e3];simp only [A3]
  by_cases n3:r3<0
  · rw [A0 n3];exact ⟨-1,rfl,by omega,fun h=>by omega⟩
  rw [A4 n3];simp only [cond_false]
  obtain ⟨r4,e4,u4,v4⟩:=E09 a.2.2.2.1 (Sm.l (Sm.r (Sm.r (Sm.r h)))) r3 (by omega) (by omega)
  rw [e4];simp only [A3]
  by_cases n4:r4<0
  · rw [A0 n4];exact ⟨-1,rfl,by omega,fun h=>by omega⟩
  rw [A4 n4];simp only [cond_false]
  obtain ⟨r5,e5,u5,v5⟩:=C7U a.2.2.2.2.1 (Sm.l (Sm.r (Sm.r (Sm.r (Sm.r h))))) r4 (by omega) (by omega)
  rw [e5];simp only [A3]
  by_cases n5:r5<0
  · rw [A0 n5];exact ⟨-1,rfl,by omega,fun h=>by omega⟩
  rw [A4 n5];simp only [cond_false]
  obtain ⟨r6,e6,u6,v6⟩:=E3v a.2.2.2.2.2 (Sm.r (Sm.r (Sm.r (Sm.r (Sm.r h))))) r5 (by omega) (by omega)
  rw [e6];simp only [A3]
  by_cases n6:r6<0
  · rw [A0 n6];exact ⟨-1,rfl,by omega,fun h=>by omega⟩
  rw [A4 n6];simp only [cond_false]
  exact ⟨_,rfl,by omega,fun _=>⟨v1 (by omega),⟨v2 (by omega),⟨v3 (by omega),⟨v4 (by omega),⟨v5 (by omega),v6 (by omega)⟩⟩⟩⟩⟩⟩
theorem E0B(a:List Bool)(h:Sm 1048576 (.sl 4 .bool) a):A66 a=some (a,()):=by
  have hl:a.length≤1048576:=h.1
  simp only [A66,B4m]
  rw [A0 (show (0:Int)≤(a.length:Int) by omega),Int.toNat_natCast,A0 (by omega),A0 (by omega)]
  simp only [cond_true]
  refine B2p _ a _ (by simp only [maxLen];omega) (fun i hi b hb=>?_) (fun b=>by simp [B09])
  have h1:((i:Int)<(a.length:Int)):=by omega
  have h2:(0:Int)≤(i:Int):=by omega
  simp only [B09,hb,A0 h1,A0 h2,cond_true]
  rw [E2z (xs:=a) hi]
  rfl
theorem D6T(a:B0)(h:Sm 1048576 B2 a):A3x a=some (a,()):=by
  simp only [A3x,B2R,A3,B9W a.2.1 (Sm.l (Sm.r h))]
theorem D4H(a:List B0)(h:Sm 1048576 (.sl 218 B2) a):A1z a=some (a,()):=by
  have hl:a.length≤1048576:=h.1
  simp only [A1z,B08]
  rw [A0 (show (0:Int)≤(a.length:Int) by omega),Int.toNat_natCast,A0 (by omega),A0 (by omega)]
  simp only [cond_true]
  refine B2p _ a _ (by simp only [maxLen];omega) (fun i hi b hb=>?_) (fun b=>by simp [A6f])
  have h1:((i:Int)<(a.length:Int)):=by omega
  have h2:(0:Int)≤(i:Int):=by omega
  simp only [A6f,hb,A0 h1,A0 h2,cond_true]
  rw [D0 (k:=B2) (xs:=a) hi]
  rw [D6T _ (h.2 _ (List.getElem_mem hi))]
  rfl
theorem C0K(a:List ByteArray)(h:Sm 1048576 (.sl 9 .str) a):A1y a=some (a,()):=by
  have hl:a.length≤1048576:=h.1
  simp only [A1y,B06]
  rw [A0 (show (0:Int)≤(a.length:Int) by omega),Int.toNat_natCast,A0 (by omega),A0 (by omega)]
  simp only [cond_true]
  refine B2p _ a _ (by simp only [maxLen];omega) (fun i hi b hb=>?_) (fun b=>by simp [A6e])
  have h1:((i:Int)<(a.length:Int)):=by omega
  have h2:(0:Int)≤(i:Int):=by omega
  simp only [A6e,hb,A0 h1,A0 h2,cond_true]
  rw [A6m (xs:=a) hi]
  rfl
theorem E3x(a:F2)(h:Sm 1048576 A0x a):A7v a=some (a,()):=by
  simp only [A7v,B9D,A3,C0K a.1 (Sm.l h),C0K a.2 (Sm.r h)]
theorem E3y(a:N4)(h:Sm 1048576 E8 a):A7w a=some (a,()):=by
  simp only [A7w,B9E,A3]
theorem E3z(a:B6)(h:Sm 1048576 A9 a):A7y a=some (a,()):=by
  simp only [A7y,B9F,A3,E3y a.2 (Sm.r h)]
theorem C7V(a:List B6)(h:Sm 1048576 (.sl 203 A9) a):A1C a=some (a,()):=by
  have hl:a.length≤1048576:=h.1
  simp only [A1C,B4l]
  rw [A0 (show (0:Int)≤(a.length:Int) by omega),Int.toNat_natCast,A0 (by omega),A0 (by omega)]
  simp only [cond_true]
  refine B2p _ a _ (by simp only [maxLen];omega) (fun i hi b hb=>?_) (fun b=>by simp [B07])
  have h1:((i:Int)<(a.length:Int)):=by omega
  have h2:(0:Int)≤(i:Int):=by omega
  simp only [B07,hb,A0 h1,A0 h2,cond_true]
  rw [D0 (k:=A9) (xs:=a) hi]
  rw [E3z _ (h.2 _ (List.getElem_mem hi))]
  rfl
theorem E40(a:List Int)(h:Sm 1048576 (.sl 3 (.int .i64)) a):A81 a=some (a,()):=by
  have hl:a.length≤1048576:=h.1
  simp only [A81,B9H]
  rw [A0 (show (0:Int)≤(a.length:Int) by omega),Int.toNat_natCast,A0 (by omega),A0 (by omega)]
  simp only [cond_true]
  refine B2p _ a _ (by simp only [maxLen];omega) (fun i hi b hb=>?_) (fun b=>by simp [B2S])
  have h1:((i:Int)<(a.length:Int)):=by omega
  have h2:(0:Int)≤(i:Int):=by omega
  simp only [B2S,hb,A0 h1,A0 h2,cond_true]
  rw [C2N (xs:=a) hi]
  rfl
theorem E6X(a:U6)(h:Sm 1048576 N3 a):B0v a=some (a,()):=by
  simp only [B0v,C2G,A3]
theorem E84(a:TUp)(h:Sm 1048576 kUp a):B4i a=some (a,()):=by
  simp only [B4i,C7Q,A3,B9W a.2.2.1 (Sm.l (Sm.r (Sm.r h)))]
theorem E6Y(a:List TUp)(h:Sm 1048576 (.sl 248 kUp) a):B0u a=some (a,()):=by
  have hl:a.length≤1048576:=h.1
  simp only [B0u,C2F]
  rw [A0 (show (0:Int)≤(a.length:Int) by omega),Int.toNat_natCast,A0 (by omega),A0 (by omega)]
  simp only [cond_true]
  refine B2p _ a _ (by simp only [maxLen];omega) (fun i hi b hb=>?_) (fun b=>by simp [B4j])
  have h1:((i:Int)<(a.length:Int)):=by omega
  have h2:(0:Int)≤(i:Int):=by omega
  simp only [B4j,hb,A0 h1,A0 h2,cond_true]
  rw [D0 (k:=kUp) (xs:=a) hi]
  rw [E84 _ (h.2 _ (List.getElem_mem hi))]
  rfl
theorem E0C(a:A8)(h:Sm 1048576 B6T a):A65 a=some (a,()):=by
  simp only [A65,B4k,A3,E3x a.1 (Sm.l h),E6Y a.2.2.2 (Sm.r (Sm.r (Sm.r h)))]
theorem D6U(a:C0)(h:Sm 1048576 B0o a):A3v a=some (a,()):=by
  simp only [A3v,B2Q,A3,E0C a.1 (Sm.l h),C7V a.2 (Sm.r h)]
theorem E41(a:D5)(h:Sm 1048576 B8 a):A80 a=some (a,()):=by
  simp only [A80,B9G,A3,E6X a.2.1 (Sm.l (Sm.r h)),B9W a.2.2 (Sm.r (Sm.r h))]
theorem E0D(a:List D5)(h:Sm 1048576 (.sl 221 B8) a):A67 a=some (a,()):=by
  have hl:a.length≤1048576:=h.1
  simp only [A67,B4n]
  rw [A0 (show (0:Int)≤(a.length:Int) by omega),Int.toNat_natCast,A0 (by omega),A0 (by omega)]
  simp only [cond_true]
  refine B2p _ a _ (by simp only [maxLen];omega) (fun i hi b hb=>?_) (fun b=>by simp [B0A])
  have h1:((i:Int)<(a.length:Int)):=by omega
  have h2:(0:Int)≤(i:Int):=by omega
  simp only [B0A,hb,A0 h1,A0 h2,cond_true]
  rw [D0 (k:=B8) (xs:=a) hi]
  rw [E41 _ (h.2 _ (List.getElem_mem hi))]
  rfl
theorem E0E(a:A6)(h:Sm 1048576 X5 a):A68 a=some (a,()):=by
  simp only [A68,B4o,A3,D6U a.1 (Sm.l h),D4H a.2.1 (Sm.l (Sm.r h)),E0B a.2.2.1 (Sm.l (Sm.r (Sm.r h))),E0D a.2.2.2.1 (Sm.l (Sm.r (Sm.r (Sm.r h)))),C7V a.2.2.2.2.1 (Sm.l (Sm.r (Sm.r (Sm.r (Sm.r h))))),E40 a.2.2.2.2.2 (Sm.r (Sm.r (Sm.r (Sm.r (Sm.r h)))))]
theorem D4I(a:List Bool)(h:Sm maxLen (.sl 4 .bool) a):A6A a a=some (true,()):=by
  simp only [A6A,B4v,decide_true,Bool.not_true,cond_false]
  refine B2o _ a.length h.1 (fun i hi=>?_) (by simp [B0E])
  have h1:((i:Int)<(a.length:Int)):=by omega
  have h2:(0:Int)≤(i:Int):=by omega
  simp only [B0E,A0 h1,A0 h2,cond_true]
  simp
theorem D6V(a:B0)(h:Sm maxLen B2 a):A40 a a=some (true,()):=by
  simp [A40,B2X,A3,B9X a.2.1 (Sm.l (Sm.r h))]
theorem C7W(a:List B0)(h:Sm maxLen (.sl 79 B2) a):A21 a a=some (true,()):=by
  simp only [A21,B0D,decide_true,Bool.not_true,cond_false]
  refine B2o _ a.length h.1 (fun i hi=>?_) (by simp [A6h])
  have h1:((i:Int)<(a.length:Int)):=by omega
  have h2:(0:Int)≤(i:Int):=by omega
  simp only [A6h,A0 h1,A0 h2,cond_true]
  rw [D0 (k:=B2) (xs:=a) hi,D6V _ (h.2 _ (List.getElem_mem hi))]
  rfl
theorem B5B(a:List ByteArray)(h:Sm maxLen (.sl 9 .str) a):A20 a a=some (true,()):=by
  simp only [A20,B0B,decide_true,Bool.not_true,cond_false]
  refine B2o _ a.length h.1 (fun i hi=>?_) (by simp [A6g])
  have h1:((i:Int)<(a.length:Int)):=by omega
  have h2:(0:Int)≤(i:Int):=by omega
  simp only [A6g,A0 h1,A0 h2,cond_true]
  simp
theorem D6W(a:F2)(h:Sm maxLen A0x a):A82 a a=some (true,()):=by
  simp [A82,B9I,A3,B5B a.1 (Sm.l h),B5B a.2 (Sm.r h)]
theorem D6X(a:N4)(h:Sm maxLen E8 a):A83 a a=some (true,()):=by
  simp [A83,B9J,A3]
theorem D6Y(a:B6)(h:Sm maxLen A9 a):A85 a a=some (true,()):=by
  simp [A85,B9K,A3,D6X a.2 (Sm.r h)]
theorem C0L(a:List B6)(h:Sm maxLen (.sl 130 A9) a):A1D a a=some (true,()):=by
  simp only [A1D,B4u,decide_true,Bool.not_true,cond_false]
  refine B2o _ a.length h.1 (fun i hi=>?_) (by simp [B0C])
  have h1:((i:Int)<(a.length:Int)):=by omega
  have h2:(0:Int)≤(i:Int):=by omega
  simp only [B0C,A0 h1,A0 h2,cond_true]
  rw [D0 (k:=A9) (xs:=a) hi,D6Y _ (h.2 _ (List.getElem_mem hi))]
  rfl
theorem D6Z(a:List Int)(h:Sm maxLen (.sl 3 (.int .i64)) a):A88 a a=some (true,()):=by
  simp only [A88,B9M,decide_true,Bool.not_true,cond_false]
  refine B2o _ a.length h.1 (fun i hi=>?_) (by simp [B2Y])
  have h1:((i:Int)<(a.length:Int)):=by omega
  have h2:(0:Int)≤(i:Int):=by omega
  simp only [B2Y,A0 h1,A0 h2,cond_true]
  simp
theorem E6Z(a:U6)(h:Sm maxLen N3 a):B0x a a=some (true,()):=by
  simp [B0x,C2I,A3]
theorem E42(a:TUp)(h:Sm maxLen kUp a):B4r a a=some (true,()):=by
  simp [B4r,C7R,A3,B9X a.2.2.1 (Sm.l (Sm.r (Sm.r h)))]
theorem E0F(a:List TUp)(h:Sm maxLen (.sl 109 kUp) a):B0w a a=some (true,()):=by
  simp only [B0w,C2H,decide_true,Bool.not_true,cond_false]
  refine B2o _ a.length h.1 (fun i hi=>?_) (by simp [B4s])
  have h1:((i:Int)<(a.length:Int)):=by omega
  have h2:(0:Int)≤(i:Int):=by omega
  simp only [B4s,A0 h1,A0 h2,cond_true]
  rw [D0 (k:=kUp) (xs:=a) hi,E42 _ (h.2 _ (List.getElem_mem hi))]
  rfl
theorem D4J(a:A8)(h:Sm maxLen A3g a):A69 a a=some (true,()):=by
  simp [A69,B4t,A3,D6W a.1 (Sm.l h),E0F a.2.2.2 (Sm.r (Sm.r (Sm.r h)))]
theorem D0i(a:C0)(h:Sm maxLen A1Z a):A3y a a=some (true,()):=by
  simp [A3y,B2W,A3,D4J a.1 (Sm.l h),C0L a.2 (Sm.r h)]
theorem D6a(a:D5)(h:Sm maxLen B8 a):A87 a a=some (true,()):=by
  simp [A87,B9L,A3,E6Z a.2.1 (Sm.l (Sm.r h)),B9X a.2.2 (Sm.r (Sm.r h))]
theorem D4K(a:List D5)(h:Sm maxLen (.sl 113 B8) a):A6B a a=some (true,()):=by
  simp only [A6B,B4w,decide_true,Bool.not_true,cond_false]
  refine B2o _ a.length h.1 (fun i hi=>?_) (by simp [B0F])
  have h1:((i:Int)<(a.length:Int)):=by omega
  have h2:(0:Int)≤(i:Int):=by omega
  simp only [B0F,A0 h1,A0 h2,cond_true]
  rw [D0 (k:=B8) (xs:=a) hi,D6a _ (h.2 _ (List.getElem_mem hi))]
  rfl
theorem C0M(a:A6)(h:Sm maxLen Z8 a):A6C a a=some (true,()):=by
  simp [A6C,B4x,A3,D0i a.1 (Sm.l h),C7W a.2.1 (Sm.l (Sm.r h)),D4I a.2.2.1 (Sm.l (Sm.r (Sm.r h))),D4K a.2.2.2.1 (Sm.l (Sm.r (Sm.r (Sm.r h)))),C0L a.2.2.2.2.1 (Sm.l (Sm.r (Sm.r (Sm.r (Sm.r h))))),D6Z a.2.2.2.2.2 (Sm.r (Sm.r (Sm.r (Sm.r (Sm.r h)))))]
theorem Q7(a b c:Int):E4 a b c=some (decide (b≤a∧a≤c),()):=by
  simp only [E4,C7S]
  by_cases h:b≤a<;>by_cases h2:a≤c<;>simp [h,h2]
theorem K7(a b c:Int):C5 a b c=some (decide (b≤a∧a≤c),()):=Q7 a b c
def D4L(s:ByteArray)(i:Nat):Bool:=decide (97≤bt s i∧bt s i≤122)||decide (48≤bt s i∧bt s i≤57)
def idB(s:ByteArray):Bool:=(List.range s.size).all (D4L s)&&decide (1≤(s.size:Int)∧(s.size:Int)≤8)
theorem E0G(s:ByteArray)(h:s.size≤maxLen)(i:Nat)(hi:i<s.size):A99 E4 s ((i:Int),())=if D4L s i then some (.inl (((i+1:Nat):Int),())) else some (.inr (.inr (false,()))):=by
  have h1:((i:Int)<(s.size:Int)):=by omega
  have h2:(0:Int)≤(i:Int):=by omega
  simp only [A99,A0 h1,A0 h2,cond_true,E9F,Q7,A3]
  rw [w64 (by omega) (by simp only [maxLen] at h;omega)]
  unfold D4L
  cases decide (97≤bt s i∧bt s i≤122)<;>cases decide (48≤bt s i∧bt s i≤57)<;>simp
theorem E43(s:ByteArray)(h:s.size≤maxLen)(i:Nat)(hi:i<s.size):B24 s ((i:Int),())=if D4L s i then some (.inl (((i+1:Nat):Int),())) else some (.inr (.inr (false,()))):=by
  have h1:((i:Int)<(s.size:Int)):=by omega
  have h2:(0:Int)≤(i:Int):=by omega
  simp only [B24,A0 h1,A0 h2,cond_true]
  rw [w64 (by omega) (by simp only [maxLen] at h;omega)]
  unfold D4L
  by_cases a:bt s i≥97<;>by_cases b:bt s i≤122<;>by_cases c:bt s i≥48<;>by_cases d:bt s i≤57<;>simp [a,b,c,d]
theorem E8j{s:ByteArray}{f:Int×Unit→Option ((Int×Unit)⊕(Unit⊕(Bool×Unit)))}(hs:∀ i:Nat,i<s.size→f ((i:Int),())=if D4L s i then some (.inl (((i+1:Nat):Int),())) else some (.inr (.inr (false,()))))
    (he:f ((s.size:Int),())=some (.inr (.inl ()))) (g:Unit→Option (Bool×Unit)) (hg:g ()=some (decide (1≤(s.size:Int)∧(s.size:Int)≤8),())):C3 (B7 f (0,())) g=some (idB s,()):=by
  obtain ⟨i,h1,h2,h3,h4⟩:=E03 f (fun i=>((i:Int),())) s.size (fun i=>if i<s.size then .inr (false,()) else .inl ()) (D4L s) (fun i hi=>by
    simp only [if_pos hi];exact hs i hi) (by simp only [Nat.lt_irrefl,if_false];exact he)
  have h4':B7 f (0,())=some (if i<s.size then .inr (false,()) else .inl ()):=h4
  rw [h4']
  unfold idB
  by_cases hi:i<s.size
  · rw [if_pos hi]
    have:(List.range s.size).all (D4L s)=false:=by
      rw [List.all_eq_false]
      exact ⟨i,List.mem_range.2 hi,by simp [h3 hi]⟩
    simp [C3,this]
  · rw [if_neg hi]
    have:(List.range s.size).all (D4L s)=true:=by
      rw [List.all_eq_true]
      intro j hj
      exact h2 j (by have:=List.mem_range.1 hj;omega)
    simp only [C3,this,hg,Bool.true_and]
theorem A8J(s:ByteArray)(h:s.size≤maxLen):M7 s=some (idB s,()):=by
  simp only [M7,C2J]
  exact E8j (E0G s h) (by simp [A99]) _ (by simp only [Q7,A3])
theorem B2r(s:ByteArray)(h:s.size≤maxLen):Q1 s=some (idB s,()):=by
  simp only [Q1,C7L]
  exact E8j (E43 s h) (by simp [B24]) _ (by simp only [K7,A3])
def L1(c:R8):Bool:=idB c.1&&decide ((c.2.1.length:Int)≤400)&&decide (1≤c.2.2.1∧c.2.2.1≤6)&&decide (0≤c.2.2.2∧c.2.2.2≤(c.2.1.length:Int))
theorem B0Q(c:R8)(h:c.1.size≤maxLen):I8 c=some (L1 c,()):=by
  simp only [I8,B2i,A8J _ h,Q7,A3,L1]
  cases idB c.1<;>cases decide ((c.2.1.length:Int)≤400)<;>cases decide (1≤c.2.2.1∧c.2.2.1≤6)<;>simp
theorem B0R(c:R8)(h:c.1.size≤maxLen):K5 c=some (L1 c,()):=by
  simp only [K5,B2A,B2r _ h,K7,A3,L1]
  cases idB c.1<;>cases decide ((c.2.1.length:Int)≤400)<;>cases decide (1≤c.2.2.1∧c.2.2.1≤6)<;>simp
theorem B5C{R:Type}(a:Option R):eqO a a=a:=by
  unfold eqO
  rw [if_pos rfl]
theorem A2B(a:List Int)(h:a.length≤140737488355328):C7 a=some (a,()):=by
  simp only [C7,W9]
  have e:(bif decide (([]:List Int).length+a.length≤9223372036854775807) then bif decide ((([]:List Int).length+a.length)*1≤140737488355328) then some (([]++a),()) else none else none)=some (a,()):=by
    rw [A0 (by simp;omega),A0 (by simp;omega)]
    simp
  rw [e]
  cases a with
  | nil=>simp [B5C]
  | cons x xs=>simp
def B13(c:R8):Bool:=decide (c.2.2.1=5)||decide (c.2.2.1=6)
theorem E0H(c:R8):A6I c=some (B13 c,()):=by
  simp only [A6I,B56,B13]
  cases decide (c.2.2.1=5)<;>simp
theorem D2y(c:R8):I7 c=some (B13 c,c,()):=by
  simp only [I7,A3m,B13]
  cases decide (c.2.2.1=5)<;>simp
theorem E0I(c:R8)(h2:c.2.1.length≤140737488355328):A1K c=some (c,()):=by
  simp only [A1K,B51]
  rw [A0 (by simp;omega),A0 (by simp;omega)]
  simp
theorem B7G(c:R8)(h2:c.2.1.length≤140737488355328):K0 c=some (c,()):=by
  simp only [K0,A7l,A2B _ h2,A3]
def C7X(n:Int)(k j:Nat):Int:=IntKind.u8.wrap (n.fdiv (2 ^ (8*(k-1-j))))
def big(n:Int)(k:Nat):List Int:=(List.range k).map (C7X n k)
theorem I9(n:Int)(k:Nat):(big n k).length=k:=by simp [big]
theorem F0M{n:Int}(h0:0≤n)(h1:n<18446744073709551616):IntKind.u64.wrap n=n:=by
  simp only [IntKind.wrap,IntKind.bits,IntKind.signed]
  simp
  omega
theorem E30(v:Int)(b:List Int)(k:Nat)(hk:k≤8)(hb:b.length+8≤140737488355328):B7 (A09 (v,())) ((k:Int)-1,b,())=some (b++big v k,()):=by
  have key:=E5 (A09 (v,())) (fun j=>((k:Int)-1-(j:Int),b++(List.range j).map (C7X v k),())) k (b++big v k,()) (fun j hj=>?_) ?_
  · simpa using key
  · have h1:(k:Int)-1-(j:Int)≥0:=by omega
    have e1:(k:Int)-1-(j:Int)=((k-1-j:Nat):Int):=by omega
    have hs:IntKind.u64.wrap (IntKind.i64.wrap (8*((k:Int)-1-(j:Int))))=((8*(k-1-j):Nat):Int):=by
      rw [w64 (by omega) (by omega),F0M (by omega) (by omega)]
      omega
    have hm:min (8*(k-1-j)) IntKind.i64.bits=8*(k-1-j):=Nat.min_eq_left (by simp only [IntKind.bits];omega)
    simp only [A09,A0 h1,cond_true,hs,Int.toNat_natCast,hm]
    rw [A4 (by omega)]
    simp only [cond_false]
    have hl:(b++(List.range j).map (C7X v k)).length=b.length+j:=by simp
    rw [A0 (by rw [hl];simp;omega),A0 (by rw [hl];simp;omega)]
    simp only [cond_true]
    rw [w64 (by omega) (by omega),List.range_succ,List.map_append,List.append_assoc]
    have e2:(k:Int)-1-(j:Int)-1=(k:Int)-1-((j+1:Nat):Int):=by omega
    rw [e2]
    rfl
  · have h1:¬ ((k:Int)-1-(k:Int)≥0):=by omega
    simp only [A09,A4 h1,cond_false]
    rfl
def Y6(n:Int):Int:=if n<0 then 0 else n
theorem A1M(b:List Int)(n:Int)(k:Nat)(h1:1≤k)(hk:k≤8)(hb:b.length+8≤140737488355328):A8C b n (k:Int)=some (b++big (Y6 n) k,()):=by
  simp only [A8C,B9P]
  rw [A0 (by simp;omega),A0 (by simp;omega)]
  have e:(bif decide (n<0) then some ((0:Int),()) else some (n,()))=some (Y6 n,()):=by
    unfold Y6
    by_cases h:n<0<;>simp [h]
  simp only [cond_true,e,A3,Q7]
  rw [A0 (by omega)]
  simp only [Bool.not_true,cond_false,List.nil_append]
  rw [w64 (by omega) (by omega)]
  exact E30 _ b k hk hb
theorem A9P(b:List Int)(n:Int)(k:Nat)(hk:k≤8)(hb:b.length+8≤140737488355328):A7d b n (k:Int)=some (b++big (Y6 n) k,()):=by
  simp only [A7d,B92]
  have e:B25 n=A09 (Y6 n,()):=by
    funext l
    have:(bif decide (0>n) then (0:Int) else n)=Y6 n:=by
      unfold Y6
      by_cases h:n<0<;>simp [h]
    simp only [B25,A09,this]
  rw [e,w64 (by omega) (by omega)]
  exact E30 _ b k hk hb
theorem C5T{n:Nat}(h:n<9223372036854775808):IntKind.i64.wrap (n:Int)=(n:Int):=w64 (by omega) (by omega)
theorem E9H{n:Nat}(h:n<4294967296):IntKind.u32.wrap (n:Int)=(n:Int):=by
  simp only [IntKind.wrap,IntKind.bits,IntKind.signed]
  simp
  omega
theorem bits_nat{w x:Nat}(h:x<2 ^ w):(BitVec.ofInt w (x:Int)).toNat=x:=by
  rw [BitVec.ofInt_natCast,BitVec.toNat_ofNat]
  exact Nat.mod_eq_of_lt h
theorem C7Y{x y:Nat}(hx:x<4294967296)(hy:y<4294967296):D0h .i64 (x:Int) (y:Int)=((x ^^^ y:Nat):Int):=by
  have h:x ^^^ y<2 ^ 32:=Nat.xor_lt_two_pow (by omega) (by omega)
  unfold D0h
  rw [BitVec.toNat_xor,bits_nat (by simp only [IntKind.bits];omega),bits_nat (by simp only [IntKind.bits];omega)]
  exact C5T (by omega)
theorem C7Z{x y:Nat}(hx:x<4294967296)(hy:y<4294967296):D0h .u32 (x:Int) (y:Int)=((x ^^^ y:Nat):Int):=by
  have h:x ^^^ y<2 ^ 32:=Nat.xor_lt_two_pow (by omega) (by omega)
  unfold D0h
  rw [BitVec.toNat_xor,bits_nat (by simp only [IntKind.bits];omega),bits_nat (by simp only [IntKind.bits];omega)]
  exact E9H (by omega)
theorem E6a{x y:Nat}(hx:x<4294967296)(hy:y<4294967296):E3p .i64 (x:Int) (y:Int)=((x &&& y:Nat):Int):=by
  have h:x &&& y<2 ^ 32:=Nat.and_lt_two_pow _ (by omega)
  unfold E3p
  rw [BitVec.toNat_and,bits_nat (by simp only [IntKind.bits];omega),bits_nat (by simp only [IntKind.bits];omega)]
  exact C5T (by omega)
theorem E6b{x y:Nat}(hx:x<4294967296)(hy:y<4294967296):E3p .u32 (x:Int) (y:Int)=((x &&& y:Nat):Int):=by
  have h:x &&& y<2 ^ 32:=Nat.and_lt_two_pow _ (by omega)
  unfold E3p
  rw [BitVec.toNat_and,bits_nat (by simp only [IntKind.bits];omega),bits_nat (by simp only [IntKind.bits];omega)]
  exact E9H (by omega)
def C0N(c:Nat):Nat:=if c &&& 1=1 then (c / 2) ^^^ 2197175160 else c / 2
def C2P(c:Nat):Nat→Nat
  | 0=>c
  | i+1=>C0N (C2P c i)
theorem E0J{c:Nat}(h:c<4294967296):C0N c<4294967296:=by
  unfold C0N
  split
  · have:(c / 2) ^^^ 2197175160<2 ^ 32:=Nat.xor_lt_two_pow (by omega) (by omega)
    omega
  · omega
theorem C6c{c:Nat}(h:c<4294967296):∀ i,C2P c i<4294967296
  | 0=>h
  | i+1=>E0J (C6c h i)
theorem half(c:Nat):((c:Int)).fdiv 2=((c / 2:Nat):Int):=by
  rw [Int.fdiv_eq_ediv_of_nonneg _ (by omega)]
  omega
def B0S(a:List Int):Nat:=a.foldl (fun c x=>C2P (c ^^^ x.toNat) 8) 4294967295
theorem E85(a:List Int)(ha:Byt a):∀ c,c<4294967296→a.foldl (fun c x=>C2P (c ^^^ x.toNat) 8) c<4294967296:=by
  induction a with
  | nil=>intro c h;exact h
  | cons x a ih=>
    intro c h
    have hx:=ha x (by simp)
    refine ih (fun y hy=>ha y (by simp [hy])) _ (C6c ?_ 8)
    have:c ^^^ x.toNat<2 ^ 32:=Nat.xor_lt_two_pow (by omega) (by omega)
    omega
theorem A6L{a:List Int}(h:Byt a)(i:Nat):Byt (a.take i):=fun x hx=>h x (List.mem_of_mem_take hx)
theorem B6e{a:List Int}(h:Byt a):B0S a<4294967296:=E85 a h _ (by omega)
theorem D2z{a:List Int}{i:Nat}(hi:i<a.length):B0S (a.take (i+1))=C2P (B0S (a.take i) ^^^ a[i].toNat) 8:=by
  unfold B0S
  rw [List.take_succ_eq_append_getElem hi,List.foldl_append]
  rfl
theorem E86(l0:Int×Int×Unit)(c:Nat)(h:c<4294967296):B7 (B6d l0) ((c:Int),0,())=some (.inl ((C2P c 8:Int),IntKind.i64.wrap (l0.2.1+1),())):=by
  refine E5 (B6d l0) (fun i=>((C2P c i:Int),(i:Int),())) 8 _ (fun i hi=>?_) ?_
  · have hl:=C6c h i
    have h1:(i:Int)<8:=by omega
    simp only [B6d,A0 h1,cond_true,half]
    rw [show (1:Int)=((1:Nat):Int) from rfl,E6a hl (by omega),show (2197175160:Int)=((2197175160:Nat):Int) from rfl,C7Y (by omega) (by omega)]
    rw [show ((i:Int)+((1:Nat):Int))=((i+1:Nat):Int) by omega,C5T (by omega)]
    simp only [C2P,C0N]
    by_cases hb:C2P c i &&& 1=1
    · rw [A0 (by rw [hb]),if_pos hb];rfl
    · rw [A4 (by omega),if_neg hb];rfl
  · rfl
theorem C7a(a:List Int)(ha:Byt a)(h:a.length≤maxLen):A7D a=some (((B0S a ^^^ 4294967295:Nat):Int),()):=by
  simp only [A7D,D4C]
  have key:=E5 (B0z a) (fun i=>((B0S (a.take i):Int),(i:Int),())) a.length ((B0S a:Int),()) (fun i hi=>?_) ?_
  · have e:B7 (B0z a) (4294967295,0,())=some ((B0S a:Int),()):=key
    rw [e]
    simp only [A3]
    rw [show (4294967295:Int)=((4294967295:Nat):Int) from rfl,C7Y (B6e ha) (by omega)]
  · have h1:((i:Int)<(a.length:Int)):=by omega
    have h2:(0:Int)≤(i:Int):=by omega
    have hx:=ha a[i] (List.getElem_mem hi)
    have hc:=B6e (A6L ha i)
    simp only [B0z,A0 h1,A0 h2,cond_true,C2N hi]
    have hxor:B0S (a.take i) ^^^ a[i].toNat<2 ^ 32:=Nat.xor_lt_two_pow (by omega) (by omega)
    rw [w64 (by omega) (by omega),show a[i]=((a[i].toNat:Nat):Int) by omega,C7Y hc (by omega)]
    rw [E86 _ _ (by omega)]
    simp only
    rw [show ((i:Int)+1)=((i+1:Nat):Int) by omega,C5T (by simp only [maxLen] at h;omega),D2z hi]
  · simp [B0z]
theorem E87(l0:Int×Int×Unit)(c:Nat)(h:c<4294967296):B7 (B6U l0) ((c:Int),0,())=some (.inl ((C2P c 8:Int),IntKind.i64.wrap (l0.2.1+1),())):=by
  refine E5 (B6U l0) (fun i=>((C2P c i:Int),(i:Int),())) 8 _ (fun i hi=>?_) ?_
  · have hl:=C6c h i
    have h1:(i:Int)<8:=by omega
    simp only [B6U,A0 h1,cond_true,half]
    rw [show (1:Int)=((1:Nat):Int) from rfl,E6b hl (by omega),show (2197175160:Int)=((2197175160:Nat):Int) from rfl,C7Z (by omega) (by omega)]
    rw [show ((i:Int)+((1:Nat):Int))=((i+1:Nat):Int) by omega,C5T (by omega)]
    simp only [C2P,C0N]
    by_cases hb:C2P c i &&& 1=1
    · rw [A0 (by rw [hb]),if_pos hb];rfl
    · rw [A4 (by omega),if_neg hb];rfl
  · rfl
theorem C7b(a:List Int)(ha:Byt a)(h:a.length≤maxLen):A6z a=some (((B0S a ^^^ 4294967295:Nat):Int),()):=by
  simp only [A6z,D4B]
  have key:=E5 (B0p a) (fun i=>((B0S (a.take i):Int),(i:Int),())) a.length ((B0S a:Int),()) (fun i hi=>?_) ?_
  · have e:B7 (B0p a) (4294967295,0,())=some ((B0S a:Int),()):=key
    rw [e]
    simp only [A3]
    have hm:IntKind.u32.max=((4294967295:Nat):Int):=rfl
    have hxor:B0S a ^^^ 4294967295<2 ^ 32:=Nat.xor_lt_two_pow (by have:=B6e ha;omega) (by omega)
    rw [hm,C7Z (by omega) (B6e ha),Nat.xor_comm,C5T (by omega)]
  · have h1:((i:Int)<(a.length:Int)):=by omega
    have h2:(0:Int)≤(i:Int):=by omega
    have hx:=ha a[i] (List.getElem_mem hi)
    have hc:=B6e (A6L ha i)
    simp only [B0p,A0 h1,A0 h2,cond_true,C2N hi]
    have hxor:B0S (a.take i) ^^^ a[i].toNat<2 ^ 32:=Nat.xor_lt_two_pow (by omega) (by omega)
    rw [show a[i]=((a[i].toNat:Nat):Int) by omega,E9H (by omega),C7Z hc (by omega)]
    rw [E87 _ _ (by omega)]
    simp only
    rw [show ((i:Int)+1)=((i+1:Nat):Int) by omega,C5T (by simp only [maxLen] at h;omega),D2z hi]
  · simp [B0p]
abbrev Req:=Int×ByteArray×Int
def E6c:Req×List Int×Bool×Unit:=((0,⟨#[]⟩,0),[],false,())
def W0(c:R8):Req×List Int×Bool×Unit:=
  if L1 c=false then E6c
  else if c.2.2.1=1 then ((1,c.1,(c.2.1.length:Int)),[],true,())
  else if c.2.2.1=2 then ((2,c.1,0),[],true,())
  else if c.2.2.1=3 then ((3,c.1,c.2.2.2),(c.2.1.take (min (c.2.2.2.toNat+24) c.2.1.length)).drop c.2.2.2.toNat,true,())
  else if c.2.2.1=4 then ((4,c.1,((B0S c.2.1 ^^^ 4294967295:Nat):Int)),[],true,())
  else E6c
theorem E0K{c:R8}(h:L1 c=true):c.2.1.length≤400∧1≤c.2.2.1∧c.2.2.1≤6∧0≤c.2.2.2∧c.2.2.2≤(c.2.1.length:Int):=by
  simp only [L1,Bool.and_eq_true,decide_eq_true_eq] at h
  omega
theorem D6b(c:R8):(W0 c).2.1.length≤c.2.1.length:=by
  unfold W0 E6c
  repeat' split
  all_goals simp
  omega
theorem D4M(c:R8)(h:c.1.size≤maxLen)(hb:Byt c.2.1):A60 c=some (W0 c):=by
  simp only [A60,B4X,B0R c h,D2y,A3,W0]
  cases hk:L1 c with
  | false=>rfl
  | true=>
    obtain ⟨h1,h2,h3,h4,h5⟩:=E0K hk
    simp only [Bool.not_true,cond_false,Bool.true_eq_false,if_false]
    cases ho:B13 c with
    | true=>
      simp only [B13,Bool.or_eq_true,decide_eq_true_eq] at ho
      rw [if_neg (by omega),if_neg (by omega),if_neg (by omega),if_neg (by omega)]
      rfl
    | false=>
      simp only [B13,Bool.or_eq_false_iff,decide_eq_false_iff_not] at ho
      simp only [cond_false,C3]
      by_cases e1:c.2.2.1=1
      · rw [A0 e1,if_pos e1];rfl
      rw [A4 e1,if_neg e1]
      by_cases e2:c.2.2.1=2
      · rw [A0 e2,if_pos e2];rfl
      rw [A4 e2,if_neg e2]
      by_cases e3:c.2.2.1=3
      · rw [A0 e3,if_pos e3,w64 (by omega) (by omega)]
        simp only [cond_true,cond_false]
        have hm:(bif decide ((c.2.1.length:Int)<c.2.2.2+24) then (c.2.1.length:Int) else c.2.2.2+24)=((min (c.2.2.2.toNat+24) c.2.1.length:Nat):Int):=by
          by_cases hc:(c.2.1.length:Int)<c.2.2.2+24
          · rw [A0 hc];simp only [cond_true];omega
          · rw [A4 hc];simp only [cond_false];omega
        rw [hm,A0 h4,A0 (by omega),A0 (by omega),Int.toNat_natCast]
        simp only [cond_true]
        rw [A2B _ (by simp;omega)]
      rw [A4 e3,if_neg e3]
      have e4:c.2.2.1=4:=by omega
      rw [if_pos e4]
      simp only [cond_false]
      rw [C7b _ hb (by simp only [maxLen];omega)]
theorem D4N(c:R8)(h:c.1.size≤maxLen)(hb:Byt c.2.1):A6H c=some (W0 c):=by
  simp only [A6H,B53,B0Q c h,A3,W0]
  cases hk:L1 c with
  | false=>rfl
  | true=>
    obtain ⟨h1,h2,h3,h4,h5⟩:=E0K hk
    simp only [Bool.not_true,cond_false,Bool.true_eq_false,if_false]
    by_cases e1:c.2.2.1=1
    · rw [A0 e1,if_pos e1];rfl
    rw [A4 e1,if_neg e1]
    by_cases e2:c.2.2.1=2
    · rw [A0 e2,if_pos e2];rfl
    rw [A4 e2,if_neg e2]
    by_cases e3:c.2.2.1=3
    · rw [A0 e3,if_pos e3,w64 (by omega) (by omega)]
      simp only [cond_true,cond_false]
      have hm:(bif decide (c.2.2.2+24>(c.2.1.length:Int)) then some ((c.2.1.length:Int),()) else some (c.2.2.2+24,()))=some (((min (c.2.2.2.toNat+24) c.2.1.length:Nat):Int),()):=by
        by_cases hc:c.2.2.2+24>(c.2.1.length:Int)
        · rw [A0 hc];simp only [cond_true];congr 2;omega
        · rw [A4 hc];simp only [cond_false];congr 2;omega
      rw [hm]
      simp only
      rw [A0 h4,A0 (by omega),A0 (by omega),Int.toNat_natCast]
      simp only [cond_true]
      rw [A0 (by simp;omega),A0 (by simp;omega)]
      simp
    rw [A4 e3,if_neg e3]
    by_cases e4:c.2.2.1=4
    · rw [A0 e4,if_pos e4]
      simp only [cond_true,cond_false]
      rw [C7a _ hb (by simp only [maxLen];omega)]
    · rw [A4 e4,if_neg e4];rfl
abbrev D6c:=Int×Int
def W4(r:D6c):Bool:=decide (100≤r.1∧r.1≤599)&&decide (-1≤r.2∧r.2≤1000000000)
theorem B5D(r:D6c):T5 r=some (W4 r,()):=by
  simp only [T5,B9N,Q7,A3,W4]
  cases decide (100≤r.1∧r.1≤599)<;>simp
theorem B5E(r:D6c):T3 r=some (W4 r,()):=by
  simp only [T3,B90,K7,A3,W4]
  cases decide (100≤r.1∧r.1≤599)<;>simp
def far(c:R8)(off:Int):R8:=if 0≤off∧off≤(c.2.1.length:Int) then (if off=(c.2.1.length:Int) then (c.1,c.2.1,4,off) else (c.1,c.2.1,3,off)) else (c.1,c.2.1,6,c.2.2.2)
theorem E44(c:R8)(off:Int):A8H c off=some (far c off,()):=by
  simp only [A8H,B9U,Q7,A3,far]
  by_cases h:0≤off∧off≤(c.2.1.length:Int)
  · rw [A0 h,if_pos h]
    by_cases h2:off=(c.2.1.length:Int)<;>simp [h2]
  · rw [A4 h,if_neg h];rfl
theorem E45(c:R8)(off:Int):V6 c off=some (far c off,()):=by
  simp only [V6,A3q,K7,A3,far]
  by_cases h:0≤off∧off≤(c.2.1.length:Int)
  · rw [A0 h,if_pos h]
    by_cases h2:off=(c.2.1.length:Int)<;>simp [h2]
  · rw [A4 h,if_neg h];rfl
def A4G(step status:Int):Int:=
  if status=507 then (if step=2 then 6 else step)
  else if status=404 then (if step=1 then 6 else 1)
  else if status=409 then (if step=3 then 0 else if step=2 then 6 else 2)
  else if status=201 then (if step=1 then 0 else 6)
  else if status=204 then (if step=3 then 0 else 6)
  else if status=200 then (if step=2 then 0 else if step=4 then 5 else 6)
  else 6
theorem E0L(a b:Int):A6J a b=some (A4G a b,()):=by
  simp only [A6J,B57,A4G]
  by_cases h1:b=507
  · by_cases h:a=2<;>simp [h1,h]
  by_cases h2:b=404
  · by_cases h:a=1<;>simp [h2,h]
  by_cases h3:b=409
  · by_cases h:a=3
    · simp [h3,h]
    · by_cases h':a=2<;>simp [h3,h,h']
  by_cases h4:b=201
  · by_cases h:a=1<;>simp [h4,h]
  by_cases h5:b=204
  · by_cases h:a=3<;>simp [h5,h]
  by_cases h6:b=200
  · by_cases h:a=2
    · simp [h6,h]
    · by_cases h':a=4<;>simp [h6,h,h']
  simp [h1,h2,h3,h4,h5,h6]
def hear(c:R8)(r:D6c):R8:=if A4G c.2.2.1 r.1=0 then far c r.2 else (c.1,c.2.1,A4G c.2.2.1 r.1,c.2.2.2)
theorem E0M(c:R8)(r:D6c):A6K c r=some (hear c r,()):=by
  simp only [A6K,B58,E0L,E44,A3,hear]
  by_cases h:A4G c.2.2.1 r.1=0<;>simp [h]
theorem E46(c:R8)(r:D6c)(h:c.2.2.1=1∨c.2.2.1=2∨c.2.2.1=3∨c.2.2.1=4):A0H c r=some (hear c r,()):=by
  have hc:c=(c.1,c.2.1,c.2.2.1,c.2.2.2):=rfl
  simp only [A0H,A6b,E45,hear,A4G]
  by_cases h1:r.1=507
  · rcases h with h | h | h | h<;>simp [h1,h,A3]
    all_goals (rw [← h])
  by_cases h2:r.1=404
  · rcases h with h | h | h | h<;>simp [h2,h,A3]
  by_cases h3:r.1=409
  · rcases h with h | h | h | h<;>simp [h3,h,A3]
  by_cases h4:r.1=201
  · rcases h with h | h | h | h<;>simp [h4,h,A3]
  by_cases h5:r.1=204
  · rcases h with h | h | h | h<;>simp [h5,h,A3]
  by_cases h6:r.1=200
  · rcases h with h | h | h | h<;>simp [h6,h,A3]
  rcases h with h | h | h | h<;>simp [h1,h2,h3,h4,h5,h6,h,A3]
def A2C(c:R8)(r:D6c):R8:=if L1 c&&W4 r&&!B13 c then hear c r else c
theorem D0j(c:R8)(r:D6c)(h:c.1.size≤maxLen)(h2:c.2.1.length≤140737488355328):A3r c r=some (A2C c r,()):=by
  simp only [A3r,B2E,B7G _ h2,B0R _ h,B5E,D2y,A3,A2C]
  cases hk:L1 c with
  | false=>simp
  | true=>
    cases W4 r with
    | false=>simp
    | true=>
      cases ho:B13 c with
      | true=>simp
      | false=>
        obtain ⟨_,h4,h5,_,_⟩:=E0K hk
        simp only [B13,Bool.or_eq_false_iff,decide_eq_false_iff_not] at ho
        simp only [Bool.not_true,cond_false]
        rw [E46 c r (by omega)]
        simp
def E47(us:List TUp)(id:ByteArray):Nat:=O7 (fun i=>!((rd kUp us (i:Int)).1.toList == id.toList)) 0 us.length
def F0N:TUp×Bool×Unit:=((⟨#[]⟩,0,[],false),false,())
def F0O(st:A8)(id:ByteArray):TUp×Bool×Unit:=if E47 st.2.2.2 id<st.2.2.2.length then (rd kUp st.2.2.2 (E47 st.2.2.2 id:Int),true,()) else F0N
theorem D6d(us:List TUp)(id:ByteArray)(h:us.length≤maxLen):O3 us id=some (if E47 us id<us.length then (E47 us id:Int) else -1,()):=by
  simp only [O3,C2L]
  refine A3N (A9B us id) (fun i=>((i:Int),())) us.length (fun i=>(if i<us.length then (i:Int) else -1,())) (fun i=>!((rd kUp us (i:Int)).1.toList == id.toList)) (fun i hi=>?_) ?_
  · have h1:((i:Int)<(us.length:Int)):=by omega
    have h2:(0:Int)≤(i:Int):=by omega
    simp only [A9B,A0 h1,A0 h2,cond_true,if_pos hi]
    rw [w64 (by omega) (by simp only [maxLen] at h;omega)]
    cases ((rd kUp us (i:Int)).1.toList == id.toList)<;>simp
  · simp [A9B]
def E9I(w:A6)(i:Nat):TUp×Bool×Unit:=F0O w.1.1 (rd B2 w.2.1 (i:Int)).1
def beg(a b:List Int):Bool:=decide (a.length≤b.length)&&(List.range a.length).all fun i=>decide (rd (.int .u8) a (i:Int)=rd (.int .u8) b (i:Int))
theorem E9J{x y:Int}(hx:0≤x∧x<256)(hy:0≤y∧y<256)(h:UInt8.ofNat x.toNat=UInt8.ofNat y.toNat):x=y:=by
  have:=congrArg UInt8.toNat h
  simp only [UInt8.toNat_ofNat'] at this
  omega
def be(w:A6)(i:Nat):Bool:=!(E9I w i).2.1||(beg (E9I w i).1.2.2.1 (rd B2 w.2.1 (i:Int)).2.1&&decide ((E9I w i).1.2.1=(List.length (rd B2 w.2.1 (i:Int)).2.1:Int)))
theorem E88{L:Int×Unit→Option ((Int×Unit)⊕(Unit⊕(Bool×Unit)))}{n:Nat}{go:Nat→Bool}(hs:∀ i:Nat,i<n→L ((i:Int),())=bif go i then some (.inl (((i+1:Nat):Int),())) else some (.inr (.inr (false,()))))
    (he:L ((n:Int),())=some (.inr (.inl ()))) (g:Unit→Option (Bool×Unit)) (b:Bool) (hg:g ()=some (b,())):C3 (B7 L (0,())) g=some (decide (O7 go 0 n=n)&&b,()):=by
  have h:=A3N L (fun i=>((i:Int),())) n (fun i=>if i=n then .inl () else .inr (false,())) go (fun i hi=>by
    rw [hs i hi]
    cases go i with
    | true=>rfl
    | false=>simp only [Bool.false_eq_true,if_false,cond_false];rw [if_neg (by omega)]) (by rw [he,if_pos rfl])
  have h':B7 L (0,())=_:=h
  rw [h']
  by_cases hn:O7 go 0 n=n
  · rw [if_pos hn,A0 hn];simp [C3,hg]
  · rw [if_neg hn,A4 hn];simp [C3]
theorem E89{x y:Nat}(hx:x<9223372036854775808)(hy:y<9223372036854775808):bOr .i64 (x:Int) (y:Int)=((x ||| y:Nat):Int):=by
  have h:x ||| y<2 ^ 63:=Nat.or_lt_two_pow (by omega) (by omega)
  unfold bOr
  rw [BitVec.toNat_or,bits_nat (by simp only [IntKind.bits];omega),bits_nat (by simp only [IntKind.bits];omega)]
  exact C5T (by omega)
def U4(b:List Int)(at_:Nat):Nat→Nat
  | 0=>0
  | j+1=>(U4 b at_ j*256) ||| (b.getD (at_+j) 0).toNat
theorem D6e{b:List Int}(hb:Byt b)(i:Nat):0≤b.getD i 0∧b.getD i 0<256:=by
  by_cases h:i<b.length
  · simp only [List.getD,List.getElem?_eq_getElem h,Option.getD_some]
    exact hb _ (List.getElem_mem h)
  · simp only [List.getD,List.getElem?_eq_none (show b.length≤i by omega),Option.getD_none]
    omega
theorem D4O{b:List Int}(hb:Byt b)(at_:Nat):∀ j,U4 b at_ j<2 ^ (8*j)
  | 0=>by simp [U4]
  | j+1=>by
    have h1:=D4O hb at_ j
    have h2:=D6e hb (at_+j)
    have e:2 ^ (8*(j+1))=2 ^ (8*j)*256:=by rw [show 8*(j+1)=8*j+8 by omega,Nat.pow_add]
    refine Nat.or_lt_two_pow ?_ ?_
    · rw [e];exact Nat.mul_lt_mul_of_pos_right h1 (by omega)
    · have:1≤2 ^ (8*j):=Nat.one_le_two_pow
      rw [e];omega
theorem D6f{b:List Int}(hb:Byt b)(at_ j:Nat)(hj:j<7)(x:Int)(hx:x=b.getD (at_+j) 0):bOr .i64 (IntKind.i64.wrap (((U4 b at_ j:Nat):Int)*256)) (IntKind.i64.wrap x)=((U4 b at_ (j+1):Nat):Int):=by
  have h1:=D4O hb at_ j
  have h2:=D6e hb (at_+j)
  have h3:2 ^ (8*j)≤2 ^ 48:=Nat.pow_le_pow_right (by omega) (by omega)
  subst hx
  rw [show ((U4 b at_ j:Nat):Int)*256=((U4 b at_ j*256:Nat):Int) by omega,C5T (by omega),show b.getD (at_+j) 0=(((b.getD (at_+j) 0).toNat:Nat):Int) by omega,C5T (by omega),E89 (by omega) (by omega)]
  simp only [U4,Int.toNat_natCast]
def A56(b:List Int)(a:Int)(k:Nat):Int×Bool×Unit:=if 0≤a∧a≤(b.length:Int)-k then ((U4 b a.toNat k:Int),true,()) else (0,false,())
theorem D6g(b:List Int)(hb:Byt b)(h:b.length≤1048576)(a:Int)(k:Nat)(hk:1≤k∧k≤7):A4w b a (k:Int)=some (A56 b a k):=by
  simp only [A4w,B9O,Q7,A3,A56]
  rw [A0 (show (1:Int)≤(k:Int)∧(k:Int)≤7 by omega),w64 (by omega) (by omega)]
  simp only [Bool.not_true,cond_false]
  by_cases h1:a<0
  · rw [A0 h1,if_neg (by omega)];rfl
  rw [A4 h1]
  by_cases h2:a>(b.length:Int)-k
  · rw [A0 h2,if_neg (by omega)];rfl
  rw [A4 h2,if_pos (by omega)]
  simp only [cond_false,C3]
  have key:=E5 (A47 (k:Int) a b) (fun j=>((U4 b a.toNat j:Int),(j:Int),())) k ((U4 b a.toNat k:Int),()) (fun j hj=>?_) ?_
  · have e:B7 (A47 (k:Int) a b) (0,0,())=_:=key
    rw [e]
  · have g1:(j:Int)<(k:Int):=by omega
    simp only [A47,A0 g1,cond_true]
    rw [w64 (n:=a+(j:Int)) (by omega) (by omega)]
    have g2:0≤a+(j:Int):=by omega
    have g3:a+(j:Int)<(b.length:Int):=by omega
    rw [A0 g2,A0 g3]
    simp only [cond_true]
    rw [D6f hb a.toNat j (by omega) _ (by
      rw [show a+(j:Int)=((a.toNat+j:Nat):Int) by omega,C2N (by omega)]
      simp [List.getD,show a.toNat+j<b.length by omega]),show (j:Int)+1=((j+1:Nat):Int) by omega,C5T (by omega)]
  · simp [A47]
theorem B5F(b:List Int)(hb:Byt b)(h:b.length≤1048576)(a:Int)(k:Nat)(hk:1≤k∧k≤7):A7c b a (k:Int)=some (A56 b a k):=by
  simp only [A7c,B91,K7,A3,A56]
  rw [A0 (show (1:Int)≤(k:Int)∧(k:Int)≤7 by omega),w64 (n:=(b.length:Int)-(k:Int)) (by omega) (by omega)]
  simp only [Bool.not_true,cond_false]
  by_cases h1:a<0
  · rw [A0 h1,if_neg (by omega)];rfl
  rw [A4 h1]
  by_cases h2:a>(b.length:Int)-k
  · rw [A0 h2,if_neg (by omega)];rfl
  rw [A4 h2,if_pos (by omega)]
  simp only [cond_false,C3]
  rw [w64 (n:=a+(k:Int)) (by omega) (by omega),A0 (show 0≤a by omega),A0 (show a≤a+(k:Int) by omega),A0 (show a+(k:Int)≤(b.length:Int) by omega)]
  simp only [cond_true]
  have hlen:((b.take (a+(k:Int)).toNat).drop a.toNat).length=k:=by simp;omega
  have key:=E5 (A3h b a (k:Int)) (fun j=>((U4 b a.toNat j:Int),(j:Int),())) k ((U4 b a.toNat k:Int),()) (fun j hj=>?_) ?_
  · have e:B7 (A3h b a (k:Int)) (0,0,())=_:=key
    rw [e]
  · have g1:(j:Int)<(k:Int):=by omega
    have g2:(0:Int)≤(j:Int):=by omega
    simp only [A3h]
    rw [w64 (n:=a+(k:Int)) (by omega) (by omega)]
    simp only [hlen,A0 g1,A0 g2,cond_true]
    rw [D6f hb a.toNat j (by omega) _ (by
      rw [C2N (by rw [hlen];exact hj)]
      simp [List.getD,show a.toNat+j<b.length by omega]),show (j:Int)+1=((j+1:Nat):Int) by omega,C5T (by omega)]
  · simp only [A3h]
    rw [w64 (n:=a+(k:Int)) (by omega) (by omega)]
    simp [hlen]
theorem A57(xs:List Int):(strOf xs).size=xs.length:=strOfNums_size xs
theorem E6d(a b:ByteArray):(a++b).size=a.size+b.size:=ByteArray.size_append
theorem D6h(k:Int)(h:k<4611686018427387904):∃ s,D3 k=some (s,()):=by
  simp only [D3,B2a]
  by_cases h0:k≤0
  · rw [A0 h0];exact ⟨_,rfl⟩
  rw [A4 h0]
  obtain ⟨z,e,hz⟩:=A3M A89 (fun l=>l.1.toNat) (fun l=>0≤l.1∧(l.2.1.size:Int)+l.1≤k) (fun z=>(z.1.size:Int)≤k) (fun l hl=>by
    obtain ⟨n,out,u⟩:=l
    simp only at hl ⊢
    simp only [A89]
    by_cases hp:n>0
    · refine .inl ⟨(n.tdiv 10,strOf [IntKind.u8.wrap (IntKind.i64.wrap (48+n.tmod 10))]++out,()),?_,?_,?_⟩
      · rw [A0 hp]
        simp only [cond_true]
        rw [A4 (by rw [A57];simp [IntKind.max,IntKind.signed,IntKind.bits];omega)]
        simp only [cond_false]
        rw [w64 (n:=n.tdiv 10) (by rw [Int.tdiv_eq_ediv_of_nonneg (by omega)];omega) (by rw [Int.tdiv_eq_ediv_of_nonneg (by omega)];omega)]
      · simp only
        rw [E6d,A57,Int.tdiv_eq_ediv_of_nonneg (by omega)]
        simp only [List.length_singleton]
        omega
      · simp only
        rw [Int.tdiv_eq_ediv_of_nonneg (by omega)]
        omega
    · rw [A4 hp]
      exact .inr ⟨_,rfl,by simp only;omega⟩) (k,⟨#[]⟩,()) (by
      constructor
      · simp only;omega
      · show ((0:Nat):Int)+k≤k
        omega)
  rw [e]
  simp only [A3,cond_false]
  have h1:(⟨#[109]⟩:ByteArray).size=1:=rfl
  rw [A4 (by rw [h1];simp [IntKind.max,IntKind.signed,IntKind.bits];omega)]
  exact ⟨_,rfl⟩
noncomputable def mt(k:Int):ByteArray:=match D3 k with
  | some (s,_)=>s
  | none=>⟨#[]⟩
theorem A6M(k:Int)(h:k<4611686018427387904):D3 k=some (mt k,()):=by
  obtain ⟨s,hs⟩:=D6h k h
  unfold mt
  rw [hs]
noncomputable def Q8(m:Int)(n:Nat):List ByteArray:=(List.range n).map fun j=>mt (m+(j:Nat))
theorem C7c(a:List ByteArray)(m:Int)(h0:0≤m)(h:m+a.length<4611686018427387904):U9 a m=some (m+a.length,Q8 m a.length,()):=by
  simp only [U9,A6i]
  have key:=E5 (A0f D3) (fun i=>(m+(i:Int),(i:Int),Q8 m i++a.drop i,())) a.length (m+a.length,Q8 m a.length,()) (fun i hi=>?_) ?_
  · simpa [Q8] using key
  · have h1:((i:Int)<(a.length:Int)):=by omega
    have h2:(0:Int)≤(i:Int):=by omega
    have hl:(Q8 m i++a.drop i).length=a.length:=by simp [Q8];omega
    simp only [A0f,hl,A0 h1,A0 h2,cond_true]
    rw [A6M _ (by omega),w64 (by omega) (by omega),w64 (by omega) (by omega),Int.toNat_natCast]
    simp only [A3]
    have:(Q8 m i++a.drop i).set i (mt (m+(i:Int)))=Q8 m (i+1)++a.drop (i+1):=by
      rw [List.set_append_right _ _ (by simp [Q8])]
      rw [show (Q8 m i).length=i by simp [Q8],Nat.sub_self,List.drop_eq_getElem_cons hi,List.set_cons_zero]
      simp [Q8,List.range_succ]
    rw [this]
    simp only [Int.natCast_add,Int.natCast_one,Int.add_assoc]
  · simp [A0f,Q8]
theorem C7d(n:Nat)(m:Int)(h0:0≤m)(h:m+n<4611686018427387904):V0 (Q8 m n) m=some (m+n,()):=by
  simp only [V0,A6j]
  have hl:(Q8 m n).length=n:=by simp [Q8]
  have key:=E5 (A0h D3 (Q8 m n)) (fun i=>(m+(i:Int),(i:Int),())) n (m+n,()) (fun i hi=>?_) ?_
  · simpa [Q8] using key
  · have h1:((i:Int)<(n:Int)):=by omega
    have h2:(0:Int)≤(i:Int):=by omega
    simp only [A0h,hl,A0 h1,A0 h2,cond_true]
    have hr:rd .str (Q8 m n) (i:Int)=mt (m+(i:Int)):=by
      rw [A6m (by rw [hl];exact hi)]
      simp [Q8]
    rw [hr,A6M _ (by omega),w64 (by omega) (by omega),w64 (by omega) (by omega)]
    simp only [A3,beq_self_eq_true,Bool.not_true,cond_false,Int.natCast_add,Int.natCast_one,Int.add_assoc]
  · simp [A0h,hl]
theorem wrap_u8(x:Int):0≤IntKind.u8.wrap x∧IntKind.u8.wrap x<256:=by
  simp only [IntKind.wrap,IntKind.bits,IntKind.signed]
  simp
  omega
def O8(r:H1):Bool:=
  decide (0≤r.1∧r.1≤10000)&&decide (0≤r.2.1∧r.2.1≤199)&&idB r.2.2.2.1 &&
  (if r.2.2.1=1 then decide (0≤r.2.2.2.2.1∧r.2.2.2.2.1≤1000000000)&&decide ((List.length r.2.2.2.2.2:Int)=0)
   else if r.2.2.1=2 then decide (0≤r.2.2.2.2.1∧r.2.2.2.2.1≤1000000000)&&decide (1≤(List.length r.2.2.2.2.2:Int)∧(List.length r.2.2.2.2.2:Int)≤24)
   else if r.2.2.1=3∨r.2.2.1=4 then decide (r.2.2.2.2.1=0)&&decide ((List.length r.2.2.2.2.2:Int)=0) else false)
theorem E0N(r:H1)(h:r.2.2.2.1.size≤maxLen):B0y r=some (O8 r,()):=by
  simp only [B0y,C2K,A8J _ h,Q7,A3,O8]
  cases decide (0≤r.1∧r.1≤10000)
  · rfl
  cases decide (0≤r.2.1∧r.2.1≤199)
  · rfl
  cases idB r.2.2.2.1
  · rfl
  simp only [Bool.not_true,cond_false,C3,Bool.true_and]
  by_cases h1:r.2.2.1=1
  · rw [A0 h1,if_pos h1]
    cases decide (0≤r.2.2.2.2.1∧r.2.2.2.2.1≤1000000000)<;>rfl
  rw [A4 h1,if_neg h1]
  by_cases h2:r.2.2.1=2
  · rw [A0 h2,if_pos h2]
    cases decide (0≤r.2.2.2.2.1∧r.2.2.2.2.1≤1000000000)<;>rfl
  rw [A4 h2,if_neg h2]
  by_cases h3:r.2.2.1=3
  · rw [A0 h3,if_pos (.inl h3)]
    cases decide (r.2.2.2.2.1=0)<;>rfl
  rw [A4 h3]
  by_cases h4:r.2.2.1=4
  · rw [A0 h4,if_pos (.inr h4)]
    cases decide (r.2.2.2.2.1=0)<;>rfl
  rw [A4 h4,if_neg (by omega)]
  rfl
theorem C7e(r:H1)(h:r.2.2.2.1.size≤maxLen):A4n r=some (O8 r,()):=by
  simp only [A4n,C2A,A0y,A8n,B2r _ h,K7,A3,O8]
  cases decide (0≤r.1∧r.1≤10000)
  · rfl
  cases decide (0≤r.2.1∧r.2.1≤199)
  · rfl
  by_cases hk:1≤r.2.2.1∧r.2.2.1≤4
  · rw [A0 hk]
    cases idB r.2.2.2.1
    · rfl
    simp only [Bool.not_true,cond_false,C3,Bool.true_and]
    by_cases h1:r.2.2.1=1
    · rw [A0 h1,if_pos h1]
      cases decide (0≤r.2.2.2.2.1∧r.2.2.2.2.1≤1000000000)<;>rfl
    rw [A4 h1,if_neg h1]
    by_cases h2:r.2.2.1=2
    · rw [A0 h2,if_pos h2]
      cases decide (0≤r.2.2.2.2.1∧r.2.2.2.2.1≤1000000000)<;>rfl
    rw [A4 h2,if_neg h2,if_pos (by omega)]
    cases decide (r.2.2.2.2.1=0)<;>rfl
  · rw [A4 hk,if_neg (by omega),if_neg (by omega),if_neg (by omega)]
    cases idB r.2.2.2.1<;>rfl
theorem A0a{r:H1}(h:O8 r=true):0≤r.1∧r.1≤10000∧1≤r.2.2.1∧r.2.2.1≤4∧r.2.2.2.1.size≤8∧0≤r.2.2.2.2.1∧r.2.2.2.2.1≤1000000000∧List.length r.2.2.2.2.2≤24:=by
  simp only [O8,idB,Bool.and_eq_true,decide_eq_true_eq] at h
  obtain ⟨⟨⟨h1,h2⟩,h3,h4⟩,h5⟩:=h
  split at h5
  · simp only [Bool.and_eq_true,decide_eq_true_eq] at h5;omega
  · split at h5
    · simp only [Bool.and_eq_true,decide_eq_true_eq] at h5;omega
    · split at h5
      · simp only [Bool.and_eq_true,decide_eq_true_eq] at h5;omega
      · cases h5
theorem D4P{a b:List Int}(ha:Byt a)(hb:Byt b):Byt (a++b):=fun x hx=>(List.mem_append.1 hx).elim (ha x) (hb x)
theorem E31(n:Int)(k:Nat):Byt (big n k):=by
  intro x hx
  obtain ⟨j,_,rfl⟩:=List.mem_map.1 hx
  exact wrap_u8 _
theorem A9Q(s:ByteArray):Byt (bytesOf s):=by
  intro x hx
  obtain ⟨b,_,rfl⟩:=List.mem_map.1 hx
  have:=b.toNat_lt
  omega
theorem A1o:Byt []:=fun x hx=>by cases hx
theorem B14{a:List Int}(h:Byt a)(i:Nat):Byt (a.drop i):=fun x hx=>h x (List.mem_of_mem_drop hx)
def B41(r:H1):List Int:=
  big (Y6 r.1) 3++big (Y6 r.2.1) 2++big (Y6 r.2.2.1) 1++big (Y6 (r.2.2.2.1.size:Int)) 1++bytesOf r.2.2.2.1++big (Y6 r.2.2.2.2.1) 4++big (Y6 (List.length r.2.2.2.2.2:Int)) 1++r.2.2.2.2.2
def E9K(b:List Int):Int:=((B0S b ^^^ 4294967295:Nat):Int)
def U8(r:H1):ByteArray:=strOf (B41 r++big (Y6 (E9K (B41 r))) 4)
theorem B5G(r:H1):(B41 r).length=12+r.2.2.2.1.size+List.length r.2.2.2.2.2:=by
  simp only [B41,List.length_append,I9,bytesOf_length]
  omega
theorem C7f(r:H1)(h:Byt r.2.2.2.2.2):Byt (B41 r):=by
  unfold B41
  repeat' first | apply D4P | apply E31 | apply A9Q | exact h
theorem C3b(r:H1)(h1:r.2.2.2.1.size≤10000000)(h2:List.length r.2.2.2.2.2≤10000000)(hb:Byt r.2.2.2.2.2):A34 r=some (U8 r,()):=by
  have hlen:=B5G r
  simp only [A34,B9Q]
  rw [show (3:Int)=((3:Nat):Int) from rfl,A1M [] _ 3 (by omega) (by omega) (by simp)]
  simp only [A3,List.nil_append]
  rw [show (2:Int)=((2:Nat):Int) from rfl,A1M _ _ 2 (by omega) (by omega) (by simp [I9])]
  simp only
  rw [show (1:Int)=((1:Nat):Int) from rfl,A1M _ _ 1 (by omega) (by omega) (by simp [I9])]
  simp only
  rw [A1M _ _ 1 (by omega) (by omega) (by simp [I9])]
  simp only
  rw [A0 (by simp [I9];omega)]
  simp only [cond_true]
  rw [show (4:Int)=((4:Nat):Int) from rfl,A1M _ _ 4 (by omega) (by omega) (by simp [I9,bytesOf_length];omega)]
  simp only
  rw [A1M _ _ 1 (by omega) (by omega) (by simp [I9,bytesOf_length];omega)]
  simp only
  rw [A0 (by simp [I9,bytesOf_length];omega),A0 (by simp [I9,bytesOf_length];omega)]
  simp only [cond_true]
  have e:big (Y6 r.1) 3++big (Y6 r.2.1) 2++big (Y6 r.2.2.1) 1++big (Y6 (r.2.2.2.1.size:Int)) 1++bytesOf r.2.2.2.1++big (Y6 r.2.2.2.2.1) 4++big (Y6 (List.length r.2.2.2.2.2:Int)) 1++r.2.2.2.2.2=B41 r:=rfl
  rw [e,C7a _ (C7f r hb) (by rw [hlen];simp only [maxLen];omega)]
  simp only
  rw [A1M _ _ 4 (by omega) (by omega) (by rw [hlen];omega)]
  rfl
theorem D4Q(n:Int):big n 1 = [IntKind.u8.wrap n]:=by
  simp [big,C7X]
theorem A4H{n:Int}(h:0≤n):Y6 n=n:=by unfold Y6;rw [if_neg (by omega)]
theorem C3c(r:H1)(h1:r.2.2.2.1.size≤maxLen)(hb:Byt r.2.2.2.2.2):A30 r=some (if O8 r then U8 r else ⟨#[]⟩,()):=by
  simp only [A30,B93,C7e r h1]
  cases hr:O8 r with
  | false=>rfl
  | true=>
    have hbd:=A0a hr
    have hlen:=B5G r
    simp only [A3,Bool.not_true,cond_false]
    rw [show (3:Int)=((3:Nat):Int) from rfl,A9P [] _ 3 (by omega) (by simp)]
    simp only [List.nil_append]
    rw [show (2:Int)=((2:Nat):Int) from rfl,A9P _ _ 2 (by omega) (by simp [I9])]
    simp only
    rw [A0 (by simp [I9]),A0 (by simp [I9])]
    simp only [cond_true]
    rw [A0 (by simp [I9];omega)]
    simp only [cond_true]
    rw [show (4:Int)=((4:Nat):Int) from rfl,A9P _ _ 4 (by omega) (by simp [I9,bytesOf_length];omega)]
    simp only
    rw [A0 (by simp [I9,bytesOf_length];omega),A0 (by simp [I9,bytesOf_length];omega)]
    simp only [cond_true]
    rw [A0 (by simp [I9,bytesOf_length];omega),A0 (by simp [I9,bytesOf_length];omega)]
    simp only [cond_true]
    have e:big (Y6 r.1) 3++big (Y6 r.2.1) 2 ++ [IntKind.u8.wrap r.2.2.1,IntKind.u8.wrap (r.2.2.2.1.size:Int)]++bytesOf r.2.2.2.1++big (Y6 r.2.2.2.2.1) 4 ++ [IntKind.u8.wrap (List.length r.2.2.2.2.2:Int)]++r.2.2.2.2.2=B41 r:=by
      unfold B41
      rw [D4Q,D4Q,D4Q,A4H (n:=r.2.2.1) (by omega),A4H (n:=(r.2.2.2.1.size:Int)) (by omega),A4H (n:=(List.length r.2.2.2.2.2:Int)) (by omega)]
      simp [List.append_assoc]
    rw [e,C7b _ (C7f r hb) (by rw [hlen];simp only [maxLen];omega)]
    simp only
    rw [A9P _ _ 4 (by omega) (by rw [hlen];omega)]
    rfl
def D8(b:List Int):Nat:=U4 b 6 1
def O0(b:List Int):Nat:=U4 b (11+D8 b) 1
def recAt(b:List Int):H1:=((U4 b 0 3:Int),(U4 b 3 2:Int),(U4 b 5 1:Int),strOf ((b.take (7+D8 b)).drop 7),(U4 b (7+D8 b) 4:Int),(b.take (12+D8 b+O0 b)).drop (12+D8 b))
def E6e:H1×Bool×Unit:=((0,0,0,⟨#[]⟩,0,[]),false,())
def B6f(s:ByteArray):Bool:=decide (12+D8 (bytesOf s)+O0 (bytesOf s)≤s.size)&&O8 (recAt (bytesOf s))&&((U8 (recAt (bytesOf s))).toList == s.toList)
def K3(s:ByteArray):H1×Bool×Unit:=if B6f s=true then (recAt (bytesOf s),true,()) else E6e
theorem A58(b:List Int)(a k:Nat)(h:a+k≤b.length):A56 b (a:Int) k=((U4 b a k:Int),true,()):=by
  unfold A56
  rw [if_pos (by omega),Int.toNat_natCast]
theorem C2Q(b:List Int)(a k:Nat)(h:¬ a+k≤b.length):A56 b (a:Int) k=(0,false,()):=by
  unfold A56
  rw [if_neg (by omega)]
theorem C6d{b:List Int}(hb:Byt b)(a:Nat):U4 b a 1<256:=by
  have:=D4O hb a 1
  omega
theorem D30(b:List Int)(h:12+D8 b+O0 b≤b.length):(recAt b).2.2.2.1.size=D8 b∧List.length (recAt b).2.2.2.2.2=O0 b:=by
  simp only [recAt,A57,List.length_drop,List.length_take]
  omega
theorem C2R{b:List Int}(hb:Byt b):Byt (recAt b).2.2.2.2.2:=B14 (A6L hb _) _
theorem A9R(s:ByteArray)(hs:s.size≤1048576):N8 s=some (K3 s):=by
  have hbl:=bytesOf_length s
  have hb:=A9Q s
  have hh:(bytesOf s).length≤1048576:=by omega
  have hsz:s.size=(bytesOf s).length:=hbl.symm
  simp only [K3,B6f,hsz]
  have hlen:decide ((bytesOf s).length≤9223372036854775807)=true:=A0 (by omega)
  simp only [N8,B9R,hsz,hlen,cond_true]
  clear hlen hsz
  generalize bytesOf s=b at hb hh ⊢
  clear hbl
  have g0:∀ (a:Int) (k:Nat) (k':Int),k' = (k:Int)→1≤k∧k≤7→A4w b a k' = some (A56 b a k):=fun a k k' e hk=>by rw [e];exact D6g b hb hh a k hk
  have q0:=g0 0 3 3 rfl (by omega)
  have q3:=g0 3 2 2 rfl (by omega)
  have q5:=g0 5 1 1 rfl (by omega)
  have q6:=g0 6 1 1 rfl (by omega)
  simp only [q0,q3,q5,q6]
  by_cases c1:7≤b.length
  · have e0:=A58 b 0 3 (by omega)
    have e3:=A58 b 3 2 (by omega)
    have e5:=A58 b 5 1 (by omega)
    have e6:=A58 b 6 1 (by omega)
    simp only [Int.cast_ofNat_Int] at e0 e3 e5 e6
    have hn:=C6d hb 6
    have hN:(U4 b 6 1:Int)=((D8 b:Nat):Int):=rfl
    have hn':D8 b<256:=hn
    simp only [e0,e3,e5,e6,A3,Bool.not_true,cond_false,hN]
    rw [w64 (n:=7+(D8 b:Int)) (by omega) (by omega),w64 (n:=11+(D8 b:Int)) (by omega) (by omega),w64 (n:=12+(D8 b:Int)) (by omega) (by omega)]
    by_cases c2:7+D8 b≤b.length
    · rw [A4 (show ¬ 7+(D8 b:Int)>(b.length:Int) by omega)]
      simp only [cond_false,C3]
      rw [A0 (show 7≤7+(D8 b:Int) by omega),A0 (show 7+(D8 b:Int)≤(b.length:Int) by omega)]
      simp only [cond_true]
      have q7:=g0 (7+(D8 b:Int)) 4 4 rfl (by omega)
      have q11:=g0 (11+(D8 b:Int)) 1 1 rfl (by omega)
      simp only [q7,q11]
      by_cases c3:12+D8 b≤b.length
      · have e7:=A58 b (7+D8 b) 4 (by omega)
        have e11:=A58 b (11+D8 b) 1 (by omega)
        simp only [Int.natCast_add,Int.cast_ofNat_Int] at e7 e11
        have hm:O0 b<256:=C6d hb _
        have hM:(U4 b (11+D8 b) 1:Int)=((O0 b:Nat):Int):=rfl
        simp only [e7,e11,Bool.not_true,cond_false,hM]
        rw [w64 (n:=12+(D8 b:Int)+(O0 b:Int)) (by omega) (by omega)]
        by_cases c4:12+D8 b+O0 b≤b.length
        · rw [A4 (show ¬ 12+(D8 b:Int)+(O0 b:Int)>(b.length:Int) by omega),A0 (show 0≤12+(D8 b:Int) by omega),A0 (show 12+(D8 b:Int)≤12+(D8 b:Int)+(O0 b:Int) by omega),A0 (show 12+(D8 b:Int)+(O0 b:Int)≤(b.length:Int) by omega)]
          simp only [cond_true,cond_false]
          rw [A0 (by simp;omega),A0 (by simp;omega)]
          have t1:(7+(D8 b:Int)).toNat=7+D8 b:=by omega
          have t2:(12+(D8 b:Int)+(O0 b:Int)).toNat=12+D8 b+O0 b:=by omega
          have t3:(12+(D8 b:Int)).toNat=12+D8 b:=by omega
          simp only [cond_true,List.nil_append,t1,t2,t3]
          have hr:(((U4 b 0 3:Nat):Int),((U4 b 3 2:Nat):Int),((U4 b 5 1:Nat):Int),strOf ((b.take (7+D8 b)).drop 7),((U4 b (7+D8 b) 4:Nat):Int),(b.take (12+D8 b+O0 b)).drop (12+D8 b))=recAt b:=rfl
          obtain ⟨l1,l2⟩:=D30 b c4
          rw [hr,E0N _ (by rw [l1];simp only [maxLen];omega),C3b _ (by rw [l1];omega) (by rw [l2];omega) (C2R hb)]
          rw [A0 c4]
          simp only [Bool.true_and]
          cases O8 (recAt b)
          · rfl
          · cases hp:((U8 (recAt b)).toList == s.toList)
            · rfl
            · rfl
        · rw [A0 (show 12+(D8 b:Int)+(O0 b:Int)>(b.length:Int) by omega),A4 c4]
          rfl
      · have e11:=C2Q b (11+D8 b) 1 (by omega)
        simp only [Int.natCast_add,Int.cast_ofNat_Int] at e11
        simp only [e11]
        rw [A4 (show ¬ 12+D8 b+O0 b≤b.length by omega)]
        cases (A56 b (7+(D8 b:Int)) 4).2.1<;>rfl
    · rw [A0 (show 7+(D8 b:Int)>(b.length:Int) by omega),A4 (show ¬ 12+D8 b+O0 b≤b.length by omega)]
      rfl
  · have e6:=C2Q b 6 1 (by omega)
    simp only [Int.cast_ofNat_Int] at e6
    rw [A4 (show ¬ 12+D8 b+O0 b≤b.length by omega)]
    simp only [e6,A3]
    cases (A56 b 0 3).2.1<;>cases (A56 b 3 2).2.1<;>cases (A56 b 5 1).2.1<;>rfl
theorem A0M{b:List Int}(hb:Byt b)(hh:b.length≤1048576)(a k:Nat)(k':Int)(e:k' = (k:Int))(hk:1≤k∧k≤7)(h:a+k≤b.length):D7 (b,(a:Int),false) k' = some ((U4 b a k:Int),(b,((a+k:Nat):Int),false),()):=by
  subst e
  simp only [D7,P3,B5F b hb hh _ k hk,A58 b a k h,A3,C3,Bool.not_true,cond_false]
  rw [w64 (by omega) (by omega)]
  rfl
theorem A7O{b:List Int}(hb:Byt b)(hh:b.length≤1048576)(a k:Nat)(k':Int)(e:k' = (k:Int))(hk:1≤k∧k≤7)(h:¬ a+k≤b.length):D7 (b,(a:Int),false) k' = some (0,(b,(a:Int),true),()):=by
  subst e
  simp only [D7,P3,B5F b hb hh _ k hk,C2Q b a k h,A3,C3,Bool.not_false,cond_false,cond_true]
theorem E8A{b:List Int}(hb:Byt b)(hh:b.length≤1048576)(a:Int)(k:Nat)(k':Int)(e:k' = (k:Int))(hk:1≤k∧k≤7):D7 (b,a,true) k' = some (0,(b,a,true),()):=by
  subst e
  simp only [D7,P3,B5F b hb hh _ k hk,A3,C3,cond_true]
theorem E6f(b:List Int)(a n:Int):G9 (b,a,true) n=some ([],(b,a,true),()):=by
  simp only [G9,R3,cond_true,C3]
theorem C2S{b:List Int}(hh:b.length≤1048576)(a n:Nat)(h:a+n≤b.length):G9 (b,(a:Int),false) (n:Int)=some ((b.take (a+n)).drop a,(b,((a+n:Nat):Int),false),()):=by
  simp only [G9,R3,cond_false]
  rw [w64 (n:=(b.length:Int)-(a:Int)) (by omega) (by omega),A4 (by omega),w64 (n:=(a:Int)+(n:Int)) (by omega) (by omega),w64 (n:=(a:Int)+(n:Int)-(n:Int)) (by omega) (by omega)]
  simp only [cond_false,C3]
  rw [A0 (by omega),A0 (by omega),A0 (by omega)]
  simp only [cond_true]
  rw [A2B _ (by simp;omega),show ((a:Int)+(n:Int)).toNat=a+n by omega,show ((a:Int)+(n:Int)-(n:Int)).toNat=a by omega]
  rfl
theorem C7g{b:List Int}(hh:b.length≤1048576)(a n:Nat)(ha:a≤b.length)(h:¬ a+n≤b.length):G9 (b,(a:Int),false) (n:Int)=some ([],(b,(a:Int),true),()):=by
  simp only [G9,R3,cond_false]
  rw [w64 (n:=(b.length:Int)-(a:Int)) (by omega) (by omega),A0 (by omega)]
  rfl
theorem B5H(s:ByteArray)(hs:s.size≤1048576):Z9 s=some (K3 s):=by
  have hbl:=bytesOf_length s
  have hb:=A9Q s
  have hh:(bytesOf s).length≤1048576:=by omega
  have hsz:s.size=(bytesOf s).length:=hbl.symm
  simp only [K3,B6f,hsz]
  have hlen:decide ((bytesOf s).length≤9223372036854775807)=true:=A0 (by omega)
  simp only [Z9,B94,hsz,hlen,cond_true]
  clear hlen hsz
  generalize bytesOf s=b at hb hh ⊢
  clear hbl
  have nb:∀ (a:Int) (k:Nat) (k':Int),k' = (k:Int)→1≤k∧k≤7→D7 (b,a,true) k' = some (0,(b,a,true),()):=fun a k k' e hk=>E8A hb hh a k k' e hk
  have nb1:∀ a:Int,D7 (b,a,true) 1=some (0,(b,a,true),()):=fun a=>nb a 1 1 rfl (by omega)
  have nb2:∀ a:Int,D7 (b,a,true) 2=some (0,(b,a,true),()):=fun a=>nb a 2 2 rfl (by omega)
  have nb4:∀ a:Int,D7 (b,a,true) 4=some (0,(b,a,true),()):=fun a=>nb a 4 4 rfl (by omega)
  have tb:=E6f b
  have z0:((0:Int),false)=(((0:Nat):Int),false):=rfl
  rw [z0]
  by_cases c4:12+D8 b+O0 b≤b.length
  · have hn':D8 b<256:=C6d hb _
    have hm':O0 b<256:=C6d hb _
    have hN:(U4 b 6 1:Int)=((D8 b:Nat):Int):=rfl
    have hM:(U4 b (11+D8 b) 1:Int)=((O0 b:Nat):Int):=rfl
    rw [A0M hb hh 0 3 3 rfl (by omega) (by omega)]
    simp only [A3]
    rw [A0M hb hh (0+3) 2 2 rfl (by omega) (by omega)]
    simp only
    rw [A0M hb hh (0+3+2) 1 1 rfl (by omega) (by omega)]
    simp only
    rw [A0M hb hh (0+3+2+1) 1 1 rfl (by omega) (by omega)]
    simp only [Nat.zero_add,Nat.reduceAdd,hN]
    rw [C2S hh 7 (D8 b) (by omega)]
    simp only
    rw [A0M hb hh (7+D8 b) 4 4 rfl (by omega) (by omega)]
    simp only
    rw [A0M hb hh (7+D8 b+4) 1 1 rfl (by omega) (by omega)]
    simp only
    rw [show 7+D8 b+4=11+D8 b by omega,hM,show 11+D8 b+1=12+D8 b by omega,C2S hh (12+D8 b) (O0 b) (by omega)]
    simp only [cond_false]
    have hr:(((U4 b 0 3:Nat):Int),((U4 b 3 2:Nat):Int),((U4 b 5 1:Nat):Int),strOf ((b.take (7+D8 b)).drop 7),((U4 b (7+D8 b) 4:Nat):Int),(b.take (12+D8 b+O0 b)).drop (12+D8 b))=recAt b:=rfl
    obtain ⟨l1,l2⟩:=D30 b c4
    rw [hr,C7e _ (by rw [l1];simp only [maxLen];omega),C3c _ (by rw [l1];simp only [maxLen];omega) (C2R hb)]
    rw [A0 c4]
    simp only [Bool.true_and]
    cases O8 (recAt b)
    · rfl
    · cases hp:((U8 (recAt b)).toList == s.toList)
      · simp [hp];rfl
      · simp [hp]
  · rw [A4 c4]
    have fin:(if (false&&O8 (recAt b)&&((U8 (recAt b)).toList == s.toList))=true then (recAt b,true,()) else E6e)=E6e:=by simp
    rw [fin]
    rcases Nat.lt_or_ge b.length (0+3) with d3 | d3
    · rw [A7O hb hh 0 3 3 rfl (by omega) (by omega)]
      simp only [A3,nb1,nb2,nb4,tb]
      rfl
    rw [A0M hb hh 0 3 3 rfl (by omega) d3]
    simp only [A3]
    rcases Nat.lt_or_ge b.length (0+3+2) with d5 | d5
    · rw [A7O hb hh (0+3) 2 2 rfl (by omega) (by omega)]
      simp only [nb1,nb2,nb4,tb]
      rfl
    rw [A0M hb hh (0+3) 2 2 rfl (by omega) d5]
    simp only
    rcases Nat.lt_or_ge b.length (0+3+2+1) with d6 | d6
    · rw [A7O hb hh (0+3+2) 1 1 rfl (by omega) (by omega)]
      simp only [nb1,nb2,nb4,tb]
      rfl
    rw [A0M hb hh (0+3+2) 1 1 rfl (by omega) d6]
    simp only
    rcases Nat.lt_or_ge b.length (0+3+2+1+1) with d7 | d7
    · rw [A7O hb hh (0+3+2+1) 1 1 rfl (by omega) (by omega)]
      simp only [nb1,nb2,nb4,tb]
      rfl
    rw [A0M hb hh (0+3+2+1) 1 1 rfl (by omega) d7]
    have hN:(U4 b 6 1:Int)=((D8 b:Nat):Int):=rfl
    have hM:(U4 b (11+D8 b) 1:Int)=((O0 b:Nat):Int):=rfl
    simp only [Nat.zero_add,Nat.reduceAdd,hN]
    rcases Nat.lt_or_ge b.length (7+D8 b) with e7 | e7
    · rw [C7g hh 7 (D8 b) (by omega) (by omega)]
      simp only [nb1,nb2,nb4,tb]
      rfl
    rw [C2S hh 7 (D8 b) e7]
    simp only
    rcases Nat.lt_or_ge b.length (7+D8 b+4) with e11 | e11
    · rw [A7O hb hh (7+D8 b) 4 4 rfl (by omega) (by omega)]
      simp only [nb1,nb2,nb4,tb]
      rfl
    rw [A0M hb hh (7+D8 b) 4 4 rfl (by omega) e11]
    simp only
    rcases Nat.lt_or_ge b.length (7+D8 b+4+1) with e12 | e12
    · rw [A7O hb hh (7+D8 b+4) 1 1 rfl (by omega) (by omega)]
      simp only [nb1,nb2,nb4,tb]
      rfl
    rw [A0M hb hh (7+D8 b+4) 1 1 rfl (by omega) e12]
    simp only
    rw [show 7+D8 b+4=11+D8 b by omega,hM,show 11+D8 b+1=12+D8 b by omega,C7g hh (12+D8 b) (O0 b) (by omega) c4]
    rfl
theorem A7P:∀ x:List UInt8,Op.bytesLess x x=false
  | []=>rfl
  | a::x=>by
    have h:¬ a<a:=UInt8.lt_irrefl a
    simp [Op.bytesLess,A7P x,h]
theorem C0O:∀ {x y z:List UInt8},Op.bytesLess x y=true→Op.bytesLess y z=true→Op.bytesLess x z=true
  | _,[],_,h,_=>by cases ‹List UInt8›<;>simp [Op.bytesLess] at h
  | _,_::_,[],_,h=>by simp [Op.bytesLess] at h
  | [],_::_,_::_,_,_=>rfl
  | a::x,b::y,c::z,h1,h2=>by
    simp only [Op.bytesLess,Bool.or_eq_true,Bool.and_eq_true,decide_eq_true_eq,beq_iff_eq] at h1 h2 ⊢
    rcases h1 with h1 | ⟨rfl,h1⟩
    · rcases h2 with h2 | ⟨rfl,h2⟩
      · exact .inl (UInt8.lt_trans h1 h2)
      · exact .inl h1
    · rcases h2 with h2 | ⟨rfl,h2⟩
      · exact .inl h2
      · exact .inr ⟨rfl,C0O h1 h2⟩
theorem D6i:∀ {x y:List UInt8},Op.bytesLess x y=false→Op.bytesLess y x=false→x=y
  | [],[],_,_=>rfl
  | [],_::_,h,_=>by simp [Op.bytesLess] at h
  | _::_,[],_,h=>by simp [Op.bytesLess] at h
  | a::x,b::y,h1,h2=>by
    simp only [Op.bytesLess,Bool.or_eq_false_iff,decide_eq_false_iff_not,Bool.and_eq_false_iff,beq_eq_false_iff_ne] at h1 h2
    have hab:a=b:=by
      apply UInt8.le_antisymm
      · exact UInt8.not_lt.1 h2.1
      · exact UInt8.not_lt.1 h1.1
    subst hab
    exact congrArg (a::·) (D6i (by simpa using h1.2) (by simpa using h2.2))
theorem E6g{x y:List UInt8}(h:Op.bytesLess x y=true):Op.bytesLess y x=false:=by
  cases e:Op.bytesLess y x with
  | false=>rfl
  | true=>have:=C0O h e;rw [A7P] at this;cases this
def Ord(us:List TUp):Prop:=us.Pairwise fun a b=>Op.bytesLess a.1.toList b.1.toList=true
theorem D4R{us:List TUp}(h:Ord us){i j:Nat}(hij:i<j)(hj:j<us.length):Op.bytesLess (us[i]'(by omega)).1.toList us[j].1.toList=true:=List.pairwise_iff_getElem.1 h i j (by omega) hj hij
def B5(us:List TUp)(id:ByteArray):Nat:=O7 (fun i=>Op.bytesLess (rd kUp us (i:Int)).1.toList id.toList) 0 us.length
def H6(us:List TUp)(id:ByteArray):Bool:=decide (B5 us id<us.length)&&((rd kUp us (B5 us id:Int)).1.toList == id.toList)
theorem A9S(go:Nat→Bool):∀ k i j,i≤j→j<O7 go i k→go j=true
  | 0,i,j,h1,h2=>by simp only [O7] at h2;omega
  | k+1,i,j,h1,h2=>by
    simp only [O7] at h2
    split at h2
    · rename_i hg
      by_cases e:j=i
      · rw [e];exact hg
      · exact A9S go k (i+1) j (by omega) h2
    · omega
theorem A9T(go:Nat→Bool)(n p:Nat)(hp:p≤n)(h1:∀ j,j<p→go j=true)(h2:p<n→go p=false):O7 go 0 n=p:=by
  have hl:=C2O go n 0
  rcases Nat.lt_trichotomy (O7 go 0 n) p with h | h | h
  · have:=B2q go n 0 (by omega)
    rw [h1 _ h] at this;cases this
  · exact h
  · have:=A9S go n 0 p (by omega) h
    rw [h2 (by omega)] at this;cases this
theorem A6N(us:List TUp)(id:ByteArray):B5 us id≤us.length:=by have:=C2O (fun i=>Op.bytesLess (rd kUp us (i:Int)).1.toList id.toList) us.length 0;unfold B5;omega
theorem B5I{us:List TUp}{id:ByteArray}{j:Nat}(hj:j<B5 us id):Op.bytesLess (us[j]'(by have:=A6N us id;omega)).1.toList id.toList=true:=by
  have:=A9S _ us.length 0 j (by omega) hj
  rwa [D0 (k:=kUp) (xs:=us) (by have:=A6N us id;omega)] at this
theorem C0P{us:List TUp}{id:ByteArray}(h:B5 us id<us.length):Op.bytesLess us[B5 us id].1.toList id.toList=false:=by
  have:=B2q (fun i=>Op.bytesLess (rd kUp us (i:Int)).1.toList id.toList) us.length 0 (by unfold B5 at h;omega)
  have h2:Op.bytesLess (rd kUp us (B5 us id:Int)).1.toList id.toList=false:=this
  rwa [D0 (k:=kUp) (xs:=us) h] at h2
theorem E6h{us:List TUp}(ho:Ord us){id:ByteArray}{j:Nat}(hj:B5 us id≤j)(hl:j<us.length):Op.bytesLess us[j].1.toList id.toList=false:=by
  rcases Nat.eq_or_lt_of_le hj with e | h
  · subst e;exact C0P hl
  · cases e:Op.bytesLess us[j].1.toList id.toList with
    | false=>rfl
    | true=>
      have:=C0O (D4R ho h hl) e
      rw [C0P (by omega)] at this
      cases this
theorem K6{us:List TUp}{id:ByteArray}:H6 us id=true↔∃ h:B5 us id<us.length,us[B5 us id].1.toList=id.toList:=by
  unfold H6
  constructor
  · intro h
    simp only [Bool.and_eq_true,decide_eq_true_eq,beq_iff_eq] at h
    refine ⟨h.1,?_⟩
    have h2:=h.2
    rwa [D0 (k:=kUp) (xs:=us) h.1] at h2
  · rintro ⟨h,e⟩
    simp only [Bool.and_eq_true,decide_eq_true_eq,beq_iff_eq]
    refine ⟨h,?_⟩
    rw [D0 (k:=kUp) (xs:=us) h]
    exact e
theorem C0Q{us:List TUp}(ho:Ord us){id:ByteArray}(hn:H6 us id=false){j:Nat}(hj:B5 us id≤j)(hl:j<us.length):Op.bytesLess id.toList us[j].1.toList=true:=by
  cases e:Op.bytesLess id.toList us[j].1.toList with
  | true=>rfl
  | false=>
    have h1:=D6i (E6h ho hj hl) e
    exfalso
    rcases Nat.eq_or_lt_of_le hj with e2 | h
    · subst e2
      have:=K6.2 ⟨hl,h1⟩
      rw [hn] at this;cases this
    · have h2:=D4R ho h hl
      rw [h1,C0P (by omega)] at h2
      cases h2
theorem C7h{us:List TUp}(ho:Ord us){id:ByteArray}(h:H6 us id=true):E47 us id=B5 us id:=by
  obtain ⟨hl,e⟩:=K6.1 h
  refine A9T _ us.length _ (A6N us id) (fun j hj=>?_) (fun _=>?_)
  · rw [D0 (k:=kUp) (xs:=us) (by omega)]
    have h1:=B5I hj
    cases e2:((us[j]'(by omega)).1.toList == id.toList) with
    | false=>rfl
    | true=>
      rw [eq_of_beq e2,A7P] at h1
      cases h1
  · rw [D0 (k:=kUp) (xs:=us) hl,e]
    simp
theorem C7i{us:List TUp}(ho:Ord us){id:ByteArray}(h:H6 us id=false):E47 us id=us.length:=by
  refine A9T _ us.length _ (Nat.le_refl _) (fun j hj=>?_) (fun h=>by omega)
  rw [D0 (k:=kUp) (xs:=us) hj]
  cases e2:(us[j].1.toList == id.toList) with
  | false=>rfl
  | true=>
    exfalso
    have e3:=eq_of_beq e2
    by_cases hp:j<B5 us id
    · have h1:=B5I hp
      rw [e3,A7P] at h1
      cases h1
    · have h1:=C0Q ho h (show B5 us id≤j by omega) hj
      rw [e3,A7P] at h1
      cases h1
theorem D31(us:List TUp)(id:ByteArray)(h:us.length≤maxLen):A12 us id=some ((B5 us id:Int),H6 us id,()):=by
  simp only [A12,C0C]
  have e:=A3N (A7e us id) (fun i=>((i:Int),())) us.length (fun i=>((i:Int),())) (fun i=>Op.bytesLess (rd kUp us (i:Int)).1.toList id.toList) (fun i hi=>?_) ?_
  · have e':B7 (A7e us id) (0,())=some ((B5 us id:Int),()):=e
    rw [e']
    simp only [A3]
    have hle:=A6N us id
    unfold H6
    by_cases hl:B5 us id<us.length
    · rw [A0 (show (B5 us id:Int)<(us.length:Int) by omega),A0 (show (0:Int)≤(B5 us id:Int) by omega),A0 hl]
      simp
    · rw [A4 (show ¬ (B5 us id:Int)<(us.length:Int) by omega),A4 hl]
      simp
  · have h1:((i:Int)<(us.length:Int)):=by omega
    have h2:(0:Int)≤(i:Int):=by omega
    simp only [A7e,A0 h1,A0 h2,cond_true]
    rw [w64 (by omega) (by simp only [maxLen] at h;omega)]
    cases Op.bytesLess (rd kUp us (i:Int)).1.toList id.toList<;>simp
  · simp [A7e]
theorem B9Y(us:List TUp)(h:us.length≤1048576)(hd:∀ u∈us,List.length u.2.2.1≤2000000000):K2 us=some (us,()):=by
  simp only [K2,A48]
  have key:=E5 (A1k us) (fun i=>((i:Int),us.take i,())) us.length (us,()) (fun i hi=>?_) ?_
  · simpa using key
  · have h1:((i:Int)<(us.length:Int)):=by omega
    have h2:(0:Int)≤(i:Int):=by omega
    have hu:List.length (rd kUp us (i:Int)).2.2.1≤2000000000:=by
      rw [D0 (k:=kUp) (xs:=us) hi]
      exact hd _ (List.getElem_mem hi)
    have e:((rd kUp us (i:Int)).1,(rd kUp us (i:Int)).2.1,[]++(rd kUp us (i:Int)).2.2.1,(rd kUp us (i:Int)).2.2.2)=us[i]:=by
      rw [D0 (k:=kUp) (xs:=us) hi]
      rfl
    simp only [A1k,A0 h1,A0 h2,cond_true,e]
    rw [A0 (by simp;omega),A0 (by simp;omega),A0 (by simp;omega),A0 (by simp;omega),w64 (by omega) (by omega)]
    simp only [cond_true]
    rw [List.take_succ_eq_append_getElem hi]
    rfl
  · simp [A1k]
theorem E0O(us:List TUp)(u:TUp)(ho:Ord us)(h:us.length≤1048576)(hd:∀ u∈us,List.length u.2.2.1≤2000000000) :
    ∃ k,k≤us.length∧M8 us u=some (us.take k++u::us.drop k,())∧(H6 us u.1=false→k=B5 us u.1):=by
  simp only [M8,Y1,B9Y us h hd,A3]
  rw [A0 (by simp;omega),A0 (by simp;omega)]
  simp only [cond_true]
  have hst:IntKind.i64.wrap (((us ++ [u]).length:Int)-1)=(us.length:Int):=by
    rw [w64 (by simp only [List.length_append,List.length_singleton];omega) (by simp only [List.length_append,List.length_singleton];omega)]
    simp
  rw [hst]
  obtain ⟨z,e,k,hz1,hz2,hz3⟩:=A3M (U7 u) (fun l=>l.1.toNat)
    (fun l=>∃ (k:Nat) (c:TUp),l.1=(k:Int)∧k≤us.length∧l.2.1=us.take k++c::us.drop k∧(H6 us u.1=false→B5 us u.1≤k))
    (fun z=>∃ k:Nat,k≤us.length∧(H6 us u.1=false→k=B5 us u.1)∧∃ c,z=((k:Int),us.take k++c::us.drop k,())) (fun l hl=>by
      obtain ⟨l1,l2,l3⟩:=l
      obtain ⟨k,c,h1,h2,h3,h4⟩:=hl
      simp only at h1 h3
      subst h1;subst h3
      simp only [U7]
      by_cases hk:k=0
      · subst hk
        refine .inr ⟨_,by rw [A4 (by omega)];rfl,0,by omega,fun q=>?_,c,rfl⟩
        have:=h4 q;omega
      · obtain ⟨k,rfl⟩:∃ k',k=k'+1:=⟨k-1,by omega⟩
        have hlen:(us.take (k+1)++c::us.drop (k+1)).length=us.length+1:=by simp;omega
        have ew:IntKind.i64.wrap (((k+1:Nat):Int)-1)=(k:Int):=by rw [w64 (by omega) (by omega)];omega
        have hget:rd (.pair .str (.pair (.int .i64) (.pair (.rs 5 (.int .u8)) .bool))) (us.take (k+1)++c::us.drop (k+1)) (k:Int)=us[k]'(by omega):=by
          rw [D0 (k:=.pair .str (.pair (.int .i64) (.pair (.rs 5 (.int .u8)) .bool))) (xs:=us.take (k+1)++c::us.drop (k+1)) (by rw [hlen];omega)]
          rw [List.getElem_append_left (by simp;omega),List.getElem_take]
        rw [A0 (show ((k+1:Nat):Int)>0 by omega),ew,hlen,A0 (show (0:Int)≤(k:Int) by omega),A0 (show (k:Int)<((us.length+1:Nat):Int) by omega),hget]
        simp only [cond_true]
        have hlen2:(k:Int)+1=((k+1:Nat):Int):=by omega
        cases hc:(!(Op.bytesLess (us[k]'(by omega)).1.toList u.1.toList||((us[k]'(by omega)).1.toList == u.1.toList))) with
        | false=>
          refine Or.inr ⟨(((k+1:Nat):Int),us.take (k+1)++c::us.drop (k+1),()),rfl,k+1,h2,fun q=>?_,c,rfl⟩
          have h5:=h4 q
          by_cases hkp:B5 us u.1≤k
          · have h6:=C0Q ho q hkp (by omega)
            simp only [Bool.not_eq_false',Bool.or_eq_true,beq_iff_eq] at hc
            rcases hc with hc | hc
            · rw [E6g h6] at hc;cases hc
            · rw [hc,A7P] at h6;cases h6
          · omega
        | true=>
          refine Or.inl ⟨((k:Int),us.take k++(us[k]'(by omega))::us.drop k,()),?_,⟨k,us[k]'(by omega),rfl,by omega,rfl,fun q=>?_⟩,by simp only;omega⟩
          · simp only [cond_true,C3]
            rw [A0 (show (0:Int)≤((k+1:Nat):Int) by omega),A0 (show ((k+1:Nat):Int)<((us.length+1:Nat):Int) by omega)]
            simp only [cond_true,A3,Int.toNat_natCast]
            have e1:(us.take (k+1)++c::us.drop (k+1)).set (k+1) (us[k]'(by omega))=us.take k++(us[k]'(by omega))::us.drop k:=by
              rw [List.set_append_right _ _ (by simp;omega)]
              rw [show (us.take (k+1)).length=k+1 by simp;omega,Nat.sub_self,List.set_cons_zero,List.take_succ_eq_append_getElem (by omega),List.append_assoc,List.drop_eq_getElem_cons (i:=k) (by omega)]
              rfl
            rw [e1]
          · have h5:=h4 q
            by_cases hkp:k<B5 us u.1
            · have h6:=B5I hkp
              rw [h6] at hc
              simp at hc
            · omega) ((us.length:Int),us ++ [u],()) ⟨us.length,u,rfl,Nat.le_refl _,by simp,fun _=>A6N us u.1⟩
  obtain ⟨c,rfl⟩:=hz3
  rw [e]
  simp only
  have hlen:(us.take k++c::us.drop k).length=us.length+1:=by simp;omega
  rw [A0 (by omega),A0 (by rw [hlen];omega)]
  simp only [cond_true,Int.toNat_natCast]
  refine ⟨k,hz1,?_,hz2⟩
  rw [List.set_append_right _ _ (by simp;omega),show (us.take k).length=k by simp;omega,Nat.sub_self,List.set_cons_zero]
def B9Z(r:H1):Prop:=O8 r=true∧Byt r.2.2.2.2.2
def UpG(u:TUp):Prop:=(List.length u.2.2.1:Int)≤u.2.1∧u.2.1≤1000000000∧u.1.size≤8∧Byt u.2.2.1
def Ups(us:List TUp):Prop:=Ord us∧us.length≤10∧∀ u∈us,UpG u
theorem C6e:Ups []:=⟨List.Pairwise.nil,by simp,fun u hu=>by cases hu⟩
theorem B2s{us:List TUp}(h:Ups us):∀ u∈us,List.length u.2.2.1≤2000000000:=fun u hu=>by have h1:=(h.2.2 u hu).1;have h2:=(h.2.2 u hu).2.1;omega
def N1(us:List TUp)(r:H1):Option (List TUp):=
  let p:=B5 us r.2.2.2.1
  let u:=rd kUp us (p:Int)
  if r.2.2.1=1 then (if H6 us r.2.2.2.1=true∨10≤us.length then none else some (us.take p++(r.2.2.2.1,r.2.2.2.2.1,[],false)::us.drop p))
  else if H6 us r.2.2.2.1=false then none
  else if r.2.2.1=2 then (if u.2.2.2=true∨r.2.2.2.2.1≠(List.length u.2.2.1:Int)∨(List.length u.2.2.1:Int)+(List.length r.2.2.2.2.2:Int)>u.2.1 then none else some (us.set p (u.1,u.2.1,u.2.2.1++r.2.2.2.2.2,u.2.2.2)))
  else if r.2.2.1=3 then (if u.2.2.2=true∨(List.length u.2.2.1:Int)≠u.2.1 then none else some (us.set p (u.1,u.2.1,u.2.2.1,true)))
  else if r.2.2.1=4 then some (us.take p++us.drop (p+1))
  else none
def B3H(us:List TUp)(r:H1):List TUp×Bool×Unit:=match N1 us r with
  | some us'=>(us',true,())
  | none=>([],false,())
theorem D32(us:List TUp)(r:H1)(h:Ups us)(h2:List.length r.2.2.2.2.2≤1048576):A5z us r=some (B3H us r):=by
  have hl:=h.2.1
  have hp:=A6N us r.2.2.2.1
  simp only [A5z,C7M,D31 us _ (show us.length≤maxLen by simp only [maxLen];omega),A3,B3H,N1]
  by_cases k1:r.2.2.1=1
  · rw [A0 k1,if_pos k1]
    simp only [cond_true]
    cases hh:H6 us r.2.2.2.1 with
    | true=>simp [C3]
    | false=>
      by_cases h10:10≤us.length
      · rw [A0 (show (us.length:Int)≥10 by omega),if_pos (.inr h10)]
        rfl
      · rw [A4 (show ¬ (us.length:Int)≥10 by omega),if_neg (by simp;omega)]
        simp only [cond_false,C3,J5,E2y]
        rw [A0 (by omega),A0 (by omega),A0 (by simp),A0 (by simp;omega)]
        simp [A3]
  rw [A4 k1,if_neg k1]
  simp only [cond_false]
  cases hh:H6 us r.2.2.2.1 with
  | false=>simp
  | true=>
    obtain ⟨hlt,hid⟩:=K6.1 hh
    have hu:(List.length us[B5 us r.2.2.2.1].2.2.1:Int)≤us[B5 us r.2.2.2.1].2.1∧us[B5 us r.2.2.2.1].2.1≤1000000000:=⟨(h.2.2 _ (List.getElem_mem hlt)).1,(h.2.2 _ (List.getElem_mem hlt)).2.1⟩
    have hrd:rd kUp us (B5 us r.2.2.2.1:Int)=us[B5 us r.2.2.2.1]:=D0 (k:=kUp) (xs:=us) hlt
    simp only [Bool.not_true,cond_false,Bool.true_eq_false,if_false]
    rw [A0 (by omega),A0 (by omega)]
    simp only [cond_true,Int.toNat_natCast,hrd]
    generalize us[B5 us r.2.2.2.1]=u at hu hid ⊢
    by_cases k2:r.2.2.1=2
    · rw [A0 k2,if_pos k2]
      simp only [cond_true]
      cases hd:u.2.2.2 with
      | true=>simp [C3]
      | false=>
        by_cases hn:r.2.2.2.2.1=(List.length u.2.2.1:Int)
        · rw [A0 hn,w64 (by omega) (by omega)]
          by_cases hw:(List.length u.2.2.1:Int)+(List.length r.2.2.2.2.2:Int)>u.2.1
          · rw [A0 hw,if_pos (.inr (.inr hw))]
            rfl
          · rw [A4 hw,if_neg (by simp [hn];omega)]
            simp only [Bool.not_true,cond_false,C3]
            rw [A0 (by omega),A0 (by omega)]
            rfl
        · rw [A4 hn,if_pos (.inr (.inl hn))]
          rfl
    rw [A4 k2,if_neg k2]
    by_cases k3:r.2.2.1=3
    · rw [A0 k3,if_pos k3]
      simp only [cond_true,cond_false]
      cases hd:u.2.2.2 with
      | true=>simp
      | false=>
        by_cases hn:(List.length u.2.2.1:Int)=u.2.1
        · rw [A0 hn,if_neg (by simp [hn])]
          rfl
        · rw [A4 hn,if_pos (.inr hn)]
          rfl
    rw [A4 k3,if_neg k3]
    by_cases k4:r.2.2.1=4
    · rw [A0 k4,if_pos k4,w64 (n:=(B5 us r.2.2.2.1:Int)+1) (by omega) (by omega)]
      simp only [cond_true,cond_false,J7,B3D]
      rw [A0 (by omega),A0 (by omega),A0 (by omega)]
      simp only [cond_true,Int.toNat_natCast]
      rw [show ((B5 us r.2.2.2.1:Int)+1).toNat=B5 us r.2.2.2.1+1 by omega]
    rw [A4 k4,if_neg k4]
    rfl
theorem D6j(us:List TUp)(r:H1)(h:Ups us)(h2:List.length r.2.2.2.2.2≤1048576):∃ x,M9 us r=some (x,(B3H us r).2.1,())∧((B3H us r).2.1=true→x=(B3H us r).1):=by
  have hl:=h.2.1
  have hp:=A6N us r.2.2.2.1
  have hat:=D6d us r.2.2.2.1 (show us.length≤maxLen by simp only [maxLen];omega)
  have hcp:=B9Y us (by omega) (B2s h)
  obtain ⟨k,hk,hmk,hmk2⟩:=E0O us (r.2.2.2.1,r.2.2.2.2.1,[],false) h.1 (by omega) (B2s h)
  simp only [M9,A4y,hat,hcp,hmk,A3,B3H,N1]
  by_cases k1:r.2.2.1=1
  · rw [A0 k1,if_pos k1]
    simp only [cond_true]
    cases hh:H6 us r.2.2.2.1 with
    | true=>
      obtain ⟨hlt,hid⟩:=K6.1 hh
      rw [C7h h.1 hh,if_pos hlt,A4 (by omega)]
      simp
    | false=>
      have hk2:=hmk2 hh
      simp only at hk2
      rw [C7i h.1 hh,if_neg (Nat.lt_irrefl _),A0 (by omega)]
      simp only [cond_true]
      by_cases h10:10≤us.length
      · rw [A4 (by omega),if_pos (.inr h10)]
        simp
      · rw [A0 (by omega),if_neg (by simp;omega),hk2]
        simp
  rw [A4 k1,if_neg k1]
  simp only [cond_false]
  cases hh:H6 us r.2.2.2.1 with
  | false=>
    rw [C7i h.1 hh,if_neg (Nat.lt_irrefl _),A0 (by omega)]
    simp
  | true=>
    obtain ⟨hlt,hid⟩:=K6.1 hh
    have hu:(List.length us[B5 us r.2.2.2.1].2.2.1:Int)≤us[B5 us r.2.2.2.1].2.1∧us[B5 us r.2.2.2.1].2.1≤1000000000:=⟨(h.2.2 _ (List.getElem_mem hlt)).1,(h.2.2 _ (List.getElem_mem hlt)).2.1⟩
    have hrd:rd kUp us (B5 us r.2.2.2.1:Int)=us[B5 us r.2.2.2.1]:=D0 (k:=kUp) (xs:=us) hlt
    rw [C7h h.1 hh,if_pos hlt,A4 (by omega)]
    simp only [cond_false,Bool.true_eq_false,if_false]
    rw [A0 (by omega),A0 (by omega)]
    simp only [cond_true,Int.toNat_natCast,hrd]
    generalize us[B5 us r.2.2.2.1]=u at hu hid ⊢
    by_cases k2:r.2.2.1=2
    · rw [A0 k2,if_pos k2]
      simp only [cond_true]
      cases hd:u.2.2.2 with
      | true=>simp [C3]
      | false=>
        by_cases hn:r.2.2.2.2.1=(List.length u.2.2.1:Int)
        · rw [A0 hn,hn,w64 (by omega) (by omega)]
          by_cases hw:(List.length u.2.2.1:Int)+(List.length r.2.2.2.2.2:Int)>u.2.1
          · rw [A0 hw,if_pos (.inr (.inr hw))]
            exact ⟨_,rfl,fun e=>by cases e⟩
          · rw [A4 hw,if_neg (by simp;omega)]
            simp only [Bool.not_true,cond_false,C3]
            rw [A0 (by omega),A0 (by omega)]
            exact ⟨_,rfl,fun _=>rfl⟩
        · rw [A4 hn,if_pos (.inr (.inl hn))]
          exact ⟨_,rfl,fun e=>by cases e⟩
    rw [A4 k2,if_neg k2]
    by_cases k3:r.2.2.1=3
    · rw [A0 k3,if_pos k3]
      simp only [cond_true,cond_false]
      cases hd:u.2.2.2 with
      | true=>simp
      | false=>
        by_cases hn:(List.length u.2.2.1:Int)=u.2.1
        · rw [A0 hn,if_neg (by simp [hn])]
          exact ⟨_,rfl,fun _=>rfl⟩
        · rw [A4 hn,if_pos (.inr hn)]
          exact ⟨_,rfl,fun e=>by cases e⟩
    rw [A4 k3,if_neg k3]
    by_cases k4:r.2.2.1=4
    · rw [A0 k4,if_pos k4,w64 (n:=(B5 us r.2.2.2.1:Int)+1) (by omega) (by omega)]
      simp only [cond_true,cond_false]
      rw [A0 (by omega),A0 (by omega),A0 (by omega),A0 (by omega)]
      simp only [cond_true]
      rw [show ((B5 us r.2.2.2.1:Int)+1).toNat=B5 us r.2.2.2.1+1 by omega,A0 (by omega)]
      simp only [cond_true,List.take_length]
      exact ⟨_,rfl,fun _=>rfl⟩
    rw [A4 k4,if_neg k4]
    exact ⟨_,rfl,fun e=>by cases e⟩
theorem E32{us:List TUp}(h:Ord us)(p:Nat)(hp:p<us.length)(u:TUp)(hu:u.1=us[p].1):Ord (us.set p u):=by
  refine List.pairwise_iff_getElem.2 fun i j hi hj hij=>?_
  simp only [List.length_set] at hi hj
  have hk:∀ q (hq:q<us.length),((us.set p u)[q]'(by simpa using hq)).1=us[q].1:=fun q hq=>by
    rw [List.getElem_set]
    split
    · rename_i e;subst e;exact hu
    · rfl
  rw [hk i hi,hk j hj]
  exact D4R h hij hj
theorem B5J{us us':List TUp}{r:H1}(h:Ups us)(hr':B9Z r)(e:N1 us r=some us'):Ups us':=by
  have hr:=hr'.1
  have hp:=A6N us r.2.2.2.1
  have hb:=A0a hr
  simp only [N1] at e
  split at e
  · split at e
    · cases e
    rename_i hc
    injection e with e
    subst e
    have hnh:H6 us r.2.2.2.1=false:=by cases q:H6 us r.2.2.2.1;rfl;exact absurd (.inl q) hc
    refine ⟨?_,by simp;omega,fun u hu=>?_⟩
    · show List.Pairwise _ _
      rw [List.pairwise_append]
      refine ⟨h.1.sublist (List.take_sublist _ _),List.pairwise_cons.2 ⟨fun b hb=>?_,h.1.sublist (List.drop_sublist _ _)⟩,fun a ha b hb=>?_⟩
      · obtain ⟨j,hj,rfl⟩:=List.getElem_of_mem hb
        rw [List.getElem_drop]
        exact C0Q h.1 hnh (by omega) _
      · obtain ⟨j,hj,rfl⟩:=List.getElem_of_mem ha
        rw [List.length_take] at hj
        rw [List.getElem_take]
        have h1:=B5I (us:=us) (id:=r.2.2.2.1) (j:=j) (by omega)
        rcases List.mem_cons.1 hb with rfl | hb
        · exact h1
        · obtain ⟨q,hq,rfl⟩:=List.getElem_of_mem hb
          rw [List.getElem_drop]
          rw [List.length_drop] at hq
          exact C0O h1 (C0Q h.1 hnh (by omega) (by omega))
    · rcases List.mem_append.1 hu with hu | hu
      · exact h.2.2 u (List.mem_of_mem_take hu)
      · rcases List.mem_cons.1 hu with rfl | hu
        · exact ⟨by simp only [List.length_nil];omega,by simp only;omega,hb.2.2.2.2.1,A1o⟩
        · exact h.2.2 u (List.mem_of_mem_drop hu)
  split at e
  · cases e
  rename_i _ hh
  have hh:H6 us r.2.2.2.1=true:=by cases q:H6 us r.2.2.2.1;exact absurd q hh;rfl
  obtain ⟨hlt,hid⟩:=K6.1 hh
  have hrd:rd kUp us (B5 us r.2.2.2.1:Int)=us[B5 us r.2.2.2.1]:=D0 (k:=kUp) (xs:=us) hlt
  have hu0:=h.2.2 _ (List.getElem_mem hlt)
  simp only [hrd] at e
  split at e
  · split at e
    · cases e
    rename_i hc
    injection e with e
    subst e
    refine ⟨E32 h.1 _ hlt _ rfl,by simp;exact h.2.1,fun u hu=>?_⟩
    rcases List.mem_or_eq_of_mem_set hu with hu | rfl
    · exact h.2.2 u hu
    · refine ⟨?_,hu0.2.1,hu0.2.2.1,D4P hu0.2.2.2 hr'.2⟩
      simp only [List.length_append]
      have:¬ ((List.length us[B5 us r.2.2.2.1].2.2.1:Int)+(List.length r.2.2.2.2.2:Int)>us[B5 us r.2.2.2.1].2.1):=fun q=>hc (.inr (.inr q))
      omega
  split at e
  · split at e
    · cases e
    injection e with e
    subst e
    refine ⟨E32 h.1 _ hlt _ rfl,by simp;exact h.2.1,fun u hu=>?_⟩
    rcases List.mem_or_eq_of_mem_set hu with hu | rfl
    · exact h.2.2 u hu
    · exact hu0
  split at e
  · injection e with e
    subst e
    refine ⟨?_,by have:=h.2.1;simp only [List.length_append,List.length_take,List.length_drop];omega,fun u hu=>?_⟩
    · show List.Pairwise _ _
      rw [List.pairwise_append]
      refine ⟨h.1.sublist (List.take_sublist _ _),h.1.sublist (List.drop_sublist _ _),fun a ha b hb=>?_⟩
      obtain ⟨j,hj,rfl⟩:=List.getElem_of_mem ha
      obtain ⟨q,hq,rfl⟩:=List.getElem_of_mem hb
      rw [List.length_take] at hj
      rw [List.length_drop] at hq
      rw [List.getElem_take,List.getElem_drop]
      exact D4R h.1 (by omega) (by omega)
    · rcases List.mem_append.1 hu with hu | hu
      · exact h.2.2 u (List.mem_of_mem_take hu)
      · exact h.2.2 u (List.mem_of_mem_drop hu)
  · cases e
def X7:List TUp→List H1→Option (List TUp)
  | us,[]=>some us
  | us,r::l=>match N1 us r with
    | some us'=>X7 us' l
    | none=>none
def A6O(l:List H1):List TUp×Bool×Unit:=match X7 [] l with
  | some us=>(us,true,())
  | none=>([],false,())
theorem A9U:∀ {l:List H1} {us us':List TUp},Ups us→(∀ r∈l,B9Z r)→X7 us l=some us'→Ups us'
  | [],us,us',h,_,e=>by simp only [X7,Option.some.injEq] at e;subst e;exact h
  | r::l,us,us',h,hr,e=>by
    simp only [X7] at e
    split at e
    · rename_i us1 e1
      exact A9U (B5J h (hr r (by simp)) e1) (fun x hx=>hr x (by simp [hx])) e
    · cases e
theorem D33{α:Type}(f:α→Option (α⊕((List TUp×Unit)⊕(List TUp×Bool×Unit))))(s:Nat→List TUp→α)(l:List H1)(hr:∀ r∈l,B9Z r)
    (hs:∀ (i:Nat) (hi:i<l.length) (us:List TUp),Ups us→f (s i us)=match N1 us l[i] with
      | some us'=>some (.inl (s (i+1) us'))
      | none=>some (.inr (.inr ([],false,()))))
    (he:∀ us,f (s l.length us)=some (.inr (.inl (us,())))):C3 (B7 f (s 0 [])) (fun m=>some (m.1,true,()))=some (A6O l):=by
  have key:∀ k i us,i+k=l.length→Ups us→C3 (B7 f (s i us)) (fun m=>some (m.1,true,()))=some (match X7 us (l.drop i) with
      | some us'=>(us',true,())
      | none=>([],false,())):=by
    intro k
    induction k with
    | zero=>
      intro i us hi hu
      obtain rfl:i=l.length:=by omega
      rw [I0,he]
      simp [X7,C3]
    | succ k ih=>
      intro i us hi hu
      have hlt:i<l.length:=by omega
      rw [I0,hs i hlt us hu,List.drop_eq_getElem_cons hlt]
      simp only [X7]
      cases e:N1 us l[i] with
      | none=>rfl
      | some us'=>exact ih (i+1) us' (by omega) (B5J hu (hr _ (List.getElem_mem hlt)) e)
  exact key l.length 0 [] (by omega) C6e
theorem D0k(l:List H1)(hl:l.length≤maxLen)(hr:∀ r∈l,B9Z r):A01 l=some (A6O l):=by
  simp only [A01,B28]
  refine D33 (A3j A5z l) (fun i us=>((i:Int),us,())) l hr (fun i hi us hu=>?_) (fun us=>by simp [A3j])
  have h1:((i:Int)<(l.length:Int)):=by omega
  have h2:(0:Int)≤(i:Int):=by omega
  have hb:=A0a (hr _ (List.getElem_mem hi)).1
  simp only [A3j,A0 h1,A0 h2,cond_true]
  rw [D0 (k:=A6y) (xs:=l) hi,D32 us _ hu (by omega),w64 (by omega) (by simp only [maxLen] at hl;omega)]
  simp only [A3,B3H]
  cases N1 us l[i]<;>rfl
theorem B7H(l:List H1)(hl:l.length≤maxLen)(hr:∀ r∈l,B9Z r):T6 l=some (A6O l):=by
  simp only [T6,A35]
  refine D33 (V8 M9 l) (fun i us=>(us,(i:Int),())) l hr (fun i hi us hu=>?_) (fun us=>by simp [V8])
  have h1:((i:Int)<(l.length:Int)):=by omega
  have h2:(0:Int)≤(i:Int):=by omega
  have hb:=A0a (hr _ (List.getElem_mem hi)).1
  obtain ⟨x,hx,hx2⟩:=D6j us l[i] hu (by omega)
  simp only [V8,A0 h1,A0 h2,cond_true]
  rw [D0 (k:=A6y) (xs:=l) hi,hx,w64 (by omega) (by simp only [maxLen] at hl;omega)]
  simp only [A3,B3H] at hx2 ⊢
  cases e:N1 us l[i] with
  | none=>rfl
  | some us'=>
    rw [e] at hx2
    rw [hx2 rfl]
    rfl
def B5K(l:List ByteArray):Prop:=l.length≤1048576∧∀ s∈l,s.size≤1048576
theorem B2t{l:List ByteArray}(h:B5K l){i:Nat}(hi:i<l.length):(rd .str l (i:Int)).size≤1048576:=by
  rw [A6m hi]
  exact h.2 _ (List.getElem_mem hi)
theorem C3d{s:ByteArray}(h:(K3 s).2.1=true):B9Z (K3 s).1:=by
  unfold K3 at h ⊢
  split at h
  · rename_i hg
    rw [if_pos hg]
    simp only [B6f,Bool.and_eq_true] at hg
    exact ⟨hg.1.2,C2R (A9Q s)⟩
  · cases h
theorem E48(d:F2)(h:B5K d.1)(l:Int×Int×List H1×Unit)(h0:0≤l.2.1):A3i Z9 d l=Q2 N8 d l:=by
  simp only [A3i,Q2]
  by_cases hi:l.2.1<(d.1.length:Int)
  · obtain ⟨i,hn⟩:∃ i:Nat,l.2.1=(i:Int):=⟨l.2.1.toNat,by omega⟩
    rw [hn] at hi ⊢
    rw [A9R _ (B2t h (by omega)),B5H _ (B2t h (by omega))]
  · rw [A4 hi]
    rfl
theorem E8B(d:F2)(h:B5K d.1):∃ l,A1j d=some (l,())∧A00 d=some (l,())∧l.length≤d.1.length∧∀ r∈l,B9Z r:=by
  have hl:=h.1
  obtain ⟨z,e,hz1,hz2⟩:=A3M (Q2 N8 d) (fun l=>((d.1.length:Int)-l.2.1).toNat) (fun l=>0≤l.2.1∧(List.length l.2.2.1:Int)=l.2.1∧l.2.1≤(d.1.length:Int)∧∀ r∈l.2.2.1,B9Z r)
    (fun z=>List.length z.1≤d.1.length∧∀ r∈z.1,B9Z r) (fun l hl=>by
      obtain ⟨h0,h1,h2,h3⟩:=hl
      simp only [Q2]
      by_cases hi:l.2.1<(d.1.length:Int)
      · obtain ⟨i,hn⟩:∃ i:Nat,l.2.1=(i:Int):=⟨l.2.1.toNat,by omega⟩
        rw [A0 hi,A0 h0]
        simp only [cond_true]
        rw [hn] at hi h0 h1 h2 ⊢
        rw [A9R _ (B2t h (by omega))]
        simp only [A3]
        have hg:=@C3d (rd .str d.1 (i:Int))
        generalize K3 (rd .str d.1 (i:Int))=g at hg ⊢
        have fin:List.length l.2.2.1≤d.1.length∧∀ r∈l.2.2.1,B9Z r:=⟨by omega,h3⟩
        cases hk:g.2.1 with
        | false=>exact .inr ⟨_,rfl,fin⟩
        | true=>
          simp only [Bool.not_true,cond_false]
          by_cases e1:g.1.2.1=(i:Int)
          · rw [A0 e1]
            by_cases e2:g.1.1<l.1
            · rw [A0 e2];exact .inr ⟨_,rfl,fin⟩
            · rw [A4 e2]
              simp only [Bool.not_true,cond_false]
              rw [A0 (by simp;omega),A0 (by simp;omega),w64 (by omega) (by omega)]
              refine .inl ⟨_,rfl,⟨by simp only;omega,by simp;omega,by simp only;omega,fun r hr=>?_⟩,by simp only;omega⟩
              rcases List.mem_append.1 hr with hr | hr
              · exact h3 r hr
              · rw [List.mem_singleton.1 hr];exact hg hk
          · rw [A4 e1];exact .inr ⟨_,rfl,fin⟩
      · rw [A4 hi]
        exact .inr ⟨_,rfl,by simp only;omega,h3⟩) (0,0,[],()) ⟨by simp,by simp,by simp,fun r hr=>by cases hr⟩
  refine ⟨z.1,e,?_,hz1,hz2⟩
  simp only [A00,B27]
  rw [B5A (g:=Q2 N8 d) (fun l=>0≤l.2.1) (fun l h0=>E48 d h l h0) (fun l y h0 e=>?_) (by simp)]
  · exact e
  · simp only [A3i] at e
    by_cases hi:l.2.1<(d.1.length:Int)
    · obtain ⟨i,hn⟩:∃ i:Nat,l.2.1=(i:Int):=⟨l.2.1.toNat,by omega⟩
      rw [A0 hi,A0 h0] at e
      simp only [cond_true] at e
      rw [hn] at hi h0 e
      rw [B5H _ (B2t h (by omega))] at e
      simp only [A3] at e
      rw [w64 (n:=(i:Int)+1) (by omega) (by omega)] at e
      generalize K3 (rd .str d.1 (i:Int))=g at e
      cases hk:g.2.1<;>simp only [hk,Bool.not_true,Bool.not_false,cond_true,cond_false] at e
      · cases e
      · revert e
        cases decide (g.1.2.1=(i:Int))<;>cases decide (g.1.1<l.1)<;>simp only [Bool.not_true,Bool.not_false,cond_true,cond_false]
        · intro e;cases e
        · intro e;cases e
        · cases decide (List.length l.2.2.1+List.length [g.1]≤9223372036854775807)<;>cases decide ((List.length l.2.2.1+List.length [g.1])*72≤140737488355328)<;>intro e
          · cases e
          · cases e
          · cases e
          · simp only [cond_true] at e
            injection e with e;injection e with e;subst e
            simp only;omega
        · intro e;cases e
    · rw [A4 hi] at e
      cases e
theorem E49:A10=A1H:=rfl
theorem D6k(d:F2)(h:d.1.length≤1048576):∃ b,A1H d=some (b,())∧(b=true→d.1.length=d.2.length∧d.1.length≤200):=by
  simp only [A1H,B2e]
  by_cases h1:(d.1.length:Int)=(d.2.length:Int)
  · rw [A0 h1]
    by_cases h2:(d.1.length:Int)>200
    · rw [A0 h2]
      exact ⟨_,rfl,fun e=>by cases e⟩
    · rw [A4 h2]
      simp only [Bool.not_true,cond_false,C3]
      refine ⟨_,C3a (A08 d) d.1.length (by simp only [maxLen];omega) (fun i=>!decide (((rd .str d.1 (i:Int)).size:Int)>64)&&!decide (((rd .str d.2 (i:Int)).size:Int)>64)) (fun i hi=>?_) (by simp [A08]),fun _=>by omega⟩
      have g1:((i:Int)<(d.1.length:Int)):=by omega
      have g2:(0:Int)≤(i:Int):=by omega
      have g3:((i:Int)<(d.2.length:Int)):=by omega
      simp only [A08,A0 g1,A0 g2,A0 g3,cond_true]
      cases decide (((rd .str d.1 (i:Int)).size:Int)>64)<;>cases decide (((rd .str d.2 (i:Int)).size:Int)>64)<;>rfl
  · rw [A4 h1]
    exact ⟨_,rfl,fun e=>by cases e⟩
def A5p(a b:TUp):Bool:=(a.1.toList == b.1.toList)&&decide (a.2.1=b.2.1)&&(a.2.2.2 == b.2.2.2)&&((strOf a.2.2.1).toList == (strOf b.2.2.1).toList)
def A0N(a b:List TUp):Bool:=decide (a.length=b.length)&&(List.range a.length).all fun i=>A5p (rd kUp a (i:Int)) (rd kUp b (i:Int))
theorem D6l(a b:TUp):A7h a b=some (A5p a b,()):=by
  simp only [A7h,B95,A5H,A9x,A3,A5p]
  cases (a.1.toList == b.1.toList)<;>cases decide (a.2.1=b.2.1)<;>cases (a.2.2.2 == b.2.2.2)<;>rfl
theorem E4A(a b:List TUp)(h:a.length≤maxLen):C4 a b ()=some (A0N a b,()):=by
  simp only [C4,E6,A0N]
  by_cases hl:a.length=b.length
  · rw [A0 (show (a.length:Int)=(b.length:Int) by omega),A0 hl]
    simp only [Bool.not_true,cond_false,Bool.true_and]
    refine C3a _ a.length h (fun i=>A5p (rd kUp a (i:Int)) (rd kUp b (i:Int))) (fun i hi=>?_) (by simp [E2])
    have g1:((i:Int)<(a.length:Int)):=by omega
    have g2:(0:Int)≤(i:Int):=by omega
    have g3:((i:Int)<(b.length:Int)):=by omega
    simp only [E2,A0 g1,A0 g2,A0 g3,cond_true,D6l,A3]
    cases A5p (rd kUp a (i:Int)) (rd kUp b (i:Int))<;>rfl
  · rw [A4 (show ¬ (a.length:Int)=(b.length:Int) by omega),A4 hl]
    rfl
theorem D34(a b:List TUp)(h:a.length≤maxLen):A1J a b=some (A0N a b,()):=by
  simp only [A1J,A8D,A0N]
  by_cases hl:a.length=b.length
  · rw [A0 (show (a.length:Int)=(b.length:Int) by omega),A0 hl]
    simp only [Bool.not_true,cond_false,Bool.true_and]
    refine C3a _ a.length h (fun i=>A5p (rd kUp a (i:Int)) (rd kUp b (i:Int))) (fun i hi=>?_) (by simp [A4z])
    have g1:((i:Int)<(a.length:Int)):=by omega
    have g2:(0:Int)≤(i:Int):=by omega
    have g3:((i:Int)<(b.length:Int)):=by omega
    simp only [A4z,A0 g1,A0 g2,A0 g3,cond_true,A5p]
    cases ((rd kUp a (i:Int)).1.toList == (rd kUp b (i:Int)).1.toList)<;>cases decide ((rd kUp a (i:Int)).2.1=(rd kUp b (i:Int)).2.1)<;>cases ((rd kUp a (i:Int)).2.2.2 == (rd kUp b (i:Int)).2.2.2)<;>cases ((strOf (rd kUp a (i:Int)).2.2.1).toList == (strOf (rd kUp b (i:Int)).2.2.1).toList)<;>rfl
  · rw [A4 (show ¬ (a.length:Int)=(b.length:Int) by omega),A4 hl]
    rfl
def B5L(e:Int)(s:ByteArray):Bool:=(K3 s).2.1&&decide ((K3 s).1.1≥e)
def C3e(t:Int)(s:ByteArray):Int:=bif (K3 s).2.1 then (bif decide ((K3 s).1.1>t) then (K3 s).1.1 else t) else t
def E8C(l:List ByteArray):Int:=l.foldl C3e (-1)
theorem D35(e:Int):∀ (l:List ByteArray) (t:Int),decide (l.foldl C3e t<e)=(decide (t<e)&&l.all fun s=>!B5L e s)
  | [],t=>(Bool.and_true _).symm
  | s::l,t=>by
    rw [List.foldl_cons,D35 e l,List.all_cons]
    unfold C3e B5L
    cases (K3 s).2.1 with
    | false=>simp
    | true=>
      simp only [cond_true,Bool.true_and]
      by_cases h1:(K3 s).1.1>t
      · rw [A0 h1]
        by_cases h2:(K3 s).1.1≥e
        · rw [A0 h2]
          simp only [cond_true]
          rw [A4 (show ¬ (K3 s).1.1<e by omega)]
          simp
        · rw [A4 h2]
          simp only [cond_true]
          rw [A0 (show (K3 s).1.1<e by omega),A0 (show t<e by omega)]
          simp
      · rw [A4 h1]
        simp only [cond_false]
        by_cases h3:t<e
        · rw [A0 h3,A4 (show ¬ (K3 s).1.1≥e by omega)]
          simp
        · rw [A4 h3]
          simp
theorem D4S(l:List ByteArray)(h:B5K l):A13 l=some (E8C l,()):=by
  have hl:=h.1
  simp only [A13,B4T]
  have key:=E5 (A5F Z9 l) (fun i=>((l.take i).foldl C3e (-1),(i:Int),())) l.length (E8C l,()) (fun i hi=>?_) ?_
  · simpa using key
  · have g1:((i:Int)<(l.length:Int)):=by omega
    have g2:(0:Int)≤(i:Int):=by omega
    simp only [A5F,A0 g1,A0 g2,cond_true]
    rw [B5H _ (B2t h hi),w64 (by omega) (by omega)]
    simp only [A3]
    have e:(l.take (i+1)).foldl C3e (-1)=C3e ((l.take i).foldl C3e (-1)) (rd .str l (i:Int)):=by
      rw [List.take_succ_eq_append_getElem hi,List.foldl_append,A6m hi]
      rfl
    rw [e]
    unfold C3e
    cases (K3 (rd .str l (i:Int))).2.1<;>rfl
  · simp [A5F,E8C]
theorem C7j(go:Nat→Bool)(n:Nat):decide (O7 go 0 n=n)=(List.range n).all go:=by
  rw [Bool.eq_iff_iff]
  simp only [decide_eq_true_eq,List.all_eq_true,List.mem_range]
  constructor
  · intro h j hj
    exact A9S go n 0 j (by omega) (by omega)
  · intro h
    exact A9T go n n (Nat.le_refl _) h (fun h=>by omega)
theorem D36(st:A8)(h:B5K st.1.1)(n:Nat)(hn:n≤st.1.1.length):B7 (A0Z N8 st) ((n:Int),())=some ((st.1.1.drop n).all fun s=>!B5L st.2.1 s,()):=by
  have hl:=h.1
  have key:=A3N (A0Z N8 st) (fun j=>(((n+j:Nat):Int),())) (st.1.1.length-n) (fun j=>(decide (j=st.1.1.length-n),())) (fun j=>!B5L st.2.1 (rd .str st.1.1 ((n+j:Nat):Int))) (fun j hj=>?_) ?_
  · have e:B7 (A0Z N8 st) ((n:Int),())=_:=key
    rw [e,C7j]
    congr 2
    rw [Bool.eq_iff_iff]
    simp only [List.all_eq_true,List.mem_range]
    constructor
    · intro h2 s hs
      obtain ⟨j,hj,rfl⟩:=List.getElem_of_mem hs
      rw [List.length_drop] at hj
      have:=h2 j hj
      rw [A6m (by omega)] at this
      rw [List.getElem_drop]
      exact this
    · intro h2 j hj
      rw [A6m (by omega)]
      refine h2 _ ?_
      rw [List.mem_iff_getElem]
      exact ⟨j,by rw [List.length_drop];omega,by rw [List.getElem_drop]⟩
  · have g1:(((n+j:Nat):Int)<(st.1.1.length:Int)):=by omega
    have g2:(0:Int)≤((n+j:Nat):Int):=by omega
    simp only [A0Z,A0 g1,A0 g2,cond_true]
    rw [A9R _ (B2t h (by omega)),w64 (by omega) (by omega)]
    simp only [A3,B5L]
    rw [A4 (show ¬ j=st.1.1.length-n by omega)]
    have e2:n+(j+1)=(n+j)+1:=by omega
    simp only [e2,Int.natCast_succ]
    cases (K3 (rd .str st.1.1 ((n+j:Nat):Int))).2.1<;>cases decide ((K3 (rd .str st.1.1 ((n+j:Nat):Int))).1.1≥st.2.1)<;>rfl
  · have g1:¬ (((n+(st.1.1.length-n):Nat):Int)<(st.1.1.length:Int)):=by omega
    simp only [A0Z,A4 g1,cond_false]
    simp
def C7k(st:A8):Prop:=0≤st.2.1∧st.2.1≤10000∧st.1.1.length=st.1.2.length∧st.1.1.length≤200∧(0≤st.2.2.1∧st.2.2.1≤(st.1.1.length:Int))∧∃ us,Ups us∧A0N us st.2.2.2=true
theorem C7l(st:A8)(h:B5K st.1.1):∃ b,F8 st=some (b,())∧A14 st=some (b,())∧(b=true→C7k st):=by
  have hl:=h.1
  obtain ⟨bd,hd,hdt⟩:=D6k st.1 hl
  obtain ⟨l,hs,hi,hll,hrg⟩:=E8B st.1 h
  have hfs:=B7H l (by simp only [maxLen];omega) hrg
  have hfi:=D0k l (by simp only [maxLen];omega) hrg
  have hups:(A6O l).2.1=true→Ups (A6O l).1:=by
    intro e
    unfold A6O at e ⊢
    split
    · rename_i us' e1
      exact A9U C6e hrg e1
    · rename_i e1
      rw [e1] at e;cases e
  simp only [F8,A9C,A14,B4U,E49,hd,hs,hi,hfs,hfi,A0y,A8n,Q7,K7,A3]
  cases bd with
  | false=>
    by_cases he:0≤st.2.1∧st.2.1≤10000
    · rw [A0 he]
      exact ⟨_,rfl,rfl,fun e=>by cases e⟩
    · rw [A4 he]
      exact ⟨_,rfl,rfl,fun e=>by cases e⟩
  | true=>
    cases he':decide (0≤st.2.1∧st.2.1≤10000) with
    | false=>exact ⟨_,rfl,rfl,fun e=>by cases e⟩
    | true=>
      have he:=of_decide_eq_true he'
      have hd2:=hdt rfl
      simp only [Bool.not_true,cond_false,C3]
      generalize hf:A6O l=fr at hups
      cases hk:fr.2.1 with
      | false=>exact ⟨_,rfl,rfl,fun e=>by cases e⟩
      | true=>
        have hu:=hups hk
        have hul:=hu.2.1
        rw [D34 _ _ (show fr.1.length≤maxLen by simp only [maxLen];omega),E4A _ _ (show fr.1.length≤maxLen by simp only [maxLen];omega)]
        simp only [Bool.not_true,cond_false]
        cases hn':decide (st.2.2.1=(List.length l:Int)) with
        | false=>
          cases A0N fr.1 st.2.2.2<;>exact ⟨_,rfl,rfl,fun e=>by cases e⟩
        | true=>
          have hn:=of_decide_eq_true hn'
          cases hsm:A0N fr.1 st.2.2.2 with
          | false=>exact ⟨_,rfl,rfl,fun e=>by cases e⟩
          | true=>
            have hg:C7k st:=⟨he.1,he.2,hd2.1,hd2.2,by omega,fr.1,hu,hsm⟩
            simp only [Bool.not_true,cond_false]
            rw [hn,D36 st h l.length hll,A0 (show (0:Int)≤(List.length l:Int) by omega),A0 (show (List.length l:Int)≤(st.1.1.length:Int) by omega),Int.toNat_natCast,List.take_length]
            simp only [cond_true]
            have hdr:B5K (st.1.1.drop l.length):=⟨by rw [List.length_drop];omega,fun s hs=>h.2 s (List.mem_of_mem_drop hs)⟩
            rw [D4S _ hdr]
            have htop:decide (st.2.1>E8C (st.1.1.drop l.length))=((st.1.1.drop l.length).all fun s=>!B5L st.2.1 s):=by
              have:=D35 st.2.1 (st.1.1.drop l.length) (-1)
              rw [A0 (show (-1:Int)<st.2.1 by omega),Bool.true_and] at this
              exact this
            simp only [htop]
            by_cases hl0:(List.length l:Int)>0
            · rw [A0 hl0,w64 (n:=(List.length l:Int)-1) (by omega) (by omega),A0 (show (0:Int)≤(List.length l:Int)-1 by omega),A0 (show (List.length l:Int)-1<(List.length l:Int) by omega)]
              simp only [cond_true]
              have hlt:decide (st.2.1<(rd A6y l ((List.length l:Int)-1)).1)=decide ((rd A6y l ((List.length l:Int)-1)).1>st.2.1):=rfl
              rw [hlt]
              cases decide ((rd A6y l ((List.length l:Int)-1)).1>st.2.1) with
              | true=>exact ⟨_,rfl,rfl,fun e=>by cases e⟩
              | false=>exact ⟨_,rfl,rfl,fun _=>hg⟩
            · rw [A4 hl0]
              exact ⟨_,rfl,rfl,fun _=>hg⟩
theorem D6m(x:C0):B4V T3 x=Y2 T5 x:=by
  have e:T3=T5:=by funext r;rw [B5E,B5D]
  rw [e]
  rfl
theorem E8D(x:C0)(h:x.2.length≤1048576):∃ z,B7 (Y2 T5 x) (0,())=some z∧(z=.inl ()∨z=.inr (false,())):=by
  have key:=A3N (Y2 T5 x) (fun i=>((i:Int),())) x.2.length (fun i=>if i<x.2.length then .inr (false,()) else .inl ()) (fun i=>W4 (rd A9 x.2 (i:Int)).2) (fun i hi=>?_) ?_
  · refine ⟨_,key,?_⟩
    split
    · exact .inr rfl
    · exact .inl rfl
  · have g1:((i:Int)<(x.2.length:Int)):=by omega
    have g2:(0:Int)≤(i:Int):=by omega
    simp only [Y2,A0 g1,A0 g2,cond_true,B5D,A3,if_pos hi]
    rw [w64 (by omega) (by omega)]
    cases W4 (rd A9 x.2 (i:Int)).2<;>rfl
  · simp [Y2]
theorem C3f(x:C0)(h:B5K x.1.1.1)(h2:x.2.length≤1048576):∃ b,A4A x=some (b,())∧A3k x=some (b,())∧(b=true→F8 x.1=some (true,())∧C7k x.1∧x.2.length≤200):=by
  obtain ⟨z,hz,hz2⟩:=E8D x h2
  obtain ⟨b,hs,hi,hg⟩:=C7l x.1 h
  simp only [A4A,B2h,A3k,B29,D6m,hz,hs,hi]
  rcases hz2 with rfl | rfl
  · by_cases hl:(x.2.length:Int)≤200
    · rw [A0 hl]
      exact ⟨b,rfl,rfl,fun e=>⟨by rw [e],hg e,by omega⟩⟩
    · rw [A4 hl]
      exact ⟨_,rfl,rfl,fun e=>by cases e⟩
  · exact ⟨_,rfl,rfl,fun e=>by cases e⟩
theorem D4T{N:Nat}{e:Nat}{l:List ByteArray}(hN:N≤1048576)(h:Sm N (.sl e .str) l):B5K l:=⟨by have:l.length≤N:=h.1;omega,fun s hs=>by have:s.size≤N:=h.2 s hs;omega⟩
theorem C7m{k:K}{b:List k.T}{i:Nat}(h:i<b.length)(u:k.T):rd k (b.set i u) (i:Int)=u:=by
  rw [D0 (xs:=b.set i u) (by simpa using h)]
  simp
def MH{T:Type}(mark:Int→Option (Int×T×Unit))(held:T→Int→Option (Int×Unit))(n:Nat):Prop:=
  ∀ m:Int,0≤m→m+n<4611686018427387904→∃ m' y,mark m=some (m',y,())∧m≤m'∧m'≤m+n∧held y m=some (m',())
def cost{T:Type}(c:T→Nat)(a:List T):Nat:=(a.map c).sum
theorem E4B{T:Type}(c:T→Nat){a:List T}{i:Nat}(h:i<a.length):cost c (a.drop i)=c a[i]+cost c (a.drop (i+1)):=by
  rw [List.drop_eq_getElem_cons h]
  simp only [cost,List.map_cons,List.sum_cons]
theorem B6g{T:Type}(Lm:Int×Int×List T×Unit→Option ((Int×Int×List T×Unit)⊕(Int×List T×Unit)))(Lh:List T→Int×Int×Unit→Option ((Int×Int×Unit)⊕(Int×Unit)))(c:T→Nat)(a:List T)(hn:a.length≤1048576)
    (hs:∀ (i:Nat) (hi:i<a.length) (m:Int),0≤m→m+c a[i]<4611686018427387904→∃ m' u,m≤m'∧m'≤m+c a[i]∧(∀ (b:List T) (hb:b.length=a.length),b[i]'(by omega)=a[i]→Lm (m,(i:Int),b,())=some (.inl (m',(i:Int)+1,b.set i u,())))∧
      ∀ (b:List T) (hb:b.length=a.length),b[i]'(by omega)=u→Lh b (m,(i:Int),())=some (.inl (m',(i:Int)+1,())))
    (he:∀ m (b:List T),b.length=a.length→Lm (m,(a.length:Int),b,())=some (.inr (m,b,()))) (hf:∀ m (b:List T),b.length=a.length→Lh b (m,(a.length:Int),())=some (.inr (m,()))) :
    MH (fun m=>B7 Lm (m,0,a,())) (fun y m=>B7 (Lh y) (m,0,())) (cost c a):=by
  have key:∀ k i,i+k=a.length→∀ m:Int,0≤m→m+cost c (a.drop i)<4611686018427387904→∃ m' us,us.length=k∧m≤m'∧m'≤m+cost c (a.drop i)∧
      (∀ pre:List T,pre.length=i→B7 Lm (m,(i:Int),pre++a.drop i,())=some (m',pre++us,()))∧∀ pre:List T,pre.length=i→B7 (Lh (pre++us)) (m,(i:Int),())=some (m',()):=by
    intro k
    induction k with
    | zero=>
      intro i hi m h0 h1
      obtain rfl:i=a.length:=by omega
      refine ⟨m,[],rfl,Int.le_refl _,by omega,fun pre hp=>?_,fun pre hp=>?_⟩
      · rw [I0,he _ _ (by simp [hp])]
        simp
      · rw [I0,hf _ _ (by simp [hp])]
    | succ k ih=>
      intro i hi m h0 h1
      have hlt:i<a.length:=by omega
      rw [E4B c hlt] at h1 ⊢
      obtain ⟨m1,u,g1,g2,g3,g4⟩:=hs i hlt m h0 (by omega)
      obtain ⟨m',us,h2,h3,h4,h5,h6⟩:=ih (i+1) (by omega) m1 (by omega) (by omega)
      have e1:(i:Int)+1=((i+1:Nat):Int):=by omega
      rw [e1] at g3 g4
      refine ⟨m',u::us,by simp [h2],by omega,by omega,fun pre hp=>?_,fun pre hp=>?_⟩
      · have hl:(pre++a.drop i).length=a.length:=by simp [hp];omega
        have hg:(pre++a.drop i)[i]'(by omega)=a[i]:=by
          rw [List.getElem_append_right (by omega)]
          simp [hp]
        rw [I0,g3 _ hl hg]
        have hset:(pre++a.drop i).set i u=(pre ++ [u])++a.drop (i+1):=by
          rw [List.set_append_right _ _ (by omega),hp,Nat.sub_self,List.drop_eq_getElem_cons hlt,List.set_cons_zero]
          simp
        rw [hset]
        have:=h5 (pre ++ [u]) (by simp [hp])
        simp only [List.append_assoc,List.singleton_append] at this
        simpa using this
      · have hl:(pre++u::us).length=a.length:=by simp [hp,h2];omega
        have hg:(pre++u::us)[i]'(by omega)=u:=by
          rw [List.getElem_append_right (by omega)]
          simp [hp]
        rw [I0,g4 _ hl hg]
        have:=h6 (pre ++ [u]) (by simp [hp])
        simp only [List.append_assoc,List.singleton_append] at this
        exact this
  intro m h0 h1
  obtain ⟨m',us,h2,h3,h4,h5,h6⟩:=key a.length 0 (by omega) m h0 (by simpa using h1)
  exact ⟨m',us,by simpa using h5 [] rfl,h3,by simpa using h4,by simpa using h6 [] rfl⟩
theorem C7n(a:List Int):MH (I2 a) I3 a.length:=fun m h0 h1=>⟨_,_,D4E a m h0 (by omega),by omega,Int.le_refl _,D4F a.length m h0 (by omega)⟩
theorem C7o(a:List ByteArray):MH (U9 a) V0 a.length:=fun m h0 h1=>⟨_,_,C7c a m h0 h1,by omega,Int.le_refl _,C7d a.length m h0 h1⟩
theorem D6n(a:List B6)(h:a.length≤1048576):MH (A0W a) A0Y (cost (fun _=>3) a):=by
  refine B6g A2k A2r (fun _=>3) a h (fun i hi m h0 h1=>?_) (fun m b hb=>by simp [A2k,hb]) (fun m b hb=>by simp [A2r,hb])
  have w1:IntKind.i64.wrap (m+1)=m+1:=w64 (by omega) (by omega)
  have w2:IntKind.i64.wrap (m+1+1)=m+1+1:=w64 (by omega) (by omega)
  have w3:IntKind.i64.wrap (m+1+1+1)=m+1+1+1:=w64 (by omega) (by omega)
  have wi:IntKind.i64.wrap ((i:Int)+1)=(i:Int)+1:=w64 (by omega) (by omega)
  have g1:(0:Int)≤(i:Int):=by omega
  refine ⟨m+1+1+1,(m,m+1,m+1+1),by omega,by omega,fun b hb e=>?_,fun b hb e=>?_⟩
  · have hib:i<b.length:=by omega
    have g2:(i:Int)<(b.length:Int):=by omega
    simp only [A2k,A3,List.length_set,A0 g1,A0 g2,cond_true,Int.toNat_natCast,w1,w2,w3,wi,List.set_set,C7m (k:=A9) hib]
  · have g2:(i:Int)<(b.length:Int):=by omega
    have hr:rd A9 b (i:Int)=(m,m+1,m+1+1):=by rw [D0 (k:=A9) (xs:=b) (by omega)];exact e
    simp only [A2r,A3,A0 g1,A0 g2,cond_true,w1,w2,w3,wi,hr]
    simp
theorem E9L(a:List TUp)(h:a.length≤1048576):MH (A96 a) A98 (cost (fun u=>List.length u.2.2.1+3) a):=by
  refine B6g (A5Y I2 D3) (A5f I3 D3) (fun u=>List.length u.2.2.1+3) a h (fun i hi m h0 h1=>?_) (fun m b hb=>by simp [A5Y,hb]) (fun m b hb=>by simp [A5f,hb])
  obtain ⟨m1,d,e1,b1,b2,e2⟩:=C7n a[i].2.2.1 (m+1+1) (by omega) (by omega)
  have w1:IntKind.i64.wrap (m+1)=m+1:=w64 (by omega) (by omega)
  have w2:IntKind.i64.wrap (m+1+1)=m+1+1:=w64 (by omega) (by omega)
  have w3:IntKind.i64.wrap (m1+1)=m1+1:=w64 (by omega) (by omega)
  have wi:IntKind.i64.wrap ((i:Int)+1)=(i:Int)+1:=w64 (by omega) (by omega)
  have g1:(0:Int)≤(i:Int):=by omega
  have ht:=A6M m (by omega)
  refine ⟨m1+1,(mt m,m+1,d,decide (m1.tmod 3=0)),by omega,by omega,fun b hb e=>?_,fun b hb e=>?_⟩
  · have hib:i<b.length:=by omega
    have g2:(i:Int)<(b.length:Int):=by omega
    have hr:rd kUp b (i:Int)=a[i]:=by rw [D0 (k:=kUp) (xs:=b) (by omega)];exact e
    simp only [A5Y,A3,ht,List.length_set,A0 g1,A0 g2,cond_true,Int.toNat_natCast,w1,w2,w3,wi,List.set_set,C7m (k:=kUp) hib,hr,e1]
  · have g2:(i:Int)<(b.length:Int):=by omega
    have hr:rd kUp b (i:Int)=(mt m,m+1,d,decide (m1.tmod 3=0)):=by rw [D0 (k:=kUp) (xs:=b) (by omega)];exact e
    simp only [A5f,A3,ht,A0 g1,A0 g2,cond_true,w1,w2,w3,wi,hr,e2]
    rw [A4 (show ¬ m1<0 by omega)]
    simp
def E33(d:F2):Nat:=d.1.length+d.2.length
def C7p(s:A8):Nat:=E33 s.1+cost (fun u:TUp=>List.length u.2.2.1+3) s.2.2.2
def B6h(s:C0):Nat:=C7p s.1+cost (fun _:B6=>3) s.2
theorem E8E(d:F2):MH (A41 d) A44 (E33 d):=by
  intro m h0 h1
  unfold E33 at *
  obtain ⟨m1,y1,e1,a1,b1,f1⟩:=C7o d.1 m h0 (by omega)
  obtain ⟨m2,y2,e2,a2,b2,f2⟩:=C7o d.2 m1 (by omega) (by omega)
  refine ⟨m2,(y1,y2),?_,by omega,by omega,?_⟩
  · simp only [A41,B2b,e1,e2,A3]
  · simp only [A44,B2c,f1,f2,A3]
    rw [A4 (show ¬ m1<0 by omega),A4 (show ¬ m2<0 by omega)]
    rfl
theorem E6i(s:A8)(h:s.2.2.2.length≤1048576)(m:Int)(h0:0≤m)(h1:m+C7p s<4611686018427387904) :
    ∃ m' y1 y2,A22 s m=some (m',(y1,s.2.1,s.2.2.1,y2),())∧m≤m'∧m'≤m+C7p s∧∀ a b,A24 (y1,a,b,y2) m=some (m',()):=by
  unfold C7p at *
  obtain ⟨m1,y1,e1,a1,b1,f1⟩:=E8E s.1 m h0 (by omega)
  obtain ⟨m2,y2,e2,a2,b2,f2⟩:=E9L s.2.2.2 h m1 (by omega) (by omega)
  refine ⟨m2,y1,y2,?_,by omega,by omega,fun a b=>?_⟩
  · simp only [A22,B0H,e1,e2,A3]
  · simp only [A24,B0K,f1,f2,A3]
    rw [A4 (show ¬ m1<0 by omega),A4 (show ¬ m2<0 by omega)]
    rfl
theorem E4C(s:C0)(h:s.1.2.2.2.length≤1048576)(h':s.2.length≤1048576)(m:Int)(h0:0≤m)(h1:m+B6h s<4611686018427387904) :
    ∃ m' y1 y2 y3,A1E s m=some (m',((y1,s.1.2.1,s.1.2.2.1,y2),y3),())∧m≤m'∧m'≤m+B6h s∧∀ a b,A1F ((y1,a,b,y2),y3) m=some (m',()):=by
  unfold B6h at *
  obtain ⟨m1,y1,y2,e1,a1,b1,f1⟩:=E6i s.1 h m h0 (by omega)
  obtain ⟨m2,y3,e2,a2,b2,f2⟩:=D6n s.2 h' m1 (by omega) (by omega)
  refine ⟨m2,y1,y2,y3,?_,by omega,by omega,fun a b=>?_⟩
  · simp only [A1E,A8A,e1,e2,A3]
  · simp only [A1F,A8B,f1,f2,A3]
    rw [A4 (show ¬ m1<0 by omega),A4 (show ¬ m2<0 by omega)]
    rfl
theorem A9V{T:Type}(c:T→Nat)(n:Nat):∀ (a:List T),(∀ x∈a,c x≤n)→cost c a≤a.length*n
  | [],_=>by simp [cost]
  | x::a,h=>by
    have h1:=A9V c n a (fun y hy=>h y (by simp [hy]))
    have h2:=h x (by simp)
    simp only [cost,List.map_cons,List.sum_cons,List.length_cons] at h1 ⊢
    rw [Nat.add_mul]
    omega
theorem C2T(a:List ByteArray)(h:a.length≤1048576):F7 a=some (a,()):=by
  simp only [F7,R1]
  have e:(bif decide (([]:List ByteArray).length+a.length≤9223372036854775807) then bif decide ((([]:List ByteArray).length+a.length)*16≤140737488355328) then some (([]++a),()) else none else none)=some (a,()):=by
    rw [A0 (by simp;omega),A0 (by simp;omega)]
    simp
  rw [e]
  cases a with
  | nil=>simp [B5C]
  | cons x xs=>simp
theorem D37(a:List B6)(h:a.length≤1048576):D9 a=some (a,()):=by
  simp only [D9,M3]
  have e:(bif decide (([]:List B6).length+a.length≤9223372036854775807) then bif decide ((([]:List B6).length+a.length)*24≤140737488355328) then some (([]++a),()) else none else none)=some (a,()):=by
    rw [A0 (by simp;omega),A0 (by simp;omega)]
    simp
  rw [e]
  cases a with
  | nil=>simp [B5C]
  | cons x xs=>simp
def A9W(d:F2):Prop:=B5K d.1∧B5K d.2
def A6n(s:A8):Prop:=A9W s.1∧List.length s.2.2.2≤1048576∧∀ u∈s.2.2.2,List.length u.2.2.1≤2000000000
def D38(s:C0):Prop:=A6n s.1∧List.length s.2≤1048576
theorem D0l(d:F2)(h:A9W d):R6 d=some (d,()):=by
  simp only [R6,B2D,C2T _ h.1.1,C2T _ h.2.1,A3]
theorem D0m(d:F2)(h:A9W d):A3K d=some (d,()):=by
  have h1:=h.1.1
  have h2:=h.2.1
  simp only [A3K,B4z]
  rw [A0 (by simp;omega),A0 (by simp;omega),A0 (by simp;omega),A0 (by simp;omega)]
  simp
theorem D6o(u:TUp)(h:List.length u.2.2.1≤2000000000):A4q u=some (u,()):=by
  simp only [A4q,B97,A2B _ (show List.length u.2.2.1≤140737488355328 by omega),A3]
theorem C7q(s:A8)(h:A6n s):A1t s=some (s,()):=by
  simp only [A1t,A9z,D0l _ h.1,A3]
  have hl:=h.2.1
  have key:=E5 (A2X A4q s) (fun i=>((i:Int),s.2.1,s.2.2.1,s.1.1,s.1.2,s.2.2.2.take i,())) s.2.2.2.length (s,()) (fun i hi=>?_) ?_
  · simpa using key
  · have g1:((i:Int)<(s.2.2.2.length:Int)):=by omega
    have g2:(0:Int)≤(i:Int):=by omega
    simp only [A2X,A0 g1,A0 g2,cond_true]
    rw [D0 (k:=kUp) (xs:=s.2.2.2) hi,D6o _ (h.2.2 _ (List.getElem_mem hi))]
    simp only [A3]
    rw [A0 (by simp;omega),A0 (by simp;omega),w64 (by omega) (by omega),List.take_succ_eq_append_getElem hi]
    rfl
  · simp [A2X]
theorem A1N(s:A8)(h:A6n s):L0 s=some (s,()):=by
  simp only [L0,A9H,D0m _ h.1,B9Y _ h.2.1 h.2.2,A3]
theorem C5U(s:C0)(h:D38 s):A15 s=some (s,()):=by
  simp only [A15,A7k,C7q _ h.1,D37 _ h.2,A3]
theorem C5V(s:C0)(h:D38 s):A6E s=some (s,()):=by
  have h2:=h.2
  simp only [A6E,B50,A1N _ h.1,A3]
  rw [A0 (by simp;omega),A0 (by simp;omega)]
  simp
theorem E0P(d:F2)(h:A9W d):A1v d=some ((d.1,d.1),()):=by
  simp only [A1v,B01,C2T _ h.1.1,A3]
theorem E0Q(d:F2)(h:A9W d):A27 d=some ((d.1,d.1),()):=by
  have h1:=h.1.1
  simp only [A27,B0M]
  rw [A0 (by simp;omega),A0 (by simp;omega)]
  simp
theorem E6j{l:List ByteArray}(h:B5K l)(i:Nat){s:ByteArray}(hs:s.size≤1048576):B5K (l.set i s):=⟨by rw [List.length_set];exact h.1,fun x hx=>(List.mem_or_eq_of_mem_set hx).elim (h.2 x) (fun e=>by rw [e];exact hs)⟩
def C0R(op:Int):Int:=if op=1 then 1000000000 else if op=3 then 1000000000 else if op=4 then 4294967295 else 0
def A36(r:U6):Bool:=decide (1≤r.1∧r.1≤6)&&idB r.2.1&&decide (0≤r.2.2∧r.2.2≤C0R r.1)
theorem C7r(r:U6)(h:r.2.1.size≤maxLen):A50 r=some (A36 r,()):=by
  simp only [A50,C2M,Q7,A8J _ h,A3,A36,A9E,B4y,C0R]
  cases decide (1≤r.1∧r.1≤6)
  · rfl
  cases idB r.2.1
  · rfl
  simp only [Bool.not_true,cond_false,C3,Bool.true_and]
  have hz:decide (0≤r.2.2∧r.2.2≤0)=decide (r.2.2=0):=by
    by_cases h0:r.2.2=0
    · rw [A0 h0,A0 (by omega)]
    · rw [A4 h0,A4 (by omega)]
  by_cases h1:r.1=1
  · simp [h1]
  by_cases h3:r.1=3
  · simp [h3]
  by_cases h4:r.1=4
  · simp [h4]
  simp [h1,h3,h4]
  rw [Bool.eq_iff_iff]
  simp
  omega
theorem C7s(r:U6)(h:r.2.1.size≤maxLen):A3F r=some (A36 r,()):=by
  simp only [A3F,C2B,K7,B2r _ h,A3,A36,A2W,A6W,C0R]
  by_cases h1:r.1=1
  · simp [h1];cases idB r.2.1<;>simp
  by_cases h3:r.1=3
  · simp [h3];cases idB r.2.1<;>simp
  by_cases h4:r.1=4
  · simp [h4];cases idB r.2.1<;>simp
  simp only [A4 h1,A4 h3,A4 h4,if_neg h1,if_neg h3,if_neg h4,cond_false]
  cases decide (1≤r.1∧r.1≤6)<;>cases idB r.2.1<;>simp
def D39(n:Nat)(h:B6):Bool:=W4 h.2&&decide (0≤h.1∧h.1≤(n:Int)-1)
def A1O(n:Nat)(l:List B6):Bool:=(List.range l.length).all fun i=>D39 n (rd A9 l (i:Int))
theorem C0S(w:A6)(l:List B6)(h:l.length≤maxLen)(hc:w.2.1.length≤1048576):A8E w l=some (A1O w.2.1.length l,()):=by
  simp only [A8E,B9S,A1O]
  refine C3a _ l.length h (fun i=>D39 w.2.1.length (rd A9 l (i:Int))) (fun i hi=>?_) (by simp [B2j])
  have g1:((i:Int)<(l.length:Int)):=by omega
  have g2:(0:Int)≤(i:Int):=by omega
  simp only [B2j,A0 g1,A0 g2,cond_true,Q7,B5D,A3,D39]
  rw [w64 (n:=(w.2.1.length:Int)-1) (by omega) (by omega)]
  cases decide (0≤(rd A9 l (i:Int)).1∧(rd A9 l (i:Int)).1≤(w.2.1.length:Int)-1)<;>cases W4 (rd A9 l (i:Int)).2<;>rfl
theorem D6p(w:A6)(l:List B6)(h:l.length≤maxLen)(hc:w.2.1.length≤1048576):A7i w l=some (A1O w.2.1.length l,()):=by
  simp only [A7i,B96,A1O]
  refine C3a _ l.length h (fun i=>D39 w.2.1.length (rd A9 l (i:Int))) (fun i hi=>?_) (by simp [B2B])
  have g1:((i:Int)<(l.length:Int)):=by omega
  have g2:(0:Int)≤(i:Int):=by omega
  simp only [B2B,A0 g1,A0 g2,cond_true,K7,B5E,A3,D39]
  rw [w64 (n:=(w.2.1.length:Int)-1) (by omega) (by omega)]
  cases decide (0≤(rd A9 l (i:Int)).1∧(rd A9 l (i:Int)).1≤(w.2.1.length:Int)-1)<;>cases W4 (rd A9 l (i:Int)).2<;>rfl
def E4D(w:A6):Prop:=w.2.1.length≤1048576∧∀ c∈w.2.1,c.1.size≤maxLen
theorem C3g(w:A6)(h:E4D w)(i:Nat)(hi:i<w.2.1.length):∃ z,B7 (T1 ((i:Int),()) w) (0,())=some z∧(z=.inl ((i:Int)+1,())∨z=.inr (.inr (false,()))):=by
  have hl:=h.1
  refine A3M (T1 ((i:Int),()) w) (fun l=>((i:Int)-l.1).toNat) (fun l=>0≤l.1) (fun z=>z=.inl ((i:Int)+1,())∨z=.inr (.inr (false,()))) (fun l h0=>?_) (0,()) (by simp)
  simp only [T1]
  by_cases hj:l.1<(i:Int)
  · rw [A0 hj,A0 h0,A0 (show l.1<(w.2.1.length:Int) by omega),A0 (show (0:Int)≤(i:Int) by omega),A0 (show (i:Int)<(w.2.1.length:Int) by omega)]
    simp only [cond_true]
    rw [w64 (n:=l.1+1) (by omega) (by omega)]
    cases ((rd B2 w.2.1 l.1).1.toList == (rd B2 w.2.1 (i:Int)).1.toList)
    · exact .inl ⟨_,rfl,by simp only;omega,by simp only;omega⟩
    · exact .inr ⟨_,rfl,.inr rfl⟩
  · rw [A4 hj,w64 (n:=(i:Int)+1) (by omega) (by omega)]
    exact .inr ⟨_,rfl,.inl rfl⟩
theorem D6q(w:A6)(h:E4D w)(i:Nat)(hi:i<w.2.1.length):B7 (A2T w ((i:Int),())) (0,())=B7 (T1 ((i:Int),()) w) (0,()):=by
  have hl:=h.1
  have hlen:((w.2.1.take i).drop 0).length=i:=by simp;omega
  refine B5A (fun l=>0≤l.1) (fun l h0=>?_) (fun l y h0 e=>?_) (by simp)
  · simp only [A2T,T1,Int.toNat_natCast,hlen]
    by_cases hj:l.1<(i:Int)
    · obtain ⟨j,hn⟩:∃ j:Nat,l.1=(j:Int):=⟨l.1.toNat,by omega⟩
      rw [hn] at hj h0 ⊢
      rw [A0 hj,A0 h0,A0 (show (j:Int)<(w.2.1.length:Int) by omega),A0 (show (0:Int)≤(i:Int) by omega),A0 (show (i:Int)<(w.2.1.length:Int) by omega)]
      simp only [cond_true]
      have e:rd B2 ((w.2.1.take i).drop 0) (j:Int)=rd B2 w.2.1 (j:Int):=by
        rw [D0 (k:=B2) (xs:=(w.2.1.take i).drop 0) (by rw [hlen];omega),D0 (k:=B2) (xs:=w.2.1) (by omega)]
        simp
      rw [e]
    · rw [A4 hj]
      rfl
  · simp only [A2T,Int.toNat_natCast,hlen] at e
    by_cases hj:l.1<(i:Int)
    · rw [A0 hj,A0 h0] at e
      simp only [cond_true] at e
      rw [w64 (n:=l.1+1) (by omega) (by omega)] at e
      revert e
      cases ((rd B2 ((w.2.1.take i).drop 0) l.1).1.toList == (rd B2 w.2.1 (i:Int)).1.toList)
      · intro e
        simp only [cond_false] at e
        injection e with e;injection e with e;subst e
        simp only;omega
      · intro e
        simp only [cond_true] at e
        injection e with e;cases e
    · rw [A4 hj] at e
      simp only [cond_false] at e
      injection e with e;cases e
theorem C0T(w:A6)(h:E4D w)(l:Int×Unit)(h0:0≤l.1) :
    A2U K5 w l=I4 I8 w l∧((∃ y,I4 I8 w l=some (.inl y)∧y.1=l.1+1∧l.1<(w.2.1.length:Int))∨I4 I8 w l=some (.inr (.inl ()))∨I4 I8 w l=some (.inr (.inr (false,())))):=by
  have hl:=h.1
  simp only [A2U,I4]
  by_cases hi:l.1<(w.2.1.length:Int)
  · obtain ⟨i,hn⟩:∃ i:Nat,l.1=(i:Int):=⟨l.1.toNat,by omega⟩
    obtain ⟨l1,u⟩:=l
    simp only at hn hi h0
    subst hn
    have hi':i<w.2.1.length:=by omega
    have hsz:(rd B2 w.2.1 (i:Int)).1.size≤maxLen:=by
      rw [D0 (k:=B2) (xs:=w.2.1) hi']
      exact h.2 _ (List.getElem_mem hi')
    simp only
    rw [A0 hi,A0 h0,B0R _ hsz,B0Q _ hsz,A0 (show (i:Int)≤(w.2.1.length:Int) by omega),D6q w h i hi']
    simp only [cond_true,A3]
    cases L1 (rd B2 w.2.1 (i:Int)) with
    | false=>exact ⟨trivial,.inr (.inr rfl)⟩
    | true=>
      obtain ⟨z,e,hz⟩:=C3g w h i hi'
      simp only [Bool.not_true,cond_false]
      refine ⟨trivial,?_⟩
      rw [e]
      rcases hz with rfl | rfl
      · exact .inl ⟨_,rfl,rfl,hi⟩
      · exact .inr (.inr rfl)
  · rw [A4 hi]
    exact ⟨rfl,.inr (.inl rfl)⟩
theorem C7t(w:A6)(h:E4D w):∃ b,T7 w=some (b,())∧A1s w=some (b,())∧(b=true→w.2.1.length≤6∧w.2.2.1.length=w.2.1.length∧w.2.2.2.2.2.length=w.2.1.length):=by
  have hl:=h.1
  have e1:B7 (A2U K5 w) (0,())=B7 (I4 I8 w) (0,()):=by
    refine B5A (fun l=>0≤l.1) (fun l h0=>(C0T w h l h0).1) (fun l y h0 e=>?_) (by simp)
    rw [(C0T w h l h0).1] at e
    rcases (C0T w h l h0).2 with ⟨y',e2,e3,_⟩ | e2 | e2
    · rw [e2] at e;injection e with e;injection e with e;subst e;omega
    · rw [e2] at e;injection e with e;cases e
    · rw [e2] at e;injection e with e;cases e
  obtain ⟨z,e2,hz⟩:=A3M (I4 I8 w) (fun l=>((w.2.1.length:Int)-l.1).toNat) (fun l=>0≤l.1) (fun z=>z=.inl ()∨z=.inr (false,())) (fun l h0=>by
    rcases (C0T w h l h0).2 with ⟨y',e2,e3,e4⟩ | e2 | e2
    · exact .inl ⟨y',e2,by omega,by omega⟩
    · exact .inr ⟨_,e2,.inl rfl⟩
    · exact .inr ⟨_,e2,.inr rfl⟩) (0,()) (by simp)
  simp only [T7,A4C,A1s,A9y,e1,e2]
  rcases hz with rfl | rfl
  · simp only [C3]
    by_cases h1:(w.2.1.length:Int)≤6
    · rw [A0 h1]
      by_cases h2:(w.2.2.1.length:Int)=(w.2.1.length:Int)
      · rw [A0 h2]
        refine ⟨_,rfl,rfl,fun e=>?_⟩
        have e3:=of_decide_eq_true e
        omega
      · rw [A4 h2]
        exact ⟨_,rfl,rfl,fun e=>by cases e⟩
    · rw [A4 h1]
      exact ⟨_,rfl,rfl,fun e=>by cases e⟩
  · exact ⟨_,rfl,rfl,fun e=>by cases e⟩
def C3h(n:Nat)(a:D5):Bool:=A36 a.2.1&&decide (0≤a.1∧a.1≤(n:Int)-1)
def E9h(w:A6):Prop:=B5K w.1.1.1.1∧w.1.2.length≤1048576∧E4D w∧(w.2.2.2.1.length≤1048576∧∀ a∈w.2.2.2.1,a.2.1.2.1.size≤maxLen)∧w.2.2.2.2.1.length≤1048576
theorem E0R(w:A6)(h:E9h w):∃ b,Z2 w=some (b,())∧A3G w=some (b,()):=by
  obtain ⟨h1,h2,h3,⟨h4,h4'⟩,h5⟩:=h
  have hc:=h3.1
  obtain ⟨bs,es,ei,_⟩:=C3f w.1 h1 h2
  obtain ⟨bc,cs,ci,_⟩:=C7t w h3
  have ht:=C0S w w.2.2.2.2.1 (by simp only [maxLen];omega) hc
  have ht':=D6p w w.2.2.2.2.1 (by simp only [maxLen];omega) hc
  have hh:=C0S w w.1.2 (by simp only [maxLen];omega) hc
  have hh':=D6p w w.1.2 (by simp only [maxLen];omega) hc
  have hloop:=C3a (X1 A50 E4 w) w.2.2.2.1.length (by simp only [maxLen];omega) (fun i=>C3h w.2.1.length (rd B8 w.2.2.2.1 (i:Int))) (fun i hi=>by
    have g1:((i:Int)<(w.2.2.2.1.length:Int)):=by omega
    have g2:(0:Int)≤(i:Int):=by omega
    have hsz:(rd B8 w.2.2.2.1 (i:Int)).2.1.2.1.size≤maxLen:=by
      rw [D0 (k:=B8) (xs:=w.2.2.2.1) hi]
      exact h4' _ (List.getElem_mem hi)
    simp only [X1,A0 g1,A0 g2,cond_true,Q7,C7r _ hsz,A3,C3h]
    rw [w64 (n:=(w.2.1.length:Int)-1) (by omega) (by omega)]
    cases decide (0≤(rd B8 w.2.2.2.1 (i:Int)).1∧(rd B8 w.2.2.2.1 (i:Int)).1≤(w.2.1.length:Int)-1)<;>cases A36 (rd B8 w.2.2.2.1 (i:Int)).2.1<;>rfl) (by simp [X1])
  have istep:∀ i:Nat,i<w.2.2.2.1.length→A5J A3F C5 w ((i:Int),())=bif C3h w.2.1.length (rd B8 w.2.2.2.1 (i:Int)) then some (.inl (((i+1:Nat):Int),())) else some (.inr (.inr (false,()))):=fun i hi=>by
    have g1:((i:Int)<(w.2.2.2.1.length:Int)):=by omega
    have g2:(0:Int)≤(i:Int):=by omega
    have hsz:(rd B8 w.2.2.2.1 (i:Int)).2.1.2.1.size≤maxLen:=by
      rw [D0 (k:=B8) (xs:=w.2.2.2.1) hi]
      exact h4' _ (List.getElem_mem hi)
    have e1:((i+1:Nat):Int)=(i:Int)+1:=by omega
    simp only [A5J,A0 g1,A0 g2,cond_true,K7,C7s _ hsz,A3,C3h,e1]
    rw [w64 (n:=(w.2.1.length:Int)-1) (by omega) (by omega),w64 (n:=(i:Int)+1) (by omega) (by omega)]
    cases decide (0≤(rd B8 w.2.2.2.1 (i:Int)).1∧(rd B8 w.2.2.2.1 (i:Int)).1≤(w.2.1.length:Int)-1)<;>cases A36 (rd B8 w.2.2.2.1 (i:Int)).2.1<;>rfl
  simp only [Z2,A9G,A3G,B4W,es,ei,cs,ci,ht,ht',hh,hh',hloop,A3]
  have hirest:(bif A1O w.2.1.length w.2.2.2.2.1 then bif A1O w.2.1.length w.1.2 then some (bs,()) else some (false,()) else some (false,()))=some (A1O w.2.1.length w.2.2.2.2.1&&A1O w.2.1.length w.1.2&&bs,()):=by
    cases A1O w.2.1.length w.2.2.2.2.1<;>cases A1O w.2.1.length w.1.2<;>rfl
  have hi:=E88 istep (by simp [A5J]) (fun _=>(bif A1O w.2.1.length w.2.2.2.2.1 then bif A1O w.2.1.length w.1.2 then some (bs,()) else some (false,()) else some (false,()))) _ hirest
  rw [C7j] at hi
  generalize ((List.range w.2.2.2.1.length).all fun i=>C3h w.2.1.length (rd B8 w.2.2.2.1 (i:Int)))=ba at hi ⊢
  cases bc with
  | false=>
    cases bs<;>exact ⟨_,rfl,rfl⟩
  | true=>
    simp only [Bool.not_true,cond_false]
    cases decide ((w.2.2.2.1.length:Int)>60) with
    | true=>cases bs<;>exact ⟨_,rfl,rfl⟩
    | false=>
      cases decide ((w.2.2.2.2.1.length:Int)>60) with
      | true=>cases bs<;>exact ⟨_,rfl,rfl⟩
      | false=>
        simp only [cond_false]
        have e0:∀ g:Unit→Option (Bool×Unit),C3 (some (.inl ():Unit⊕(Bool×Unit))) g=g ():=fun g=>rfl
        simp only [e0]
        refine ⟨_,?_,hi⟩
        cases bs<;>cases A1O w.2.1.length w.2.2.2.2.1<;>cases A1O w.2.1.length w.1.2<;>simp [C3]
theorem E6k(a:List Bool)(h:a.length≤1048576):MH (A5b a) A5i (cost (fun _=>1) a):=by
  refine B6g A2n A2u (fun _=>1) a h (fun i hi m h0 h1=>?_) (fun m b hb=>by simp [A2n,hb]) (fun m b hb=>by simp [A2u,hb])
  have w1:IntKind.i64.wrap (m+1)=m+1:=w64 (by omega) (by omega)
  have wi:IntKind.i64.wrap ((i:Int)+1)=(i:Int)+1:=w64 (by omega) (by omega)
  have g1:(0:Int)≤(i:Int):=by omega
  refine ⟨m+1,decide (m.tmod 3=0),by omega,by omega,fun b hb e=>?_,fun b hb e=>?_⟩
  · have g2:(i:Int)<(b.length:Int):=by omega
    simp only [A2n,A0 g1,A0 g2,cond_true,Int.toNat_natCast,w1,wi]
  · have g2:(i:Int)<(b.length:Int):=by omega
    have hr:rd .bool b (i:Int)=decide (m.tmod 3=0):=by rw [E2z (by omega)];exact e
    simp only [A2u,A0 g1,A0 g2,cond_true,w1,wi,hr]
    simp
theorem E8F(a:List Int)(h:a.length≤1048576):MH (A79 a) A7C (cost (fun _=>1) a):=by
  refine B6g A43 A46 (fun _=>1) a h (fun i hi m h0 h1=>?_) (fun m b hb=>by simp [A43,hb]) (fun m b hb=>by simp [A46,hb])
  have w1:IntKind.i64.wrap (m+1)=m+1:=w64 (by omega) (by omega)
  have wi:IntKind.i64.wrap ((i:Int)+1)=(i:Int)+1:=w64 (by omega) (by omega)
  have g1:(0:Int)≤(i:Int):=by omega
  refine ⟨m+1,m,by omega,by omega,fun b hb e=>?_,fun b hb e=>?_⟩
  · have g2:(i:Int)<(b.length:Int):=by omega
    simp only [A43,A0 g1,A0 g2,cond_true,Int.toNat_natCast,w1,wi]
  · have g2:(i:Int)<(b.length:Int):=by omega
    have hr:rd (.int .i64) b (i:Int)=m:=by rw [C2N (by omega)];exact e
    simp only [A46,A0 g1,A0 g2,cond_true,w1,wi,hr]
    simp
theorem E0S(a:List B0)(h:a.length≤1048576):MH (A2m a) A2t (cost (fun u=>List.length u.2.1+3) a):=by
  refine B6g (A0g I2 D3) (A0i I3 D3) (fun u=>List.length u.2.1+3) a h (fun i hi m h0 h1=>?_) (fun m b hb=>by simp [A0g,hb]) (fun m b hb=>by simp [A0i,hb])
  obtain ⟨m1,d,e1,b1,b2,e2⟩:=C7n a[i].2.1 (m+1) (by omega) (by omega)
  have w1:IntKind.i64.wrap (m+1)=m+1:=w64 (by omega) (by omega)
  have w2:IntKind.i64.wrap (m1+1)=m1+1:=w64 (by omega) (by omega)
  have w3:IntKind.i64.wrap (m1+1+1)=m1+1+1:=w64 (by omega) (by omega)
  have wi:IntKind.i64.wrap ((i:Int)+1)=(i:Int)+1:=w64 (by omega) (by omega)
  have g1:(0:Int)≤(i:Int):=by omega
  have ht:=A6M m (by omega)
  refine ⟨m1+1+1,(mt m,d,m1,m1+1),by omega,by omega,fun b hb e=>?_,fun b hb e=>?_⟩
  · have hib:i<b.length:=by omega
    have g2:(i:Int)<(b.length:Int):=by omega
    have hr:rd B2 b (i:Int)=a[i]:=by rw [D0 (k:=B2) (xs:=b) (by omega)];exact e
    simp only [A0g,A3,ht,List.length_set,A0 g1,A0 g2,cond_true,Int.toNat_natCast,w1,w2,w3,wi,List.set_set,C7m (k:=B2) hib,hr,e1]
  · have g2:(i:Int)<(b.length:Int):=by omega
    have hr:rd B2 b (i:Int)=(mt m,d,m1,m1+1):=by rw [D0 (k:=B2) (xs:=b) (by omega)];exact e
    simp only [A0i,A3,ht,A0 g1,A0 g2,cond_true,w1,w2,w3,wi,hr,e2]
    rw [A4 (show ¬ m1<0 by omega)]
    simp
end Go.Proofs.YtpdcljonclhhpaaGreat.Ev
