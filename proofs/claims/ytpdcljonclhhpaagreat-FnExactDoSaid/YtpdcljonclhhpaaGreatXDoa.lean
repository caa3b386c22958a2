/- What the plain functions of the program and of the reference answer: laws of plain data. -/
import Derived.Test.YtpdcljonclhhpaaGreatPu
import Derived.Laws.Strings
namespace Go.Proofs.YtpdcljonclhhpaaGreat.Ev
theorem w64{n:Int}(h0:-9223372036854775808≤n)(h1:n<9223372036854775808):IntKind.i64.wrap n=n:=by
  simp only [IntKind.wrap,IntKind.bits,IntKind.signed,Bool.true_and]
  simp
  split<;>omega
theorem A0i{α β:Type}(f:α→Option (α⊕β))(μ:α→Nat)(I:α→Prop)(Q:β→Prop)
    (h:∀ x,I x→(∃ y,f x=some (.inl y)∧I y∧μ y<μ x)∨∃ z,f x=some (.inr z)∧Q z):∀ x,I x→∃ z,B8 f x=some z∧Q z:=by
  intro x
  generalize hn:μ x=n
  induction n using Nat.strongRecOn generalizing x with
  | ind n ih=>
    intro hx
    rw [R9]
    rcases h x hx with ⟨y,e,hy,hl⟩ | ⟨z,e,hz⟩
    · rw [e];exact ih (μ y) (by omega) y rfl hy
    · rw [e];exact ⟨z,rfl,hz⟩
theorem E0{α β:Type}(f:α→Option (α⊕β))(s:Nat→α)(n:Nat)(z:β)(h:∀ i,i<n→f (s i)=some (.inl (s (i+1))))(he:f (s n)=some (.inr z)):B8 f (s 0)=some z:=by
  have key:∀ k i,i+k=n→B8 f (s i)=some z:=by
    intro k
    induction k with
    | zero=>intro i hi;rw [R9,show i=n by omega,he]
    | succ k ih=>intro i hi;rw [R9,h i (by omega)];exact ih (i+1) (by omega)
  exact key n 0 (by omega)
theorem E1L{α β:Type}(f:α→Option (α⊕β))(s:Nat→α)(n:Nat)(z:Nat→β)(go:Nat→Bool)(h:∀ i,i<n→f (s i)=if go i then some (.inl (s (i+1))) else some (.inr (z i)))(he:f (s n)=some (.inr (z n))) :
    ∃ i,i≤n∧(∀ j,j<i→go j=true)∧(i<n→go i=false)∧B8 f (s 0)=some (z i):=by
  have key:∀ k i,i+k=n→(∀ j,j<i→go j=true)→∃ i',i'≤n∧(∀ j,j<i'→go j=true)∧(i'<n→go i' = false)∧B8 f (s i)=some (z i'):=by
    intro k
    induction k with
    | zero=>
      intro i hi hg
      obtain rfl:i=n:=by omega
      exact ⟨i,Nat.le_refl _,hg,fun h=>absurd h (by omega),by rw [R9,he]⟩
    | succ k ih=>
      intro i hi hg
      cases hgo:go i with
      | true=>
        obtain ⟨i',h1,h2,h3,h4⟩:=ih (i+1) (by omega) (fun j hj=>by
          by_cases h:j<i
          · exact hg j h
          · rw [show j=i by omega];exact hgo)
        refine ⟨i',h1,h2,h3,?_⟩
        rw [R9,h i (by omega),if_pos hgo]
        exact h4
      | false=>
        refine ⟨i,by omega,hg,fun _=>hgo,?_⟩
        rw [R9,h i (by omega),hgo]
        rfl
  exact key n 0 (by omega) (fun j hj=>by omega)
theorem F0z(s:ByteArray)(i:Int):0≤bt s i:=by unfold bt;omega
theorem F10(s:ByteArray)(i:Int):bt s i<256:=by
  have:=(s.data.toList.getD i.toNat 0).toNat_lt
  unfold bt;omega
theorem F0U(s:ByteArray)(i:Int):IntKind.i64.wrap (bt s i)=bt s i:=w64 (by have:=F0z s i;omega) (by have:=F10 s i;omega)
theorem C9{k:K}{xs:List k.T}{i:Nat}(h:i<xs.length):rd k xs (i:Int)=xs[i]:=by
  unfold rd
  rw [Int.toNat_natCast]
  simp [List.getD,h]
theorem C3N{κ:IntKind}{xs:List Int}{i:Nat}(h:i<xs.length):rd (.int κ) xs (i:Int)=xs[i]:=C9 (k:=.int κ) h
theorem E4D{xs:List Bool}{i:Nat}(h:i<xs.length):rd .bool xs (i:Int)=xs[i]:=C9 (k:=.bool) h
theorem A3M{xs:List ByteArray}{i:Nat}(h:i<xs.length):rd .str xs (i:Int)=xs[i]:=C9 (k:=.str) h
theorem F0V{κ:IntKind}{n:Int}(h:Wf (.int κ) n):κ.min≤n∧n≤κ.max:=by
  simp only [Wf,Lit.wf,Bool.and_eq_true,decide_eq_true_eq] at h
  exact h
theorem wf_u8{n:Int}(h:Wf (.int .u8) n):0≤n∧n<256:=by
  have:=F0V h
  simp only [IntKind.min,IntKind.max,IntKind.signed,IntKind.bits] at this
  simp at this
  omega
def Byt(a:List Int):Prop:=∀ x∈a,0≤x∧x<256
theorem E1M{a:List Int}(h:∀ x∈a,Wf (.int .u8) x):Byt a:=fun x hx=>wf_u8 (h x hx)
theorem pe{α β:Type}(p:α×β):(p.1,p.2)=p:=rfl
theorem A0{p:Prop} [Decidable p] (h:p):decide p=true:=decide_eq_true h
theorem A4{p:Prop} [Decidable p] (h:¬ p):decide p=false:=decide_eq_false h
def Sm(N:Nat):(k:K)→k.T→Prop
  | .int _,_=>True
  | .bool,_=>True
  | .fnc _,_=>True
  | .str,s=>s.size≤N
  | .sl _ k,xs=>xs.length≤N∧∀ x∈xs,Sm N k x
  | .rs _ k,xs=>xs.length≤N∧∀ x∈xs,Sm N k x
  | .pair a b,x=>Sm N a x.1∧Sm N b x.2
theorem D3w:∀ {k:K} {x:k.T},Wf k x→Sm maxLen k x
  | .int _,_,_=>trivial
  | .bool,_,_=>trivial
  | .fnc _,_,_=>trivial
  | .str,_,h=>h
  | .sl _ _,_,h=>⟨h.1,fun x hx=>D3w (h.2 x hx)⟩
  | .rs _ _,_,h=>⟨h.1,fun x hx=>D3w (h.2 x hx)⟩
  | .pair _ _,_,h=>⟨D3w h.1,D3w h.2⟩
theorem Sm.l{N:Nat}{a b:K}{x:(K.pair a b).T}(h:Sm N (.pair a b) x):Sm N a x.1:=h.1
theorem Sm.r{N:Nat}{a b:K}{x:(K.pair a b).T}(h:Sm N (.pair a b) x):Sm N b x.2:=h.2
def B3c(P:Int→Option (Int×Unit))(S:Prop):Prop:=∀ l:Int,0≤l→l≤1048576→∃ r,P l=some (r,())∧r≤l∧(0≤r→S)
theorem C7a{T:Type}(f:T→Int→Option (Int×Unit))(S:T→Prop)(L:Int×Int×Unit→Option ((Int×Int×Unit)⊕(Int×Unit)))(a:List T)(hn:a.length≤maxLen)(hf:∀ x∈a,B3c (f x) (S x))
    (hs:∀ (i:Nat) (hi:i<a.length) (l:Int),L (l,(i:Int),())=A3 (f a[i] l) fun c=>bif decide (c.1<0) then some (.inr (-1,())) else some (.inl (c.1,IntKind.i64.wrap ((i:Int)+1),())))
    (he:∀ l,L (l,(a.length:Int),())=some (.inr (l,()))):B3c (fun l=>B8 L (l,0,())) (∀ x∈a,S x):=by
  have key:∀ k i,i+k=a.length→∀ l:Int,0≤l→l≤1048576→∃ r,B8 L (l,(i:Int),())=some (r,())∧r≤l∧(0≤r→∀ j (hj:j<a.length),i≤j→S a[j]):=by
    intro k
    induction k with
    | zero=>
      intro i hi l h0 h1
      obtain rfl:i=a.length:=by omega
      exact ⟨l,by rw [R9,he],Int.le_refl _,fun _ j hj hi=>by omega⟩
    | succ k ih=>
      intro i hi l h0 h1
      have hlt:i<a.length:=by omega
      obtain ⟨r,e,h2,h3⟩:=hf a[i] (List.getElem_mem hlt) l h0 h1
      rw [R9,hs i hlt,e]
      simp only [A3]
      by_cases hr:r<0
      · rw [A0 hr]
        exact ⟨-1,rfl,by omega,fun h=>by omega⟩
      · rw [A4 hr]
        simp only [cond_false]
        rw [w64 (by omega) (by simp only [maxLen] at hn;omega)]
        obtain ⟨r',e',h4,h5⟩:=ih (i+1) (by omega) r (by omega) (by omega)
        refine ⟨r',by simpa using e',by omega,fun h j hj hij=>?_⟩
        by_cases hji:j=i
        · subst hji;exact h3 (by omega)
        · exact h5 h j hj (by omega)
  intro l h0 h1
  obtain ⟨r,e,h2,h3⟩:=key a.length 0 (by omega) l h0 h1
  refine ⟨r,by simpa using e,h2,fun h x hx=>?_⟩
  obtain ⟨j,hj,rfl⟩:=List.getElem_of_mem hx
  exact h3 h j hj (by omega)
theorem B3d(L:Int×Unit→Option ((Int×Unit)⊕(Bool×Unit)))(n:Nat)(hn:n≤maxLen)(hs:∀ i:Nat,i<n→L ((i:Int),())=some (.inl (IntKind.i64.wrap ((i:Int)+1),())))
    (he:L ((n:Int),())=some (.inr (true,()))):B8 L (0,())=some (true,()):=by
  refine E0 L (fun i=>((i:Int),())) n (true,()) (fun i hi=>?_) he
  rw [hs i hi,w64 (by omega) (by simp only [maxLen] at hn;omega)]
  rfl
theorem B3e{T:Type}(L:Int×List T×Unit→Option ((Int×List T×Unit)⊕(List T×Unit)))(a:List T)(z:T)(hn:a.length≤maxLen)
    (hs:∀ (i:Nat) (hi:i<a.length) (b:List T),b.length=a.length→L ((i:Int),b,())=some (.inl (IntKind.i64.wrap ((i:Int)+1),b.set i a[i],())))
    (he:∀ b,L ((a.length:Int),b,())=some (.inr (b,()))):B8 L (0,List.replicate a.length z,())=some (a,()):=by
  have key:=E0 L (fun i=>((i:Int),a.take i++List.replicate (a.length-i) z,())) a.length (a,()) (fun i hi=>?_) ?_
  · simpa using key
  · have hl:(a.take i++List.replicate (a.length-i) z).length=a.length:=by simp;omega
    rw [hs i hi _ hl,w64 (by omega) (by simp only [maxLen] at hn;omega)]
    have:(a.take i++List.replicate (a.length-i) z).set i a[i]=a.take (i+1)++List.replicate (a.length-(i+1)) z:=by
      rw [List.set_append_right _ _ (by simp;omega)]
      rw [List.take_succ_eq_append_getElem hi,List.append_assoc]
      congr 1
      rw [show (a.take i).length=i by simp;omega,Nat.sub_self,show a.length-i=(a.length-(i+1))+1 by omega,List.replicate_succ]
      rfl
    rw [this]
    rfl
  · rw [he]
    simp
theorem B5u{α β:Type}{f g:α→Option (α⊕β)}(I:α→Prop)(h:∀ x,I x→f x=g x)(hI:∀ x y,I x→f x=some (.inl y)→I y):∀ n x,I x→A7R f n x=A7R g n x
  | 0,_,_=>rfl
  | n+1,x,hx=>by
    simp only [A7R,← h x hx]
    cases e:f x with
    | none=>rfl
    | some v=>
      cases v with
      | inl y=>exact B5u I h hI n y (hI x y hx e)
      | inr z=>rfl
theorem B09{α β:Type}{f g:α→Option (α⊕β)}(I:α→Prop)(h:∀ x,I x→f x=g x)(hI:∀ x y,I x→f x=some (.inl y)→I y){x:α}(hx:I x):B8 f x=B8 g x:=by
  cases e:B8 g x with
  | some z=>
    obtain ⟨n,hn⟩:=A5H e
    exact B51 (n:=n) (by rw [B5u I h hI n x hx];exact hn)
  | none=>
    cases e':B8 f x with
    | none=>rfl
    | some z=>
      obtain ⟨n,hn⟩:=A5H e'
      rw [B5u I h hI n x hx] at hn
      rw [B51 hn] at e
      cases e
def O7(go:Nat→Bool):Nat→Nat→Nat
  | i,0=>i
  | i,k+1=>if go i then O7 go (i+1) k else i
theorem C3O(go:Nat→Bool):∀ k i,O7 go i k≤i+k
  | 0,i=>Nat.le_refl _
  | k+1,i=>by
    simp only [O7]
    split
    · have:=C3O go k (i+1);omega
    · omega
theorem B3f(go:Nat→Bool):∀ k i,O7 go i k<i+k→go (O7 go i k)=false
  | 0,i,h=>by simp [O7] at h
  | k+1,i,h=>by
    simp only [O7] at h ⊢
    split
    · rename_i hg
      rw [if_pos hg] at h
      exact B3f go k (i+1) (by omega)
    · rename_i hg
      simpa using hg
theorem A3g{α β:Type}(f:α→Option (α⊕β))(s:Nat→α)(n:Nat)(z:Nat→β)(go:Nat→Bool)(h:∀ i,i<n→f (s i)=if go i then some (.inl (s (i+1))) else some (.inr (z i)))(he:f (s n)=some (.inr (z n))) :
    B8 f (s 0)=some (z (O7 go 0 n)):=by
  have key:∀ k i,i+k=n→B8 f (s i)=some (z (O7 go i k)):=by
    intro k
    induction k with
    | zero=>
      intro i hi
      obtain rfl:i=n:=by omega
      rw [R9,he]
      rfl
    | succ k ih=>
      intro i hi
      rw [R9,h i (by omega)]
      simp only [O7]
      cases go i with
      | true=>simp only [if_true];exact ih (i+1) (by omega)
      | false=>rfl
  exact key n 0 (by omega)
theorem C4X(L:Int×Unit→Option ((Int×Unit)⊕(Bool×Unit)))(n:Nat)(hn:n≤maxLen)(go:Nat→Bool)(hs:∀ i:Nat,i<n→L ((i:Int),())=bif go i then some (.inl (IntKind.i64.wrap ((i:Int)+1),())) else some (.inr (false,())))
    (he:L ((n:Int),())=some (.inr (true,()))):B8 L (0,())=some ((List.range n).all go,()):=by
  have h:=A3g L (fun i=>((i:Int),())) n (fun i=>(decide (i=n),())) go (fun i hi=>by
    rw [hs i hi,w64 (by omega) (by simp only [maxLen] at hn;omega)]
    cases go i with
    | true=>rfl
    | false=>simp only [Bool.false_eq_true,if_false,cond_false];rw [A4 (by omega)]) (by rw [he];simp)
  have h':B8 L (0,())=some (decide (O7 go 0 n=n),()):=h
  rw [h']
  have key:∀ k i,decide (O7 go i k=i+k)=((List.range k).all fun j=>go (i+j)):=by
    intro k
    induction k with
    | zero=>intro i;simp [O7]
    | succ k ih=>
      intro i
      have e:((List.range (k+1)).all fun j=>go (i+j))=(go i&&(List.range k).all fun j=>go (i+1+j)):=by
        rw [List.range_succ_eq_map,List.all_cons,List.all_map]
        simp only [Nat.add_zero]
        congr 2
        funext j
        simp only [Function.comp]
        congr 1
        omega
      rw [e,← ih (i+1)]
      by_cases hg:go i=true
      · have e1:O7 go i (k+1)=O7 go (i+1) k:=by simp only [O7];rw [if_pos hg]
        rw [Bool.eq_iff_iff,hg]
        simp only [decide_eq_true_eq,Bool.true_and,e1]
        omega
      · have e1:O7 go i (k+1)=i:=by simp only [O7];rw [if_neg hg]
        rw [Bool.eq_iff_iff]
        simp only [decide_eq_true_eq,Bool.and_eq_true,e1]
        constructor
        · intro h;omega
        · intro h;exact absurd h.1 hg
  have k0:=key n 0
  simp only [Nat.zero_add] at k0
  rw [k0]
theorem D5C(a:List Int)(h:a.length≤maxLen):T3 a a=some (true,()):=by
  simp only [T3,B5h]
  simp only [decide_true,Bool.not_true,cond_false]
  refine E0 (A65 a a) (fun i=>((i:Int),())) a.length (true,()) (fun i hi=>?_) ?_
  · have h1:((i:Int)<(a.length:Int)):=by omega
    have h2:(0:Int)≤(i:Int):=by omega
    simp only [A65,A0 h1,A0 h2,cond_true,decide_true,Bool.not_true,cond_false]
    rw [w64 (by omega) (by simp only [maxLen] at h;omega)]
    rfl
  · simp [A65]
theorem E1N(a:List Int)(h:a.length≤281474976710656):T2 a=some (a,()):=by
  simp only [T2,B5Y]
  have h1:(0:Int)≤(a.length:Int):=by omega
  rw [A0 h1,Int.toNat_natCast,A0 (show a.length≤9223372036854775807 by omega),A0 (show 1*a.length≤281474976710656 by omega)]
  simp only [cond_true]
  have key:=E0 (A62 a) (fun i=>((i:Int),a.take i++List.replicate (a.length-i) 0,())) a.length (a,()) (fun i hi=>?_) ?_
  · simpa using key
  · have h1:((i:Int)<(a.length:Int)):=by omega
    have h2:(0:Int)≤(i:Int):=by omega
    have hl:(a.take i++List.replicate (a.length-i) (0:Int)).length=a.length:=by simp;omega
    simp only [A62,hl,A0 h1,A0 h2,cond_true]
    rw [w64 (by omega) (by omega),Int.toNat_natCast,C9 hi]
    have:(a.take i++List.replicate (a.length-i) (0:Int)).set i a[i]=a.take (i+1)++List.replicate (a.length-(i+1)) 0:=by
      rw [List.set_append_right _ _ (by simp;omega)]
      rw [List.take_succ_eq_append_getElem hi,List.append_assoc]
      congr 1
      rw [show (a.take i).length=i by simp;omega,Nat.sub_self,show a.length-i=(a.length-(i+1))+1 by omega,List.replicate_succ]
      rfl
    rw [this]
    rfl
  · simp [A62]
abbrev O8:=ByteArray×List Int×Int×Int
theorem E1O(a:List Int)(l:Int)(h0:l≤1048576)(h1:0≤l)(h:a.length≤maxLen):T1 a l=some (if (a.length:Int)≤l then (l-a.length:Int) else -1,()):=by
  simp only [T1,B5R,maxLen] at *
  rw [w64 (by omega) (by omega)]
  split
  · rw [A4 (by omega)];rfl
  · rw [A0 (by omega)];rfl
def marked(m:Int)(n:Nat):List Int:=(List.range n).map fun j=>IntKind.u8.wrap (m+(j:Nat))
theorem D5D(a:List Int)(m:Int)(h0:0≤m)(h:m+a.length<9223372036854775808):I7 a m=some (m+a.length,marked m a.length,()):=by
  simp only [I7,B15]
  have key:=E0 A30 (fun i=>(m+(i:Int),(i:Int),marked m i++a.drop i,())) a.length (m+a.length,marked m a.length,()) (fun i hi=>?_) ?_
  · simpa [marked] using key
  · have h1:((i:Int)<(a.length:Int)):=by omega
    have h2:(0:Int)≤(i:Int):=by omega
    have hl:(marked m i++a.drop i).length=a.length:=by simp [marked];omega
    simp only [A30,hl,A0 h1,A0 h2,cond_true]
    rw [w64 (by omega) (by omega),w64 (by omega) (by omega),Int.toNat_natCast]
    have:(marked m i++a.drop i).set i (IntKind.u8.wrap (m+(i:Int)))=marked m (i+1)++a.drop (i+1):=by
      rw [List.set_append_right _ _ (by simp [marked])]
      rw [show (marked m i).length=i by simp [marked],Nat.sub_self,List.drop_eq_getElem_cons hi,List.set_cons_zero]
      simp [marked,List.range_succ]
    rw [this]
    simp only [Int.natCast_add,Int.natCast_one,Int.add_assoc]
  · simp [A30,marked]
theorem D5E(n:Nat)(m:Int)(h0:0≤m)(h:m+n<9223372036854775808):I8 (marked m n) m=some (m+n,()):=by
  simp only [I8,B18]
  have hl:(marked m n).length=n:=by simp [marked]
  have key:=E0 (A36 (marked m n)) (fun i=>(m+(i:Int),(i:Int),())) n (m+n,()) (fun i hi=>?_) ?_
  · simpa [marked] using key
  · have h1:((i:Int)<(n:Int)):=by omega
    have h2:(0:Int)≤(i:Int):=by omega
    simp only [A36,hl,A0 h1,A0 h2,cond_true]
    have hr:rd (.int .u8) (marked m n) (i:Int)=IntKind.u8.wrap (m+(i:Int)):=by
      rw [C9 (by rw [hl];exact hi)]
      simp [marked]
    rw [hr,w64 (by omega) (by omega),w64 (by omega) (by omega)]
    simp only [decide_true,Bool.not_true,cond_false,Int.natCast_add,Int.natCast_one,Int.add_assoc]
  · simp [A36,hl]
theorem C0K(a:List Int)(h:Sm maxLen (.sl 0 (.int .u8)) a):B3c (T1 a) (Sm 1048576 (.sl 0 (.int .u8)) a):=by
  intro l h0 h1
  refine ⟨_,E1O a l h1 h0 h.1,?_,fun hr=>⟨?_,fun x _=>trivial⟩⟩
  · split<;>omega
  · split at hr<;>omega
theorem C0L(a:List Int)(h:Sm 1048576 (.sl 0 (.int .u8)) a):T2 a=some (a,()):=E1N a (by have:=h.1;omega)
theorem C0M(a:List Int)(h:Sm maxLen (.sl 0 (.int .u8)) a):T3 a a=some (true,()):=D5C a h.1
theorem C8S(a:List Bool)(h:Sm maxLen (.sl 4 .bool) a):B3c (A1O a) (Sm 1048576 (.sl 4 .bool) a):=by
  have hl:a.length≤9223372036854775807:=h.1
  intro l h0 h1
  simp only [A1O,B5V]
  rw [w64 (by omega) (by omega)]
  by_cases hn:l-(a.length:Int)<0
  · rw [A0 hn];exact ⟨-1,rfl,by omega,fun h=>by omega⟩
  rw [A4 hn];simp only [cond_false]
  exact ⟨_,rfl,by omega,fun _=>⟨by omega,fun x _=>by simp [Sm]⟩⟩
theorem D7d(a:B2)(h:Sm maxLen B1 a):B3c (A0K a) (Sm 1048576 B1 a):=by
  intro l h0 h1
  simp only [A0K,B3J]
  have z1:a.1.size≤9223372036854775807:=(Sm.l h)
  rw [w64 (n:=l-(a.1.size:Int)) (by omega) (by omega)]
  by_cases n1:l-(a.1.size:Int)<0
  · rw [A0 n1];exact ⟨-1,rfl,by omega,fun h=>by omega⟩
  rw [A4 n1];simp only [cond_false]
  obtain ⟨r2,e2,u2,v2⟩:=C0K a.2.1 (Sm.l (Sm.r h)) (l-(a.1.size:Int)) (by omega) (by omega)
  rw [e2];simp only [A3]
  by_cases n2:r2<0
  · rw [A0 n2];exact ⟨-1,rfl,by omega,fun h=>by omega⟩
  rw [A4 n2];simp only [cond_false]
  exact ⟨_,rfl,by omega,fun _=>⟨by show a.1.size≤1048576;omega,⟨v2 (by omega),⟨by simp [Sm],by simp [Sm]⟩⟩⟩⟩
theorem D5F(a:List B2)(h:Sm maxLen (.sl 218 B1) a):B3c (A2G a) (Sm 1048576 (.sl 218 B1) a):=by
  have hl:a.length≤9223372036854775807:=h.1
  intro l h0 h1
  simp only [A2G,B0u]
  rw [w64 (by omega) (by omega)]
  by_cases hn:l-(a.length:Int)<0
  · rw [A0 hn];exact ⟨-1,rfl,by omega,fun h=>by omega⟩
  rw [A4 hn];simp only [cond_false]
  obtain ⟨r,e,h2,h3⟩:=C7a A0K (fun x=>Sm 1048576 B1 x) (A2y A0K a) a h.1 (fun x hx=>D7d x (h.2 x hx)) (by
    intro i hi l
    have g1:((i:Int)<(a.length:Int)):=by omega
    have g2:(0:Int)≤(i:Int):=by omega
    simp only [A2y,A0 g1,A0 g2,cond_true]
    rw [C9 (k:=B1) (xs:=a) hi]
    ) (fun l=>by simp [A2y]) (l-(a.length:Int)) (by omega) (by omega)
  exact ⟨r,e,by omega,fun h=>⟨by omega,h3 h⟩⟩
theorem C15(a:List ByteArray)(h:Sm maxLen (.sl 9 .str) a):B3c (A2F a) (Sm 1048576 (.sl 9 .str) a):=by
  have hl:a.length≤9223372036854775807:=h.1
  intro l h0 h1
  simp only [A2F,B0t]
  rw [w64 (by omega) (by omega)]
  by_cases hn:l-(a.length:Int)<0
  · rw [A0 hn];exact ⟨-1,rfl,by omega,fun h=>by omega⟩
  rw [A4 hn];simp only [cond_false]
  obtain ⟨r,e,h2,h3⟩:=C7a (fun (x:ByteArray) l=>some (IntKind.i64.wrap (l-(x.size:Int)),())) (fun x=>Sm 1048576 .str x) (A2x a) a h.1 (fun x hx l h0 h1=>⟨_,rfl,by have:=h.2 x hx;simp only [Sm,maxLen] at this;rw [w64 (by omega) (by omega)];omega,fun hr=>by have:=h.2 x hx;simp only [Sm,maxLen] at this ⊢;rw [w64 (by omega) (by omega)] at hr;omega⟩) (by
    intro i hi l
    have g1:((i:Int)<(a.length:Int)):=by omega
    have g2:(0:Int)≤(i:Int):=by omega
    simp only [A2x,A0 g1,A0 g2,cond_true]
    rw [A3M (xs:=a) hi]
    rfl
    ) (fun l=>by simp [A2x]) (l-(a.length:Int)) (by omega) (by omega)
  exact ⟨r,e,by omega,fun h=>⟨by omega,h3 h⟩⟩
theorem E5F(a:D5)(h:Sm maxLen A0M a):B3c (A8g a) (Sm 1048576 A0M a):=by
  intro l h0 h1
  simp only [A8g,C07]
  obtain ⟨r1,e1,u1,v1⟩:=C15 a.1 (Sm.l h) l (by omega) (by omega)
  rw [e1];simp only [A3]
  by_cases n1:r1<0
  · rw [A0 n1];exact ⟨-1,rfl,by omega,fun h=>by omega⟩
  rw [A4 n1];simp only [cond_false]
  obtain ⟨r2,e2,u2,v2⟩:=C15 a.2 (Sm.r h) r1 (by omega) (by omega)
  rw [e2];simp only [A3]
  by_cases n2:r2<0
  · rw [A0 n2];exact ⟨-1,rfl,by omega,fun h=>by omega⟩
  rw [A4 n2];simp only [cond_false]
  exact ⟨_,rfl,by omega,fun _=>⟨v1 (by omega),v2 (by omega)⟩⟩
theorem E1P(a:L0)(h:Sm maxLen A5J a):B3c (A6q a) (Sm 1048576 A5J a):=by
  intro l h0 h1
  simp only [A6q,B5q]
  obtain ⟨r1,e1,u1,v1⟩:=C8S a.2.2 (Sm.r (Sm.r h)) l (by omega) (by omega)
  rw [e1];simp only [A3]
  by_cases n1:r1<0
  · rw [A0 n1];exact ⟨-1,rfl,by omega,fun h=>by omega⟩
  rw [A4 n1];simp only [cond_false]
  exact ⟨_,rfl,by omega,fun _=>⟨by simp [Sm],⟨by simp [Sm],v1 (by omega)⟩⟩⟩
theorem C8T(a:List B9)(h:Sm maxLen (.sl 203 A9) a):B3c (A1N a) (Sm 1048576 (.sl 203 A9) a):=by
  have hl:a.length≤9223372036854775807:=h.1
  intro l h0 h1
  simp only [A1N,B5U]
  rw [w64 (by omega) (by omega)]
  by_cases hn:l-(a.length:Int)<0
  · rw [A0 hn];exact ⟨-1,rfl,by omega,fun h=>by omega⟩
  rw [A4 hn];simp only [cond_false]
  exact ⟨_,rfl,by omega,fun _=>⟨by omega,fun x _=>by simp [Sm]⟩⟩
theorem E5G(a:List Int)(h:Sm maxLen (.sl 3 (.int .i64)) a):B3c (A8j a) (Sm 1048576 (.sl 3 (.int .i64)) a):=by
  have hl:a.length≤9223372036854775807:=h.1
  intro l h0 h1
  simp only [A8j,C09]
  rw [w64 (by omega) (by omega)]
  by_cases hn:l-(a.length:Int)<0
  · rw [A0 hn];exact ⟨-1,rfl,by omega,fun h=>by omega⟩
  rw [A4 hn];simp only [cond_false]
  exact ⟨_,rfl,by omega,fun _=>⟨by omega,fun x _=>by simp [Sm]⟩⟩
theorem E7l(a:V2)(h:Sm maxLen L5 a):B3c (B1l a) (Sm 1048576 L5 a):=by
  intro l h0 h1
  simp only [B1l,C3I]
  have z1:a.2.1.size≤9223372036854775807:=(Sm.l (Sm.r h))
  rw [w64 (n:=l-(a.2.1.size:Int)) (by omega) (by omega)]
  by_cases n1:l-(a.2.1.size:Int)<0
  · rw [A0 n1];exact ⟨-1,rfl,by omega,fun h=>by omega⟩
  rw [A4 n1];simp only [cond_false]
  exact ⟨_,rfl,by omega,fun _=>⟨by simp [Sm],⟨by show a.2.1.size≤1048576;omega,by simp [Sm]⟩⟩⟩
theorem E9L(a:TUp)(h:Sm maxLen kUp a):B3c (A8h a) (Sm 1048576 kUp a):=by
  intro l h0 h1
  simp only [A8h,C8P]
  have z1:a.1.size≤9223372036854775807:=(Sm.l h)
  rw [w64 (n:=l-(a.1.size:Int)) (by omega) (by omega)]
  by_cases n1:l-(a.1.size:Int)<0
  · rw [A0 n1];exact ⟨-1,rfl,by omega,fun h=>by omega⟩
  rw [A4 n1];simp only [cond_false]
  obtain ⟨r2,e2,u2,v2⟩:=C0K a.2.2.1 (Sm.l (Sm.r (Sm.r h))) (l-(a.1.size:Int)) (by omega) (by omega)
  rw [e2];simp only [A3]
  by_cases n2:r2<0
  · rw [A0 n2];exact ⟨-1,rfl,by omega,fun h=>by omega⟩
  rw [A4 n2];simp only [cond_false]
  exact ⟨_,rfl,by omega,fun _=>⟨by show a.1.size≤1048576;omega,⟨by simp [Sm],⟨v2 (by omega),by simp [Sm]⟩⟩⟩⟩
theorem E7m(a:List TUp)(h:Sm maxLen (.sl 248 kUp) a):B3c (B1k a) (Sm 1048576 (.sl 248 kUp) a):=by
  have hl:a.length≤9223372036854775807:=h.1
  intro l h0 h1
  simp only [B1k,C3H]
  rw [w64 (by omega) (by omega)]
  by_cases hn:l-(a.length:Int)<0
  · rw [A0 hn];exact ⟨-1,rfl,by omega,fun h=>by omega⟩
  rw [A4 hn];simp only [cond_false]
  obtain ⟨r,e,h2,h3⟩:=C7a A8h (fun x=>Sm 1048576 kUp x) (A9r A8h a) a h.1 (fun x hx=>E9L x (h.2 x hx)) (by
    intro i hi l
    have g1:((i:Int)<(a.length:Int)):=by omega
    have g2:(0:Int)≤(i:Int):=by omega
    simp only [A9r,A0 g1,A0 g2,cond_true]
    rw [C9 (k:=kUp) (xs:=a) hi]
    ) (fun l=>by simp [A9r]) (l-(a.length:Int)) (by omega) (by omega)
  exact ⟨r,e,by omega,fun h=>⟨by omega,h3 h⟩⟩
theorem E1Q(a:A8)(h:Sm maxLen B7G a):B3c (A6h a) (Sm 1048576 B7G a):=by
  intro l h0 h1
  simp only [A6h,B5T]
  obtain ⟨r1,e1,u1,v1⟩:=E5F a.1 (Sm.l h) l (by omega) (by omega)
  rw [e1];simp only [A3]
  by_cases n1:r1<0
  · rw [A0 n1];exact ⟨-1,rfl,by omega,fun h=>by omega⟩
  rw [A4 n1];simp only [cond_false]
  obtain ⟨r2,e2,u2,v2⟩:=E7m a.2.2.2 (Sm.r (Sm.r (Sm.r h))) r1 (by omega) (by omega)
  rw [e2];simp only [A3]
  by_cases n2:r2<0
  · rw [A0 n2];exact ⟨-1,rfl,by omega,fun h=>by omega⟩
  rw [A4 n2];simp only [cond_false]
  exact ⟨_,rfl,by omega,fun _=>⟨v1 (by omega),⟨by simp [Sm],⟨by simp [Sm],v2 (by omega)⟩⟩⟩⟩
theorem D7e(a:C0)(h:Sm maxLen B1e a):B3c (A4P a) (Sm 1048576 B1e a):=by
  intro l h0 h1
  simp only [A4P,B3I]
  obtain ⟨r1,e1,u1,v1⟩:=E1Q a.1 (Sm.l h) l (by omega) (by omega)
  rw [e1];simp only [A3]
  by_cases n1:r1<0
  · rw [A0 n1];exact ⟨-1,rfl,by omega,fun h=>by omega⟩
  rw [A4 n1];simp only [cond_false]
  obtain ⟨r2,e2,u2,v2⟩:=C8T a.2 (Sm.r h) r1 (by omega) (by omega)
  rw [e2];simp only [A3]
  by_cases n2:r2<0
  · rw [A0 n2];exact ⟨-1,rfl,by omega,fun h=>by omega⟩
  rw [A4 n2];simp only [cond_false]
  exact ⟨_,rfl,by omega,fun _=>⟨v1 (by omega),v2 (by omega)⟩⟩
theorem E5H(a:D8)(h:Sm maxLen B7 a):B3c (A3L a) (Sm 1048576 B7 a):=by
  intro l h0 h1
  simp only [A3L,C08]
  obtain ⟨r1,e1,u1,v1⟩:=E7l a.2.1 (Sm.l (Sm.r h)) l (by omega) (by omega)
  rw [e1];simp only [A3]
  by_cases n1:r1<0
  · rw [A0 n1];exact ⟨-1,rfl,by omega,fun h=>by omega⟩
  rw [A4 n1];simp only [cond_false]
  obtain ⟨r2,e2,u2,v2⟩:=C0K a.2.2 (Sm.r (Sm.r h)) r1 (by omega) (by omega)
  rw [e2];simp only [A3]
  by_cases n2:r2<0
  · rw [A0 n2];exact ⟨-1,rfl,by omega,fun h=>by omega⟩
  rw [A4 n2];simp only [cond_false]
  exact ⟨_,rfl,by omega,fun _=>⟨by simp [Sm],⟨v1 (by omega),v2 (by omega)⟩⟩⟩
theorem E1R(a:List D8)(h:Sm maxLen (.sl 221 B7) a):B3c (A6i a) (Sm 1048576 (.sl 221 B7) a):=by
  have hl:a.length≤9223372036854775807:=h.1
  intro l h0 h1
  simp only [A6i,B5W]
  rw [w64 (by omega) (by omega)]
  by_cases hn:l-(a.length:Int)<0
  · rw [A0 hn];exact ⟨-1,rfl,by omega,fun h=>by omega⟩
  rw [A4 hn];simp only [cond_false]
  obtain ⟨r,e,h2,h3⟩:=C7a A3L (fun x=>Sm 1048576 B7 x) (A60 A3L a) a h.1 (fun x hx=>E5H x (h.2 x hx)) (by
    intro i hi l
    have g1:((i:Int)<(a.length:Int)):=by omega
    have g2:(0:Int)≤(i:Int):=by omega
    simp only [A60,A0 g1,A0 g2,cond_true]
    rw [C9 (k:=B7) (xs:=a) hi]
    ) (fun l=>by simp [A60]) (l-(a.length:Int)) (by omega) (by omega)
  exact ⟨r,e,by omega,fun h=>⟨by omega,h3 h⟩⟩
theorem E1S(a:A7)(h:Sm maxLen Y5 a):B3c (A6j a) (Sm 1048576 Y5 a):=by
  intro l h0 h1
  simp only [A6j,B5X]
  obtain ⟨r1,e1,u1,v1⟩:=D7e a.1 (Sm.l h) l (by omega) (by omega)
  rw [e1];simp only [A3]
  by_cases n1:r1<0
  · rw [A0 n1];exact ⟨-1,rfl,by omega,fun h=>by omega⟩
  rw [A4 n1];simp only [cond_false]
  obtain ⟨r2,e2,u2,v2⟩:=D5F a.2.1 (Sm.l (Sm.r h)) r1 (by omega) (by omega)
  rw [e2];simp only [A3]
  by_cases n2:r2<0
  · rw [A0 n2];exact ⟨-1,rfl,by omega,fun h=>by omega⟩
  rw [A4 n2];simp only [cond_false]
  obtain ⟨r3,e3,u3,v3⟩:=C8S a.2.2.1 (Sm.l (Sm.r (Sm.r h))) r2 (by omega) (by omega)
  rw [e3];simp only [A3]
  by_cases n3:r3<0
  · rw [A0 n3];exact ⟨-1,rfl,by omega,fun h=>by omega⟩
  rw [A4 n3];simp only [cond_false]
  obtain ⟨r4,e4,u4,v4⟩:=E1R a.2.2.2.1 (Sm.l (Sm.r (Sm.r (Sm.r h)))) r3 (by omega) (by omega)
  rw [e4];simp only [A3]
  by_cases n4:r4<0
  · rw [A0 n4];exact ⟨-1,rfl,by omega,fun h=>by omega⟩
  rw [A4 n4];simp only [cond_false]
  obtain ⟨r5,e5,u5,v5⟩:=C8T a.2.2.2.2.1 (Sm.l (Sm.r (Sm.r (Sm.r (Sm.r h))))) r4 (by omega) (by omega)
  rw [e5];simp only [A3]
  by_cases n5:r5<0
  · rw [A0 n5];exact ⟨-1,rfl,by omega,fun h=>by omega⟩
  rw [A4 n5];simp only [cond_false]
  obtain ⟨r6,e6,u6,v6⟩:=E5G a.2.2.2.2.2 (Sm.r (Sm.r (Sm.r (Sm.r (Sm.r h))))) r5 (by omega) (by omega)
  rw [e6];simp only [A3]
  by_cases n6:r6<0
  · rw [A0 n6];exact ⟨-1,rfl,by omega,fun h=>by omega⟩
  rw [A4 n6];simp only [cond_false]
  exact ⟨_,rfl,by omega,fun _=>⟨v1 (by omega),⟨v2 (by omega),⟨v3 (by omega),⟨v4 (by omega),⟨v5 (by omega),v6 (by omega)⟩⟩⟩⟩⟩⟩
theorem C8U(a:List Bool)(h:Sm 1048576 (.sl 4 .bool) a):A1Q a=some (a,()):=by
  have hl:a.length≤1048576:=h.1
  simp only [A1Q,B5e]
  rw [A0 (show (0:Int)≤(a.length:Int) by omega),Int.toNat_natCast,A0 (by omega),A0 (by omega)]
  simp only [cond_true]
  refine B3e _ a _ (by simp only [maxLen];omega) (fun i hi b hb=>?_) (fun b=>by simp [B0y])
  have h1:((i:Int)<(a.length:Int)):=by omega
  have h2:(0:Int)≤(i:Int):=by omega
  simp only [B0y,hb,A0 h1,A0 h2,cond_true]
  rw [E4D (xs:=a) hi]
  rfl
theorem D7f(a:B2)(h:Sm 1048576 B1 a):A4T a=some (a,()):=by
  simp only [A4T,B3O,A3,C0L a.2.1 (Sm.l (Sm.r h))]
theorem D5G(a:List B2)(h:Sm 1048576 (.sl 218 B1) a):A2I a=some (a,()):=by
  have hl:a.length≤1048576:=h.1
  simp only [A2I,B0x]
  rw [A0 (show (0:Int)≤(a.length:Int) by omega),Int.toNat_natCast,A0 (by omega),A0 (by omega)]
  simp only [cond_true]
  refine B3e _ a _ (by simp only [maxLen];omega) (fun i hi b hb=>?_) (fun b=>by simp [A7H])
  have h1:((i:Int)<(a.length:Int)):=by omega
  have h2:(0:Int)≤(i:Int):=by omega
  simp only [A7H,hb,A0 h1,A0 h2,cond_true]
  rw [C9 (k:=B1) (xs:=a) hi]
  rw [D7f _ (h.2 _ (List.getElem_mem hi))]
  rfl
theorem C16(a:List ByteArray)(h:Sm 1048576 (.sl 9 .str) a):A2H a=some (a,()):=by
  have hl:a.length≤1048576:=h.1
  simp only [A2H,B0v]
  rw [A0 (show (0:Int)≤(a.length:Int) by omega),Int.toNat_natCast,A0 (by omega),A0 (by omega)]
  simp only [cond_true]
  refine B3e _ a _ (by simp only [maxLen];omega) (fun i hi b hb=>?_) (fun b=>by simp [A7G])
  have h1:((i:Int)<(a.length:Int)):=by omega
  have h2:(0:Int)≤(i:Int):=by omega
  simp only [A7G,hb,A0 h1,A0 h2,cond_true]
  rw [A3M (xs:=a) hi]
  rfl
theorem E5I(a:D5)(h:Sm 1048576 A0M a):A8k a=some (a,()):=by
  simp only [A8k,C0A,A3,C16 a.1 (Sm.l h),C16 a.2 (Sm.r h)]
theorem E1T(a:L0)(h:Sm 1048576 A5J a):A6r a=some (a,()):=by
  simp only [A6r,B5r,A3,C8U a.2.2 (Sm.r (Sm.r h))]
theorem E5J(a:N6)(h:Sm 1048576 E9 a):A8l a=some (a,()):=by
  simp only [A8l,C0B,A3]
theorem E5K(a:B9)(h:Sm 1048576 A9 a):A8n a=some (a,()):=by
  simp only [A8n,C0C,A3,E5J a.2 (Sm.r h)]
theorem C8V(a:List B9)(h:Sm 1048576 (.sl 203 A9) a):A1P a=some (a,()):=by
  have hl:a.length≤1048576:=h.1
  simp only [A1P,B5d]
  rw [A0 (show (0:Int)≤(a.length:Int) by omega),Int.toNat_natCast,A0 (by omega),A0 (by omega)]
  simp only [cond_true]
  refine B3e _ a _ (by simp only [maxLen];omega) (fun i hi b hb=>?_) (fun b=>by simp [B0w])
  have h1:((i:Int)<(a.length:Int)):=by omega
  have h2:(0:Int)≤(i:Int):=by omega
  simp only [B0w,hb,A0 h1,A0 h2,cond_true]
  rw [C9 (k:=A9) (xs:=a) hi]
  rw [E5K _ (h.2 _ (List.getElem_mem hi))]
  rfl
theorem E5L(a:List Int)(h:Sm 1048576 (.sl 3 (.int .i64)) a):A8q a=some (a,()):=by
  have hl:a.length≤1048576:=h.1
  simp only [A8q,C0E]
  rw [A0 (show (0:Int)≤(a.length:Int) by omega),Int.toNat_natCast,A0 (by omega),A0 (by omega)]
  simp only [cond_true]
  refine B3e _ a _ (by simp only [maxLen];omega) (fun i hi b hb=>?_) (fun b=>by simp [B3P])
  have h1:((i:Int)<(a.length:Int)):=by omega
  have h2:(0:Int)≤(i:Int):=by omega
  simp only [B3P,hb,A0 h1,A0 h2,cond_true]
  rw [C3N (xs:=a) hi]
  rfl
theorem E7n(a:V2)(h:Sm 1048576 L5 a):B1n a=some (a,()):=by
  simp only [B1n,C3K,A3]
theorem E9M(a:TUp)(h:Sm 1048576 kUp a):B5a a=some (a,()):=by
  simp only [B5a,C8Q,A3,C0L a.2.2.1 (Sm.l (Sm.r (Sm.r h)))]
theorem E7o(a:List TUp)(h:Sm 1048576 (.sl 248 kUp) a):B1m a=some (a,()):=by
  have hl:a.length≤1048576:=h.1
  simp only [B1m,C3J]
  rw [A0 (show (0:Int)≤(a.length:Int) by omega),Int.toNat_natCast,A0 (by omega),A0 (by omega)]
  simp only [cond_true]
  refine B3e _ a _ (by simp only [maxLen];omega) (fun i hi b hb=>?_) (fun b=>by simp [B5b])
  have h1:((i:Int)<(a.length:Int)):=by omega
  have h2:(0:Int)≤(i:Int):=by omega
  simp only [B5b,hb,A0 h1,A0 h2,cond_true]
  rw [C9 (k:=kUp) (xs:=a) hi]
  rw [E9M _ (h.2 _ (List.getElem_mem hi))]
  rfl
theorem E1U(a:A8)(h:Sm 1048576 B7G a):A6k a=some (a,()):=by
  simp only [A6k,B5c,A3,E5I a.1 (Sm.l h),E7o a.2.2.2 (Sm.r (Sm.r (Sm.r h)))]
theorem D7g(a:C0)(h:Sm 1048576 B1e a):A4R a=some (a,()):=by
  simp only [A4R,B3N,A3,E1U a.1 (Sm.l h),C8V a.2 (Sm.r h)]
theorem E5M(a:D8)(h:Sm 1048576 B7 a):A8p a=some (a,()):=by
  simp only [A8p,C0D,A3,E7n a.2.1 (Sm.l (Sm.r h)),C0L a.2.2 (Sm.r (Sm.r h))]
theorem E1V(a:List D8)(h:Sm 1048576 (.sl 221 B7) a):A6l a=some (a,()):=by
  have hl:a.length≤1048576:=h.1
  simp only [A6l,B5f]
  rw [A0 (show (0:Int)≤(a.length:Int) by omega),Int.toNat_natCast,A0 (by omega),A0 (by omega)]
  simp only [cond_true]
  refine B3e _ a _ (by simp only [maxLen];omega) (fun i hi b hb=>?_) (fun b=>by simp [B0z])
  have h1:((i:Int)<(a.length:Int)):=by omega
  have h2:(0:Int)≤(i:Int):=by omega
  simp only [B0z,hb,A0 h1,A0 h2,cond_true]
  rw [C9 (k:=B7) (xs:=a) hi]
  rw [E5M _ (h.2 _ (List.getElem_mem hi))]
  rfl
theorem E1W(a:A7)(h:Sm 1048576 Y5 a):A6m a=some (a,()):=by
  simp only [A6m,B5g,A3,D7g a.1 (Sm.l h),D5G a.2.1 (Sm.l (Sm.r h)),C8U a.2.2.1 (Sm.l (Sm.r (Sm.r h))),E1V a.2.2.2.1 (Sm.l (Sm.r (Sm.r (Sm.r h)))),C8V a.2.2.2.2.1 (Sm.l (Sm.r (Sm.r (Sm.r (Sm.r h))))),E5L a.2.2.2.2.2 (Sm.r (Sm.r (Sm.r (Sm.r (Sm.r h)))))]
theorem C17(a:List Bool)(h:Sm maxLen (.sl 4 .bool) a):A1S a a=some (true,()):=by
  simp only [A1S,B5n,decide_true,Bool.not_true,cond_false]
  refine B3d _ a.length h.1 (fun i hi=>?_) (by simp [B13])
  have h1:((i:Int)<(a.length:Int)):=by omega
  have h2:(0:Int)≤(i:Int):=by omega
  simp only [B13,A0 h1,A0 h2,cond_true]
  simp
theorem D7h(a:B2)(h:Sm maxLen B1 a):A4W a a=some (true,()):=by
  simp [A4W,B3U,A3,C0M a.2.1 (Sm.l (Sm.r h))]
theorem C8W(a:List B2)(h:Sm maxLen (.sl 79 B1) a):A2K a a=some (true,()):=by
  simp only [A2K,B12,decide_true,Bool.not_true,cond_false]
  refine B3d _ a.length h.1 (fun i hi=>?_) (by simp [A7J])
  have h1:((i:Int)<(a.length:Int)):=by omega
  have h2:(0:Int)≤(i:Int):=by omega
  simp only [A7J,A0 h1,A0 h2,cond_true]
  rw [C9 (k:=B1) (xs:=a) hi,D7h _ (h.2 _ (List.getElem_mem hi))]
  rfl
theorem B5v(a:List ByteArray)(h:Sm maxLen (.sl 9 .str) a):A2J a a=some (true,()):=by
  simp only [A2J,B10,decide_true,Bool.not_true,cond_false]
  refine B3d _ a.length h.1 (fun i hi=>?_) (by simp [A7I])
  have h1:((i:Int)<(a.length:Int)):=by omega
  have h2:(0:Int)≤(i:Int):=by omega
  simp only [A7I,A0 h1,A0 h2,cond_true]
  simp
theorem D7i(a:D5)(h:Sm maxLen A0M a):A8r a a=some (true,()):=by
  simp [A8r,C0F,A3,B5v a.1 (Sm.l h),B5v a.2 (Sm.r h)]
theorem D5H(a:L0)(h:Sm maxLen A5J a):A6s a a=some (true,()):=by
  simp [A6s,B5s,A3,C17 a.2.2 (Sm.r (Sm.r h))]
theorem D7j(a:N6)(h:Sm maxLen E9 a):A8s a a=some (true,()):=by
  simp [A8s,C0G,A3]
theorem D7k(a:B9)(h:Sm maxLen A9 a):A8u a a=some (true,()):=by
  simp [A8u,C0H,A3,D7j a.2 (Sm.r h)]
theorem C18(a:List B9)(h:Sm maxLen (.sl 130 A9) a):A1R a a=some (true,()):=by
  simp only [A1R,B5m,decide_true,Bool.not_true,cond_false]
  refine B3d _ a.length h.1 (fun i hi=>?_) (by simp [B11])
  have h1:((i:Int)<(a.length:Int)):=by omega
  have h2:(0:Int)≤(i:Int):=by omega
  simp only [B11,A0 h1,A0 h2,cond_true]
  rw [C9 (k:=A9) (xs:=a) hi,D7k _ (h.2 _ (List.getElem_mem hi))]
  rfl
theorem D7l(a:List Int)(h:Sm maxLen (.sl 3 (.int .i64)) a):A8x a a=some (true,()):=by
  simp only [A8x,C0J,decide_true,Bool.not_true,cond_false]
  refine B3d _ a.length h.1 (fun i hi=>?_) (by simp [B3V])
  have h1:((i:Int)<(a.length:Int)):=by omega
  have h2:(0:Int)≤(i:Int):=by omega
  simp only [B3V,A0 h1,A0 h2,cond_true]
  simp
theorem E7p(a:V2)(h:Sm maxLen L5 a):B1p a a=some (true,()):=by
  simp [B1p,C3M,A3]
theorem E5N(a:TUp)(h:Sm maxLen kUp a):B5j a a=some (true,()):=by
  simp [B5j,C8R,A3,C0M a.2.2.1 (Sm.l (Sm.r (Sm.r h)))]
theorem E1X(a:List TUp)(h:Sm maxLen (.sl 109 kUp) a):B1o a a=some (true,()):=by
  simp only [B1o,C3L,decide_true,Bool.not_true,cond_false]
  refine B3d _ a.length h.1 (fun i hi=>?_) (by simp [B5k])
  have h1:((i:Int)<(a.length:Int)):=by omega
  have h2:(0:Int)≤(i:Int):=by omega
  simp only [B5k,A0 h1,A0 h2,cond_true]
  rw [C9 (k:=kUp) (xs:=a) hi,E5N _ (h.2 _ (List.getElem_mem hi))]
  rfl
theorem D5I(a:A8)(h:Sm maxLen A3z a):A6n a a=some (true,()):=by
  simp [A6n,B5l,A3,D7i a.1 (Sm.l h),E1X a.2.2.2 (Sm.r (Sm.r (Sm.r h)))]
theorem D1e(a:C0)(h:Sm maxLen A1l a):A4U a a=some (true,()):=by
  simp [A4U,B3T,A3,D5I a.1 (Sm.l h),C18 a.2 (Sm.r h)]
theorem D7m(a:D8)(h:Sm maxLen B7 a):A8w a a=some (true,()):=by
  simp [A8w,C0I,A3,E7p a.2.1 (Sm.l (Sm.r h)),C0M a.2.2 (Sm.r (Sm.r h))]
theorem D5J(a:List D8)(h:Sm maxLen (.sl 113 B7) a):A6o a a=some (true,()):=by
  simp only [A6o,B5o,decide_true,Bool.not_true,cond_false]
  refine B3d _ a.length h.1 (fun i hi=>?_) (by simp [B14])
  have h1:((i:Int)<(a.length:Int)):=by omega
  have h2:(0:Int)≤(i:Int):=by omega
  simp only [B14,A0 h1,A0 h2,cond_true]
  rw [C9 (k:=B7) (xs:=a) hi,D7m _ (h.2 _ (List.getElem_mem hi))]
  rfl
theorem C19(a:A7)(h:Sm maxLen A23 a):A6p a a=some (true,()):=by
  simp [A6p,B5p,A3,D1e a.1 (Sm.l h),C8W a.2.1 (Sm.l (Sm.r h)),C17 a.2.2.1 (Sm.l (Sm.r (Sm.r h))),D5J a.2.2.2.1 (Sm.l (Sm.r (Sm.r (Sm.r h)))),C18 a.2.2.2.2.1 (Sm.l (Sm.r (Sm.r (Sm.r (Sm.r h))))),D7l a.2.2.2.2.2 (Sm.r (Sm.r (Sm.r (Sm.r (Sm.r h)))))]
theorem Q3(a b c:Int):E3 a b c=some (decide (b≤a∧a≤c),()):=by
  simp only [E3,C8N]
  by_cases h:b≤a<;>by_cases h2:a≤c<;>simp [h,h2]
theorem L1(a b c:Int):C7 a b c=some (decide (b≤a∧a≤c),()):=Q3 a b c
def D5K(s:ByteArray)(i:Nat):Bool:=decide (97≤bt s i∧bt s i≤122)||decide (48≤bt s i∧bt s i≤57)
def idB(s:ByteArray):Bool:=(List.range s.size).all (D5K s)&&decide (1≤(s.size:Int)∧(s.size:Int)≤8)
theorem E1Y(s:ByteArray)(h:s.size≤maxLen)(i:Nat)(hi:i<s.size):A9c E3 s ((i:Int),())=if D5K s i then some (.inl (((i+1:Nat):Int),())) else some (.inr (.inr (false,()))):=by
  have h1:((i:Int)<(s.size:Int)):=by omega
  have h2:(0:Int)≤(i:Int):=by omega
  simp only [A9c,A0 h1,A0 h2,cond_true,F0U,Q3,A3]
  rw [w64 (by omega) (by simp only [maxLen] at h;omega)]
  unfold D5K
  cases decide (97≤bt s i∧bt s i≤122)<;>cases decide (48≤bt s i∧bt s i≤57)<;>simp
theorem E5O(s:ByteArray)(h:s.size≤maxLen)(i:Nat)(hi:i<s.size):B2r s ((i:Int),())=if D5K s i then some (.inl (((i+1:Nat):Int),())) else some (.inr (.inr (false,()))):=by
  have h1:((i:Int)<(s.size:Int)):=by omega
  have h2:(0:Int)≤(i:Int):=by omega
  simp only [B2r,A0 h1,A0 h2,cond_true]
  rw [w64 (by omega) (by simp only [maxLen] at h;omega)]
  unfold D5K
  by_cases a:bt s i≥97<;>by_cases b:bt s i≤122<;>by_cases c:bt s i≥48<;>by_cases d:bt s i≤57<;>simp [a,b,c,d]
theorem E9z{s:ByteArray}{f:Int×Unit→Option ((Int×Unit)⊕(Unit⊕(Bool×Unit)))}(hs:∀ i:Nat,i<s.size→f ((i:Int),())=if D5K s i then some (.inl (((i+1:Nat):Int),())) else some (.inr (.inr (false,()))))
    (he:f ((s.size:Int),())=some (.inr (.inl ()))) (g:Unit→Option (Bool×Unit)) (hg:g ()=some (decide (1≤(s.size:Int)∧(s.size:Int)≤8),())):C2 (B8 f (0,())) g=some (idB s,()):=by
  obtain ⟨i,h1,h2,h3,h4⟩:=E1L f (fun i=>((i:Int),())) s.size (fun i=>if i<s.size then .inr (false,()) else .inl ()) (D5K s) (fun i hi=>by
    simp only [if_pos hi];exact hs i hi) (by simp only [Nat.lt_irrefl,if_false];exact he)
  have h4':B8 f (0,())=some (if i<s.size then .inr (false,()) else .inl ()):=h4
  rw [h4']
  unfold idB
  by_cases hi:i<s.size
  · rw [if_pos hi]
    have:(List.range s.size).all (D5K s)=false:=by
      rw [List.all_eq_false]
      exact ⟨i,List.mem_range.2 hi,by simp [h3 hi]⟩
    simp [C2,this]
  · rw [if_neg hi]
    have:(List.range s.size).all (D5K s)=true:=by
      rw [List.all_eq_true]
      intro j hj
      exact h2 j (by have:=List.mem_range.1 hj;omega)
    simp only [C2,this,hg,Bool.true_and]
theorem A93(s:ByteArray)(h:s.size≤maxLen):N0 s=some (idB s,()):=by
  simp only [N0,C3D]
  exact E9z (E1Y s h) (by simp [A9c]) _ (by simp only [Q3,A3])
theorem B3g(s:ByteArray)(h:s.size≤maxLen):Q5 s=some (idB s,()):=by
  simp only [Q5,C8K]
  exact E9z (E5O s h) (by simp [B2r]) _ (by simp only [L1,A3])
def I9(c:O8):Bool:=idB c.1&&decide ((c.2.1.length:Int)≤400)&&decide (1≤c.2.2.1∧c.2.2.1≤6)&&decide (0≤c.2.2.2∧c.2.2.2≤(c.2.1.length:Int))
theorem A6M(c:O8)(h:c.1.size≤maxLen):H3 c=some (I9 c,()):=by
  simp only [H3,B3A,A93 _ h,Q3,A3,I9]
  cases idB c.1<;>cases decide ((c.2.1.length:Int)≤400)<;>cases decide (1≤c.2.2.1∧c.2.2.1≤6)<;>simp
theorem A6N(c:O8)(h:c.1.size≤maxLen):K8 c=some (I9 c,()):=by
  simp only [K8,B2x,B3g _ h,L1,A3,I9]
  cases idB c.1<;>cases decide ((c.2.1.length:Int)≤400)<;>cases decide (1≤c.2.2.1∧c.2.2.1≤6)<;>simp
theorem B5w{R:Type}(a:Option R):eqO a a=a:=by
  unfold eqO
  rw [if_pos rfl]
theorem A2Q(a:List Int)(h:a.length≤140737488355328):C6 a=some (a,()):=by
  simp only [C6,X7]
  have e:(bif decide (([]:List Int).length+a.length≤9223372036854775807) then bif decide ((([]:List Int).length+a.length)*1≤140737488355328) then some (([]++a),()) else none else none)=some (a,()):=by
    rw [A0 (by simp;omega),A0 (by simp;omega)]
    simp
  rw [e]
  cases a with
  | nil=>simp [B5w]
  | cons x xs=>simp
def B0A(c:O8):Bool:=decide (c.2.2.1=5)||decide (c.2.2.1=6)
theorem C8X(c:O8):A1L c=some (B0A c,()):=by
  simp only [A1L,B5O,B0A]
  cases decide (c.2.2.1=5)<;>simp
theorem C3P(c:O8):J3 c=some (B0A c,c,()):=by
  simp only [J3,A45,B0A]
  cases decide (c.2.2.1=5)<;>simp
theorem C8Y(c:O8)(h2:c.2.1.length≤140737488355328):W9 c=some (c,()):=by
  simp only [W9,B5J]
  rw [A0 (by simp;omega),A0 (by simp;omega)]
  simp
theorem B1F(c:O8)(h2:c.2.1.length≤140737488355328):K3 c=some (c,()):=by
  simp only [K3,A8T,A2Q _ h2,A3]
def C8Z(n:Int)(k j:Nat):Int:=IntKind.u8.wrap (n.fdiv (2 ^ (8*(k-1-j))))
def big(n:Int)(k:Nat):List Int:=(List.range k).map (C8Z n k)
theorem J4(n:Int)(k:Nat):(big n k).length=k:=by simp [big]
theorem F1k{n:Int}(h0:0≤n)(h1:n<18446744073709551616):IntKind.u64.wrap n=n:=by
  simp only [IntKind.wrap,IntKind.bits,IntKind.signed]
  simp
  omega
theorem E4E(v:Int)(b:List Int)(k:Nat)(hk:k≤8)(hb:b.length+8≤140737488355328):B8 (A0I (v,())) ((k:Int)-1,b,())=some (b++big v k,()):=by
  have key:=E0 (A0I (v,())) (fun j=>((k:Int)-1-(j:Int),b++(List.range j).map (C8Z v k),())) k (b++big v k,()) (fun j hj=>?_) ?_
  · simpa using key
  · have h1:(k:Int)-1-(j:Int)≥0:=by omega
    have e1:(k:Int)-1-(j:Int)=((k-1-j:Nat):Int):=by omega
    have hs:IntKind.u64.wrap (IntKind.i64.wrap (8*((k:Int)-1-(j:Int))))=((8*(k-1-j):Nat):Int):=by
      rw [w64 (by omega) (by omega),F1k (by omega) (by omega)]
      omega
    have hm:min (8*(k-1-j)) IntKind.i64.bits=8*(k-1-j):=Nat.min_eq_left (by simp only [IntKind.bits];omega)
    simp only [A0I,A0 h1,cond_true,hs,Int.toNat_natCast,hm]
    rw [A4 (by omega)]
    simp only [cond_false]
    have hl:(b++(List.range j).map (C8Z v k)).length=b.length+j:=by simp
    rw [A0 (by rw [hl];simp;omega),A0 (by rw [hl];simp;omega)]
    simp only [cond_true]
    rw [w64 (by omega) (by omega),List.range_succ,List.map_append,List.append_assoc]
    have e2:(k:Int)-1-(j:Int)-1=(k:Int)-1-((j+1:Nat):Int):=by omega
    rw [e2]
    rfl
  · have h1:¬ ((k:Int)-1-(k:Int)≥0):=by omega
    simp only [A0I,A4 h1,cond_false]
    rfl
def Z6(n:Int):Int:=if n<0 then 0 else n
theorem A1Y(b:List Int)(n:Int)(k:Nat)(h1:1≤k)(hk:k≤8)(hb:b.length+8≤140737488355328):A8a b n (k:Int)=some (b++big (Z6 n) k,()):=by
  simp only [A8a,C00]
  rw [A0 (by simp;omega),A0 (by simp;omega)]
  have e:(bif decide (n<0) then some ((0:Int),()) else some (n,()))=some (Z6 n,()):=by
    unfold Z6
    by_cases h:n<0<;>simp [h]
  simp only [cond_true,e,A3,Q3]
  rw [A0 (by omega)]
  simp only [Bool.not_true,cond_false,List.nil_append]
  rw [w64 (by omega) (by omega)]
  exact E4E _ b k hk hb
theorem B0B(b:List Int)(n:Int)(k:Nat)(hk:k≤8)(hb:b.length+8≤140737488355328):A8L b n (k:Int)=some (b++big (Z6 n) k,()):=by
  simp only [A8L,B9r]
  have e:B2s n=A0I (Z6 n,()):=by
    funext l
    have:(bif decide (0>n) then (0:Int) else n)=Z6 n:=by
      unfold Z6
      by_cases h:n<0<;>simp [h]
    simp only [B2s,A0I,this]
  rw [e,w64 (by omega) (by omega)]
  exact E4E _ b k hk hb
theorem C6Z{n:Nat}(h:n<9223372036854775808):IntKind.i64.wrap (n:Int)=(n:Int):=w64 (by omega) (by omega)
theorem F0W{n:Nat}(h:n<4294967296):IntKind.u32.wrap (n:Int)=(n:Int):=by
  simp only [IntKind.wrap,IntKind.bits,IntKind.signed]
  simp
  omega
theorem bits_nat{w x:Nat}(h:x<2 ^ w):(BitVec.ofInt w (x:Int)).toNat=x:=by
  rw [BitVec.ofInt_natCast,BitVec.toNat_ofNat]
  exact Nat.mod_eq_of_lt h
theorem C8a{x y:Nat}(hx:x<4294967296)(hy:y<4294967296):D1d .i64 (x:Int) (y:Int)=((x ^^^ y:Nat):Int):=by
  have h:x ^^^ y<2 ^ 32:=Nat.xor_lt_two_pow (by omega) (by omega)
  unfold D1d
  rw [BitVec.toNat_xor,bits_nat (by simp only [IntKind.bits];omega),bits_nat (by simp only [IntKind.bits];omega)]
  exact C6Z (by omega)
theorem C8b{x y:Nat}(hx:x<4294967296)(hy:y<4294967296):D1d .u32 (x:Int) (y:Int)=((x ^^^ y:Nat):Int):=by
  have h:x ^^^ y<2 ^ 32:=Nat.xor_lt_two_pow (by omega) (by omega)
  unfold D1d
  rw [BitVec.toNat_xor,bits_nat (by simp only [IntKind.bits];omega),bits_nat (by simp only [IntKind.bits];omega)]
  exact F0W (by omega)
theorem E7q{x y:Nat}(hx:x<4294967296)(hy:y<4294967296):E5A .i64 (x:Int) (y:Int)=((x &&& y:Nat):Int):=by
  have h:x &&& y<2 ^ 32:=Nat.and_lt_two_pow _ (by omega)
  unfold E5A
  rw [BitVec.toNat_and,bits_nat (by simp only [IntKind.bits];omega),bits_nat (by simp only [IntKind.bits];omega)]
  exact C6Z (by omega)
theorem E7r{x y:Nat}(hx:x<4294967296)(hy:y<4294967296):E5A .u32 (x:Int) (y:Int)=((x &&& y:Nat):Int):=by
  have h:x &&& y<2 ^ 32:=Nat.and_lt_two_pow _ (by omega)
  unfold E5A
  rw [BitVec.toNat_and,bits_nat (by simp only [IntKind.bits];omega),bits_nat (by simp only [IntKind.bits];omega)]
  exact F0W (by omega)
def C1A(c:Nat):Nat:=if c &&& 1=1 then (c / 2) ^^^ 2197175160 else c / 2
def C3Q(c:Nat):Nat→Nat
  | 0=>c
  | i+1=>C1A (C3Q c i)
theorem E1Z{c:Nat}(h:c<4294967296):C1A c<4294967296:=by
  unfold C1A
  split
  · have:(c / 2) ^^^ 2197175160<2 ^ 32:=Nat.xor_lt_two_pow (by omega) (by omega)
    omega
  · omega
theorem C7b{c:Nat}(h:c<4294967296):∀ i,C3Q c i<4294967296
  | 0=>h
  | i+1=>E1Z (C7b h i)
theorem half(c:Nat):((c:Int)).fdiv 2=((c / 2:Nat):Int):=by
  rw [Int.fdiv_eq_ediv_of_nonneg _ (by omega)]
  omega
def B1G(a:List Int):Nat:=a.foldl (fun c x=>C3Q (c ^^^ x.toNat) 8) 4294967295
theorem E9N(a:List Int)(ha:Byt a):∀ c,c<4294967296→a.foldl (fun c x=>C3Q (c ^^^ x.toNat) 8) c<4294967296:=by
  induction a with
  | nil=>intro c h;exact h
  | cons x a ih=>
    intro c h
    have hx:=ha x (by simp)
    refine ih (fun y hy=>ha y (by simp [hy])) _ (C7b ?_ 8)
    have:c ^^^ x.toNat<2 ^ 32:=Nat.xor_lt_two_pow (by omega) (by omega)
    omega
theorem A6u{a:List Int}(h:Byt a)(i:Nat):Byt (a.take i):=fun x hx=>h x (List.mem_of_mem_take hx)
theorem B7Q{a:List Int}(h:Byt a):B1G a<4294967296:=E9N a h _ (by omega)
theorem D3x{a:List Int}{i:Nat}(hi:i<a.length):B1G (a.take (i+1))=C3Q (B1G (a.take i) ^^^ a[i].toNat) 8:=by
  unfold B1G
  rw [List.take_succ_eq_append_getElem hi,List.foldl_append]
  rfl
theorem E9O(l0:Int×Int×Unit)(c:Nat)(h:c<4294967296):B8 (B7J l0) ((c:Int),0,())=some (.inl ((C3Q c 8:Int),IntKind.i64.wrap (l0.2.1+1),())):=by
  refine E0 (B7J l0) (fun i=>((C3Q c i:Int),(i:Int),())) 8 _ (fun i hi=>?_) ?_
  · have hl:=C7b h i
    have h1:(i:Int)<8:=by omega
    simp only [B7J,A0 h1,cond_true,half]
    rw [show (1:Int)=((1:Nat):Int) from rfl,E7q hl (by omega),show (2197175160:Int)=((2197175160:Nat):Int) from rfl,C8a (by omega) (by omega)]
    rw [show ((i:Int)+((1:Nat):Int))=((i+1:Nat):Int) by omega,C6Z (by omega)]
    simp only [C3Q,C1A]
    by_cases hb:C3Q c i &&& 1=1
    · rw [A0 (by rw [hb]),if_pos hb];rfl
    · rw [A4 (by omega),if_neg hb];rfl
  · rfl
theorem C8c(a:List Int)(ha:Byt a)(h:a.length≤maxLen):A7h a=some (((B1G a ^^^ 4294967295:Nat):Int),()):=by
  simp only [A7h,D5B]
  have key:=E0 (B1h a) (fun i=>((B1G (a.take i):Int),(i:Int),())) a.length ((B1G a:Int),()) (fun i hi=>?_) ?_
  · have e:B8 (B1h a) (4294967295,0,())=some ((B1G a:Int),()):=key
    rw [e]
    simp only [A3]
    rw [show (4294967295:Int)=((4294967295:Nat):Int) from rfl,C8a (B7Q ha) (by omega)]
  · have h1:((i:Int)<(a.length:Int)):=by omega
    have h2:(0:Int)≤(i:Int):=by omega
    have hx:=ha a[i] (List.getElem_mem hi)
    have hc:=B7Q (A6u ha i)
    simp only [B1h,A0 h1,A0 h2,cond_true,C3N hi]
    have hxor:B1G (a.take i) ^^^ a[i].toNat<2 ^ 32:=Nat.xor_lt_two_pow (by omega) (by omega)
    rw [w64 (by omega) (by omega),show a[i]=((a[i].toNat:Nat):Int) by omega,C8a hc (by omega)]
    rw [E9O _ _ (by omega)]
    simp only
    rw [show ((i:Int)+1)=((i+1:Nat):Int) by omega,C6Z (by simp only [maxLen] at h;omega),D3x hi]
  · simp [B1h]
theorem E9P(l0:Int×Int×Unit)(c:Nat)(h:c<4294967296):B8 (B7H l0) ((c:Int),0,())=some (.inl ((C3Q c 8:Int),IntKind.i64.wrap (l0.2.1+1),())):=by
  refine E0 (B7H l0) (fun i=>((C3Q c i:Int),(i:Int),())) 8 _ (fun i hi=>?_) ?_
  · have hl:=C7b h i
    have h1:(i:Int)<8:=by omega
    simp only [B7H,A0 h1,cond_true,half]
    rw [show (1:Int)=((1:Nat):Int) from rfl,E7r hl (by omega),show (2197175160:Int)=((2197175160:Nat):Int) from rfl,C8b (by omega) (by omega)]
    rw [show ((i:Int)+((1:Nat):Int))=((i+1:Nat):Int) by omega,C6Z (by omega)]
    simp only [C3Q,C1A]
    by_cases hb:C3Q c i &&& 1=1
    · rw [A0 (by rw [hb]),if_pos hb];rfl
    · rw [A4 (by omega),if_neg hb];rfl
  · rfl
theorem C8d(a:List Int)(ha:Byt a)(h:a.length≤maxLen):A7b a=some (((B1G a ^^^ 4294967295:Nat):Int),()):=by
  simp only [A7b,D59]
  have key:=E0 (B1f a) (fun i=>((B1G (a.take i):Int),(i:Int),())) a.length ((B1G a:Int),()) (fun i hi=>?_) ?_
  · have e:B8 (B1f a) (4294967295,0,())=some ((B1G a:Int),()):=key
    rw [e]
    simp only [A3]
    have hm:IntKind.u32.max=((4294967295:Nat):Int):=rfl
    have hxor:B1G a ^^^ 4294967295<2 ^ 32:=Nat.xor_lt_two_pow (by have:=B7Q ha;omega) (by omega)
    rw [hm,C8b (by omega) (B7Q ha),Nat.xor_comm,C6Z (by omega)]
  · have h1:((i:Int)<(a.length:Int)):=by omega
    have h2:(0:Int)≤(i:Int):=by omega
    have hx:=ha a[i] (List.getElem_mem hi)
    have hc:=B7Q (A6u ha i)
    simp only [B1f,A0 h1,A0 h2,cond_true,C3N hi]
    have hxor:B1G (a.take i) ^^^ a[i].toNat<2 ^ 32:=Nat.xor_lt_two_pow (by omega) (by omega)
    rw [show a[i]=((a[i].toNat:Nat):Int) by omega,F0W (by omega),C8b hc (by omega)]
    rw [E9P _ _ (by omega)]
    simp only
    rw [show ((i:Int)+1)=((i+1:Nat):Int) by omega,C6Z (by simp only [maxLen] at h;omega),D3x hi]
  · simp [B1f]
abbrev Req:=Int×ByteArray×Int
def E7s:Req×List Int×Bool×Unit:=((0,⟨#[]⟩,0),[],false,())
def X1(c:O8):Req×List Int×Bool×Unit:=
  if I9 c=false then E7s
  else if c.2.2.1=1 then ((1,c.1,(c.2.1.length:Int)),[],true,())
  else if c.2.2.1=2 then ((2,c.1,0),[],true,())
  else if c.2.2.1=3 then ((3,c.1,c.2.2.2),(c.2.1.take (min (c.2.2.2.toNat+24) c.2.1.length)).drop c.2.2.2.toNat,true,())
  else if c.2.2.1=4 then ((4,c.1,((B1G c.2.1 ^^^ 4294967295:Nat):Int)),[],true,())
  else E7s
theorem E1a{c:O8}(h:I9 c=true):c.2.1.length≤400∧1≤c.2.2.1∧c.2.2.1≤6∧0≤c.2.2.2∧c.2.2.2≤(c.2.1.length:Int):=by
  simp only [I9,Bool.and_eq_true,decide_eq_true_eq] at h
  omega
theorem D7n(c:O8):(X1 c).2.1.length≤c.2.1.length:=by
  unfold X1 E7s
  repeat' split
  all_goals simp
  omega
theorem D5L(c:O8)(h:c.1.size≤maxLen)(hb:Byt c.2.1):A6a c=some (X1 c):=by
  simp only [A6a,B5F,A6N c h,C3P,A3,X1]
  cases hk:I9 c with
  | false=>rfl
  | true=>
    obtain ⟨h1,h2,h3,h4,h5⟩:=E1a hk
    simp only [Bool.not_true,cond_false,Bool.true_eq_false,if_false]
    cases ho:B0A c with
    | true=>
      simp only [B0A,Bool.or_eq_true,decide_eq_true_eq] at ho
      rw [if_neg (by omega),if_neg (by omega),if_neg (by omega),if_neg (by omega)]
      rfl
    | false=>
      simp only [B0A,Bool.or_eq_false_iff,decide_eq_false_iff_not] at ho
      simp only [cond_false,C2]
      by_cases e1:c.2.2.1=1
      · rw [A0 e1,if_pos e1];rfl
      rw [A4 e1,if_neg e1]
      by_cases e2:c.2.2.1=2
      · rw [A0 e2,if_pos e2];rfl
      rw [A4 e2,if_neg e2]
      by_cases e3:c.2.2.1=3
      · rw [A0 e3,if_pos e3,w64 (by omega) (by omega)]
        simp only [cond_true,cond_false]
        have hm:(bif decide ((c.2.1.length:Int)<c.2.2.2+24) then (c.2.1.length:Int) else c.2.2.2+24)=((min (c.2.2.2.toNat+24) c.2.1.length:Nat):Int):=by
          by_cases hc:(c.2.1.length:Int)<c.2.2.2+24
          · rw [A0 hc];simp only [cond_true];omega
          · rw [A4 hc];simp only [cond_false];omega
        rw [hm,A0 h4,A0 (by omega),A0 (by omega),Int.toNat_natCast]
        simp only [cond_true]
        rw [A2Q _ (by simp;omega)]
      rw [A4 e3,if_neg e3]
      have e4:c.2.2.1=4:=by omega
      rw [if_pos e4]
      simp only [cond_false]
      rw [C8d _ hb (by simp only [maxLen];omega)]
theorem D5M(c:O8)(h:c.1.size≤maxLen)(hb:Byt c.2.1):A6d c=some (X1 c):=by
  simp only [A6d,B5L,A6M c h,A3,X1]
  cases hk:I9 c with
  | false=>rfl
  | true=>
    obtain ⟨h1,h2,h3,h4,h5⟩:=E1a hk
    simp only [Bool.not_true,cond_false,Bool.true_eq_false,if_false]
    by_cases e1:c.2.2.1=1
    · rw [A0 e1,if_pos e1];rfl
    rw [A4 e1,if_neg e1]
    by_cases e2:c.2.2.1=2
    · rw [A0 e2,if_pos e2];rfl
    rw [A4 e2,if_neg e2]
    by_cases e3:c.2.2.1=3
    · rw [A0 e3,if_pos e3,w64 (by omega) (by omega)]
      simp only [cond_true,cond_false]
      have hm:(bif decide (c.2.2.2+24>(c.2.1.length:Int)) then some ((c.2.1.length:Int),()) else some (c.2.2.2+24,()))=some (((min (c.2.2.2.toNat+24) c.2.1.length:Nat):Int),()):=by
        by_cases hc:c.2.2.2+24>(c.2.1.length:Int)
        · rw [A0 hc];simp only [cond_true];congr 2;omega
        · rw [A4 hc];simp only [cond_false];congr 2;omega
      rw [hm]
      simp only
      rw [A0 h4,A0 (by omega),A0 (by omega),Int.toNat_natCast]
      simp only [cond_true]
      rw [A0 (by simp;omega),A0 (by simp;omega)]
      simp
    rw [A4 e3,if_neg e3]
    by_cases e4:c.2.2.1=4
    · rw [A0 e4,if_pos e4]
      simp only [cond_true,cond_false]
      rw [C8c _ hb (by simp only [maxLen];omega)]
    · rw [A4 e4,if_neg e4];rfl
abbrev D7o:=Int×Int
def X2(r:D7o):Bool:=decide (100≤r.1∧r.1≤599)&&decide (-1≤r.2∧r.2≤1000000000)
theorem B5x(r:D7o):U1 r=some (X2 r,()):=by
  simp only [U1,B9y,Q3,A3,X2]
  cases decide (100≤r.1∧r.1≤599)<;>simp
theorem B5y(r:D7o):T9 r=some (X2 r,()):=by
  simp only [T9,B9p,L1,A3,X2]
  cases decide (100≤r.1∧r.1≤599)<;>simp
def far(c:O8)(off:Int):O8:=if 0≤off∧off≤(c.2.1.length:Int) then (if off=(c.2.1.length:Int) then (c.1,c.2.1,4,off) else (c.1,c.2.1,3,off)) else (c.1,c.2.1,6,c.2.2.2)
theorem E5P(c:O8)(off:Int):A8f c off=some (far c off,()):=by
  simp only [A8f,C05,Q3,A3,far]
  by_cases h:0≤off∧off≤(c.2.1.length:Int)
  · rw [A0 h,if_pos h]
    by_cases h2:off=(c.2.1.length:Int)<;>simp [h2]
  · rw [A4 h,if_neg h];rfl
theorem E5Q(c:O8)(off:Int):W5 c off=some (far c off,()):=by
  simp only [W5,A49,L1,A3,far]
  by_cases h:0≤off∧off≤(c.2.1.length:Int)
  · rw [A0 h,if_pos h]
    by_cases h2:off=(c.2.1.length:Int)<;>simp [h2]
  · rw [A4 h,if_neg h];rfl
def A4i(step status:Int):Int:=
  if status=507 then (if step=2 then 6 else step)
  else if status=404 then (if step=1 then 6 else 1)
  else if status=409 then (if step=3 then 0 else if step=2 then 6 else 2)
  else if status=201 then (if step=1 then 0 else 6)
  else if status=204 then (if step=3 then 0 else 6)
  else if status=200 then (if step=2 then 0 else if step=4 then 5 else 6)
  else 6
theorem E1b(a b:Int):A6f a b=some (A4i a b,()):=by
  simp only [A6f,B5P,A4i]
  by_cases h1:b=507
  · by_cases h:a=2<;>simp [h1,h]
  by_cases h2:b=404
  · by_cases h:a=1<;>simp [h2,h]
  by_cases h3:b=409
  · by_cases h:a=3
    · simp [h3,h]
    · by_cases h':a=2<;>simp [h3,h,h']
  by_cases h4:b=201
  · by_cases h:a=1<;>simp [h4,h]
  by_cases h5:b=204
  · by_cases h:a=3<;>simp [h5,h]
  by_cases h6:b=200
  · by_cases h:a=2
    · simp [h6,h]
    · by_cases h':a=4<;>simp [h6,h,h']
  simp [h1,h2,h3,h4,h5,h6]
def hear(c:O8)(r:D7o):O8:=if A4i c.2.2.1 r.1=0 then far c r.2 else (c.1,c.2.1,A4i c.2.2.1 r.1,c.2.2.2)
theorem E1c(c:O8)(r:D7o):A6g c r=some (hear c r,()):=by
  simp only [A6g,B5Q,E1b,E5P,A3,hear]
  by_cases h:A4i c.2.2.1 r.1=0<;>simp [h]
theorem E5R(c:O8)(r:D7o)(h:c.2.2.1=1∨c.2.2.1=2∨c.2.2.1=3∨c.2.2.1=4):A0R c r=some (hear c r,()):=by
  have hc:c=(c.1,c.2.1,c.2.2.1,c.2.2.2):=rfl
  simp only [A0R,A7D,E5Q,hear,A4i]
  by_cases h1:r.1=507
  · rcases h with h | h | h | h<;>simp [h1,h,A3]
    all_goals (rw [← h])
  by_cases h2:r.1=404
  · rcases h with h | h | h | h<;>simp [h2,h,A3]
  by_cases h3:r.1=409
  · rcases h with h | h | h | h<;>simp [h3,h,A3]
  by_cases h4:r.1=201
  · rcases h with h | h | h | h<;>simp [h4,h,A3]
  by_cases h5:r.1=204
  · rcases h with h | h | h | h<;>simp [h5,h,A3]
  by_cases h6:r.1=200
  · rcases h with h | h | h | h<;>simp [h6,h,A3]
  rcases h with h | h | h | h<;>simp [h1,h2,h3,h4,h5,h6,h,A3]
def A2R(c:O8)(r:D7o):O8:=if I9 c&&X2 r&&!B0A c then hear c r else c
theorem D1f(c:O8)(r:D7o)(h:c.1.size≤maxLen)(h2:c.2.1.length≤140737488355328):A4A c r=some (A2R c r,()):=by
  simp only [A4A,B31,B1F _ h2,A6N _ h,B5y,C3P,A3,A2R]
  cases hk:I9 c with
  | false=>simp
  | true=>
    cases X2 r with
    | false=>simp
    | true=>
      cases ho:B0A c with
      | true=>simp
      | false=>
        obtain ⟨_,h4,h5,_,_⟩:=E1a hk
        simp only [B0A,Bool.or_eq_false_iff,decide_eq_false_iff_not] at ho
        simp only [Bool.not_true,cond_false]
        rw [E5R c r (by omega)]
        simp
def E5S(us:List TUp)(id:ByteArray):Nat:=O7 (fun i=>!((rd kUp us (i:Int)).1.toList == id.toList)) 0 us.length
def F1l:TUp×Bool×Unit:=((⟨#[]⟩,0,[],false),false,())
def F1m(st:A8)(id:ByteArray):TUp×Bool×Unit:=if E5S st.2.2.2 id<st.2.2.2.length then (rd kUp st.2.2.2 (E5S st.2.2.2 id:Int),true,()) else F1l
theorem D7p(us:List TUp)(id:ByteArray)(h:us.length≤maxLen):O2 us id=some (if E5S us id<us.length then (E5S us id:Int) else -1,()):=by
  simp only [O2,C3F]
  refine A3g (A9e us id) (fun i=>((i:Int),())) us.length (fun i=>(if i<us.length then (i:Int) else -1,())) (fun i=>!((rd kUp us (i:Int)).1.toList == id.toList)) (fun i hi=>?_) ?_
  · have h1:((i:Int)<(us.length:Int)):=by omega
    have h2:(0:Int)≤(i:Int):=by omega
    simp only [A9e,A0 h1,A0 h2,cond_true,if_pos hi]
    rw [w64 (by omega) (by simp only [maxLen] at h;omega)]
    cases ((rd kUp us (i:Int)).1.toList == id.toList)<;>simp
  · simp [A9e]
def F0X(w:A7)(i:Nat):TUp×Bool×Unit:=F1m w.1.1 (rd B1 w.2.1 (i:Int)).1
def beg(a b:List Int):Bool:=decide (a.length≤b.length)&&(List.range a.length).all fun i=>decide (rd (.int .u8) a (i:Int)=rd (.int .u8) b (i:Int))
theorem F0Y{x y:Int}(hx:0≤x∧x<256)(hy:0≤y∧y<256)(h:UInt8.ofNat x.toNat=UInt8.ofNat y.toNat):x=y:=by
  have:=congrArg UInt8.toNat h
  simp only [UInt8.toNat_ofNat'] at this
  omega
def be(w:A7)(i:Nat):Bool:=!(F0X w i).2.1||(beg (F0X w i).1.2.2.1 (rd B1 w.2.1 (i:Int)).2.1&&decide ((F0X w i).1.2.1=(List.length (rd B1 w.2.1 (i:Int)).2.1:Int)))
theorem E9Q{L:Int×Unit→Option ((Int×Unit)⊕(Unit⊕(Bool×Unit)))}{n:Nat}{go:Nat→Bool}(hs:∀ i:Nat,i<n→L ((i:Int),())=bif go i then some (.inl (((i+1:Nat):Int),())) else some (.inr (.inr (false,()))))
    (he:L ((n:Int),())=some (.inr (.inl ()))) (g:Unit→Option (Bool×Unit)) (b:Bool) (hg:g ()=some (b,())):C2 (B8 L (0,())) g=some (decide (O7 go 0 n=n)&&b,()):=by
  have h:=A3g L (fun i=>((i:Int),())) n (fun i=>if i=n then .inl () else .inr (false,())) go (fun i hi=>by
    rw [hs i hi]
    cases go i with
    | true=>rfl
    | false=>simp only [Bool.false_eq_true,if_false,cond_false];rw [if_neg (by omega)]) (by rw [he,if_pos rfl])
  have h':B8 L (0,())=_:=h
  rw [h']
  by_cases hn:O7 go 0 n=n
  · rw [if_pos hn,A0 hn];simp [C2,hg]
  · rw [if_neg hn,A4 hn];simp [C2]
theorem E9R{x y:Nat}(hx:x<9223372036854775808)(hy:y<9223372036854775808):bOr .i64 (x:Int) (y:Int)=((x ||| y:Nat):Int):=by
  have h:x ||| y<2 ^ 63:=Nat.or_lt_two_pow (by omega) (by omega)
  unfold bOr
  rw [BitVec.toNat_or,bits_nat (by simp only [IntKind.bits];omega),bits_nat (by simp only [IntKind.bits];omega)]
  exact C6Z (by omega)
def V1(b:List Int)(at_:Nat):Nat→Nat
  | 0=>0
  | j+1=>(V1 b at_ j*256) ||| (b.getD (at_+j) 0).toNat
theorem D7q{b:List Int}(hb:Byt b)(i:Nat):0≤b.getD i 0∧b.getD i 0<256:=by
  by_cases h:i<b.length
  · simp only [List.getD,List.getElem?_eq_getElem h,Option.getD_some]
    exact hb _ (List.getElem_mem h)
  · simp only [List.getD,List.getElem?_eq_none (show b.length≤i by omega),Option.getD_none]
    omega
theorem D5N{b:List Int}(hb:Byt b)(at_:Nat):∀ j,V1 b at_ j<2 ^ (8*j)
  | 0=>by simp [V1]
  | j+1=>by
    have h1:=D5N hb at_ j
    have h2:=D7q hb (at_+j)
    have e:2 ^ (8*(j+1))=2 ^ (8*j)*256:=by rw [show 8*(j+1)=8*j+8 by omega,Nat.pow_add]
    refine Nat.or_lt_two_pow ?_ ?_
    · rw [e];exact Nat.mul_lt_mul_of_pos_right h1 (by omega)
    · have:1≤2 ^ (8*j):=Nat.one_le_two_pow
      rw [e];omega
theorem D7r{b:List Int}(hb:Byt b)(at_ j:Nat)(hj:j<7)(x:Int)(hx:x=b.getD (at_+j) 0):bOr .i64 (IntKind.i64.wrap (((V1 b at_ j:Nat):Int)*256)) (IntKind.i64.wrap x)=((V1 b at_ (j+1):Nat):Int):=by
  have h1:=D5N hb at_ j
  have h2:=D7q hb (at_+j)
  have h3:2 ^ (8*j)≤2 ^ 48:=Nat.pow_le_pow_right (by omega) (by omega)
  subst hx
  rw [show ((V1 b at_ j:Nat):Int)*256=((V1 b at_ j*256:Nat):Int) by omega,C6Z (by omega),show b.getD (at_+j) 0=(((b.getD (at_+j) 0).toNat:Nat):Int) by omega,C6Z (by omega),E9R (by omega) (by omega)]
  simp only [V1,Int.toNat_natCast]
def A5b(b:List Int)(a:Int)(k:Nat):Int×Bool×Unit:=if 0≤a∧a≤(b.length:Int)-k then ((V1 b a.toNat k:Int),true,()) else (0,false,())
theorem D7s(b:List Int)(hb:Byt b)(h:b.length≤1048576)(a:Int)(k:Nat)(hk:1≤k∧k≤7):A5T b a (k:Int)=some (A5b b a k):=by
  simp only [A5T,B9z,Q3,A3,A5b]
  rw [A0 (show (1:Int)≤(k:Int)∧(k:Int)≤7 by omega),w64 (by omega) (by omega)]
  simp only [Bool.not_true,cond_false]
  by_cases h1:a<0
  · rw [A0 h1,if_neg (by omega)];rfl
  rw [A4 h1]
  by_cases h2:a>(b.length:Int)-k
  · rw [A0 h2,if_neg (by omega)];rfl
  rw [A4 h2,if_pos (by omega)]
  simp only [cond_false,C2]
  have key:=E0 (A4F (k:Int) a b) (fun j=>((V1 b a.toNat j:Int),(j:Int),())) k ((V1 b a.toNat k:Int),()) (fun j hj=>?_) ?_
  · have e:B8 (A4F (k:Int) a b) (0,0,())=_:=key
    rw [e]
  · have g1:(j:Int)<(k:Int):=by omega
    simp only [A4F,A0 g1,cond_true]
    rw [w64 (n:=a+(j:Int)) (by omega) (by omega)]
    have g2:0≤a+(j:Int):=by omega
    have g3:a+(j:Int)<(b.length:Int):=by omega
    rw [A0 g2,A0 g3]
    simp only [cond_true]
    rw [D7r hb a.toNat j (by omega) _ (by
      rw [show a+(j:Int)=((a.toNat+j:Nat):Int) by omega,C3N (by omega)]
      simp [List.getD,show a.toNat+j<b.length by omega]),show (j:Int)+1=((j+1:Nat):Int) by omega,C6Z (by omega)]
  · simp [A4F]
theorem B5z(b:List Int)(hb:Byt b)(h:b.length≤1048576)(a:Int)(k:Nat)(hk:1≤k∧k≤7):A8K b a (k:Int)=some (A5b b a k):=by
  simp only [A8K,B9q,L1,A3,A5b]
  rw [A0 (show (1:Int)≤(k:Int)∧(k:Int)≤7 by omega),w64 (n:=(b.length:Int)-(k:Int)) (by omega) (by omega)]
  simp only [Bool.not_true,cond_false]
  by_cases h1:a<0
  · rw [A0 h1,if_neg (by omega)];rfl
  rw [A4 h1]
  by_cases h2:a>(b.length:Int)-k
  · rw [A0 h2,if_neg (by omega)];rfl
  rw [A4 h2,if_pos (by omega)]
  simp only [cond_false,C2]
  rw [w64 (n:=a+(k:Int)) (by omega) (by omega),A0 (show 0≤a by omega),A0 (show a≤a+(k:Int) by omega),A0 (show a+(k:Int)≤(b.length:Int) by omega)]
  simp only [cond_true]
  have hlen:((b.take (a+(k:Int)).toNat).drop a.toNat).length=k:=by simp;omega
  have key:=E0 (A40 b a (k:Int)) (fun j=>((V1 b a.toNat j:Int),(j:Int),())) k ((V1 b a.toNat k:Int),()) (fun j hj=>?_) ?_
  · have e:B8 (A40 b a (k:Int)) (0,0,())=_:=key
    rw [e]
  · have g1:(j:Int)<(k:Int):=by omega
    have g2:(0:Int)≤(j:Int):=by omega
    simp only [A40]
    rw [w64 (n:=a+(k:Int)) (by omega) (by omega)]
    simp only [hlen,A0 g1,A0 g2,cond_true]
    rw [D7r hb a.toNat j (by omega) _ (by
      rw [C3N (by rw [hlen];exact hj)]
      simp [List.getD,show a.toNat+j<b.length by omega]),show (j:Int)+1=((j+1:Nat):Int) by omega,C6Z (by omega)]
  · simp only [A40]
    rw [w64 (n:=a+(k:Int)) (by omega) (by omega)]
    simp [hlen]
theorem A5c(xs:List Int):(strOf xs).size=xs.length:=strOfNums_size xs
theorem E7t(a b:ByteArray):(a++b).size=a.size+b.size:=ByteArray.size_append
theorem D7t(k:Int)(h:k<4611686018427387904):∃ s,D3 k=some (s,()):=by
  simp only [D3,B3X]
  by_cases h0:k≤0
  · rw [A0 h0];exact ⟨_,rfl⟩
  rw [A4 h0]
  obtain ⟨z,e,hz⟩:=A0i A8y (fun l=>l.1.toNat) (fun l=>0≤l.1∧(l.2.1.size:Int)+l.1≤k) (fun z=>(z.1.size:Int)≤k) (fun l hl=>by
    obtain ⟨n,out,u⟩:=l
    simp only at hl ⊢
    simp only [A8y]
    by_cases hp:n>0
    · refine .inl ⟨(n.tdiv 10,strOf [IntKind.u8.wrap (IntKind.i64.wrap (48+n.tmod 10))]++out,()),?_,?_,?_⟩
      · rw [A0 hp]
        simp only [cond_true]
        rw [A4 (by rw [A5c];simp [IntKind.max,IntKind.signed,IntKind.bits];omega)]
        simp only [cond_false]
        rw [w64 (n:=n.tdiv 10) (by rw [Int.tdiv_eq_ediv_of_nonneg (by omega)];omega) (by rw [Int.tdiv_eq_ediv_of_nonneg (by omega)];omega)]
      · simp only
        rw [E7t,A5c,Int.tdiv_eq_ediv_of_nonneg (by omega)]
        simp only [List.length_singleton]
        omega
      · simp only
        rw [Int.tdiv_eq_ediv_of_nonneg (by omega)]
        omega
    · rw [A4 hp]
      exact .inr ⟨_,rfl,by simp only;omega⟩) (k,⟨#[]⟩,()) (by
      constructor
      · simp only;omega
      · show ((0:Nat):Int)+k≤k
        omega)
  rw [e]
  simp only [A3,cond_false]
  have h1:(⟨#[109]⟩:ByteArray).size=1:=rfl
  rw [A4 (by rw [h1];simp [IntKind.max,IntKind.signed,IntKind.bits];omega)]
  exact ⟨_,rfl⟩
noncomputable def mt(k:Int):ByteArray:=match D3 k with
  | some (s,_)=>s
  | none=>⟨#[]⟩
theorem A6v(k:Int)(h:k<4611686018427387904):D3 k=some (mt k,()):=by
  obtain ⟨s,hs⟩:=D7t k h
  unfold mt
  rw [hs]
noncomputable def R3(m:Int)(n:Nat):List ByteArray:=(List.range n).map fun j=>mt (m+(j:Nat))
theorem C8e(a:List ByteArray)(m:Int)(h0:0≤m)(h:m+a.length<4611686018427387904):V5 a m=some (m+a.length,R3 m a.length,()):=by
  simp only [V5,A7K]
  have key:=E0 (A0p D3) (fun i=>(m+(i:Int),(i:Int),R3 m i++a.drop i,())) a.length (m+a.length,R3 m a.length,()) (fun i hi=>?_) ?_
  · simpa [R3] using key
  · have h1:((i:Int)<(a.length:Int)):=by omega
    have h2:(0:Int)≤(i:Int):=by omega
    have hl:(R3 m i++a.drop i).length=a.length:=by simp [R3];omega
    simp only [A0p,hl,A0 h1,A0 h2,cond_true]
    rw [A6v _ (by omega),w64 (by omega) (by omega),w64 (by omega) (by omega),Int.toNat_natCast]
    simp only [A3]
    have:(R3 m i++a.drop i).set i (mt (m+(i:Int)))=R3 m (i+1)++a.drop (i+1):=by
      rw [List.set_append_right _ _ (by simp [R3])]
      rw [show (R3 m i).length=i by simp [R3],Nat.sub_self,List.drop_eq_getElem_cons hi,List.set_cons_zero]
      simp [R3,List.range_succ]
    rw [this]
    simp only [Int.natCast_add,Int.natCast_one,Int.add_assoc]
  · simp [A0p,R3]
theorem C8f(n:Nat)(m:Int)(h0:0≤m)(h:m+n<4611686018427387904):V7 (R3 m n) m=some (m+n,()):=by
  simp only [V7,A7L]
  have hl:(R3 m n).length=n:=by simp [R3]
  have key:=E0 (A0r D3 (R3 m n)) (fun i=>(m+(i:Int),(i:Int),())) n (m+n,()) (fun i hi=>?_) ?_
  · simpa [R3] using key
  · have h1:((i:Int)<(n:Int)):=by omega
    have h2:(0:Int)≤(i:Int):=by omega
    simp only [A0r,hl,A0 h1,A0 h2,cond_true]
    have hr:rd .str (R3 m n) (i:Int)=mt (m+(i:Int)):=by
      rw [A3M (by rw [hl];exact hi)]
      simp [R3]
    rw [hr,A6v _ (by omega),w64 (by omega) (by omega),w64 (by omega) (by omega)]
    simp only [A3,beq_self_eq_true,Bool.not_true,cond_false,Int.natCast_add,Int.natCast_one,Int.add_assoc]
  · simp [A0r,hl]
theorem wrap_u8(x:Int):0≤IntKind.u8.wrap x∧IntKind.u8.wrap x<256:=by
  simp only [IntKind.wrap,IntKind.bits,IntKind.signed]
  simp
  omega
def O9(r:H4):Bool:=
  decide (0≤r.1∧r.1≤10000)&&decide (0≤r.2.1∧r.2.1≤199)&&idB r.2.2.2.1 &&
  (if r.2.2.1=1 then decide (0≤r.2.2.2.2.1∧r.2.2.2.2.1≤1000000000)&&decide ((List.length r.2.2.2.2.2:Int)=0)
   else if r.2.2.1=2 then decide (0≤r.2.2.2.2.1∧r.2.2.2.2.1≤1000000000)&&decide (1≤(List.length r.2.2.2.2.2:Int)∧(List.length r.2.2.2.2.2:Int)≤24)
   else if r.2.2.1=3∨r.2.2.1=4 then decide (r.2.2.2.2.1=0)&&decide ((List.length r.2.2.2.2.2:Int)=0) else false)
theorem E1d(r:H4)(h:r.2.2.2.1.size≤maxLen):B1g r=some (O9 r,()):=by
  simp only [B1g,C3E,A93 _ h,Q3,A3,O9]
  cases decide (0≤r.1∧r.1≤10000)
  · rfl
  cases decide (0≤r.2.1∧r.2.1≤199)
  · rfl
  cases idB r.2.2.2.1
  · rfl
  simp only [Bool.not_true,cond_false,C2,Bool.true_and]
  by_cases h1:r.2.2.1=1
  · rw [A0 h1,if_pos h1]
    cases decide (0≤r.2.2.2.2.1∧r.2.2.2.2.1≤1000000000)<;>rfl
  rw [A4 h1,if_neg h1]
  by_cases h2:r.2.2.1=2
  · rw [A0 h2,if_pos h2]
    cases decide (0≤r.2.2.2.2.1∧r.2.2.2.2.1≤1000000000)<;>rfl
  rw [A4 h2,if_neg h2]
  by_cases h3:r.2.2.1=3
  · rw [A0 h3,if_pos (.inl h3)]
    cases decide (r.2.2.2.2.1=0)<;>rfl
  rw [A4 h3]
  by_cases h4:r.2.2.1=4
  · rw [A0 h4,if_pos (.inr h4)]
    cases decide (r.2.2.2.2.1=0)<;>rfl
  rw [A4 h4,if_neg (by omega)]
  rfl
theorem C8g(r:H4)(h:r.2.2.2.1.size≤maxLen):A5K r=some (O9 r,()):=by
  simp only [A5K,C3B,A16,A9X,B3g _ h,L1,A3,O9]
  cases decide (0≤r.1∧r.1≤10000)
  · rfl
  cases decide (0≤r.2.1∧r.2.1≤199)
  · rfl
  by_cases hk:1≤r.2.2.1∧r.2.2.1≤4
  · rw [A0 hk]
    cases idB r.2.2.2.1
    · rfl
    simp only [Bool.not_true,cond_false,C2,Bool.true_and]
    by_cases h1:r.2.2.1=1
    · rw [A0 h1,if_pos h1]
      cases decide (0≤r.2.2.2.2.1∧r.2.2.2.2.1≤1000000000)<;>rfl
    rw [A4 h1,if_neg h1]
    by_cases h2:r.2.2.1=2
    · rw [A0 h2,if_pos h2]
      cases decide (0≤r.2.2.2.2.1∧r.2.2.2.2.1≤1000000000)<;>rfl
    rw [A4 h2,if_neg h2,if_pos (by omega)]
    cases decide (r.2.2.2.2.1=0)<;>rfl
  · rw [A4 hk,if_neg (by omega),if_neg (by omega),if_neg (by omega)]
    cases idB r.2.2.2.1<;>rfl
theorem Z7{r:H4}(h:O9 r=true):0≤r.1∧r.1≤10000∧1≤r.2.2.1∧r.2.2.1≤4∧r.2.2.2.1.size≤8∧0≤r.2.2.2.2.1∧r.2.2.2.2.1≤1000000000∧List.length r.2.2.2.2.2≤24:=by
  simp only [O9,idB,Bool.and_eq_true,decide_eq_true_eq] at h
  obtain ⟨⟨⟨h1,h2⟩,h3,h4⟩,h5⟩:=h
  split at h5
  · simp only [Bool.and_eq_true,decide_eq_true_eq] at h5;omega
  · split at h5
    · simp only [Bool.and_eq_true,decide_eq_true_eq] at h5;omega
    · split at h5
      · simp only [Bool.and_eq_true,decide_eq_true_eq] at h5;omega
      · cases h5
theorem D5O{a b:List Int}(ha:Byt a)(hb:Byt b):Byt (a++b):=fun x hx=>(List.mem_append.1 hx).elim (ha x) (hb x)
theorem E4F(n:Int)(k:Nat):Byt (big n k):=by
  intro x hx
  obtain ⟨j,_,rfl⟩:=List.mem_map.1 hx
  exact wrap_u8 _
theorem B0C(s:ByteArray):Byt (bytesOf s):=by
  intro x hx
  obtain ⟨b,_,rfl⟩:=List.mem_map.1 hx
  have:=b.toNat_lt
  omega
theorem A22:Byt []:=fun x hx=>by cases hx
theorem B1q{a:List Int}(h:Byt a)(i:Nat):Byt (a.drop i):=fun x hx=>h x (List.mem_of_mem_drop hx)
def B4j(r:H4):List Int:=
  big (Z6 r.1) 3++big (Z6 r.2.1) 2++big (Z6 r.2.2.1) 1++big (Z6 (r.2.2.2.1.size:Int)) 1++bytesOf r.2.2.2.1++big (Z6 r.2.2.2.2.1) 4++big (Z6 (List.length r.2.2.2.2.2:Int)) 1++r.2.2.2.2.2
def F0Z(b:List Int):Int:=((B1G b ^^^ 4294967295:Nat):Int)
def V4(r:H4):ByteArray:=strOf (B4j r++big (Z6 (F0Z (B4j r))) 4)
theorem B60(r:H4):(B4j r).length=12+r.2.2.2.1.size+List.length r.2.2.2.2.2:=by
  simp only [B4j,List.length_append,J4,bytesOf_length]
  omega
theorem C8h(r:H4)(h:Byt r.2.2.2.2.2):Byt (B4j r):=by
  unfold B4j
  repeat' first | apply D5O | apply E4F | apply B0C | exact h
theorem C4Y(r:H4)(h1:r.2.2.2.1.size≤10000000)(h2:List.length r.2.2.2.2.2≤10000000)(hb:Byt r.2.2.2.2.2):A3I r=some (V4 r,()):=by
  have hlen:=B60 r
  simp only [A3I,C01]
  rw [show (3:Int)=((3:Nat):Int) from rfl,A1Y [] _ 3 (by omega) (by omega) (by simp)]
  simp only [A3,List.nil_append]
  rw [show (2:Int)=((2:Nat):Int) from rfl,A1Y _ _ 2 (by omega) (by omega) (by simp [J4])]
  simp only
  rw [show (1:Int)=((1:Nat):Int) from rfl,A1Y _ _ 1 (by omega) (by omega) (by simp [J4])]
  simp only
  rw [A1Y _ _ 1 (by omega) (by omega) (by simp [J4])]
  simp only
  rw [A0 (by simp [J4];omega)]
  simp only [cond_true]
  rw [show (4:Int)=((4:Nat):Int) from rfl,A1Y _ _ 4 (by omega) (by omega) (by simp [J4,bytesOf_length];omega)]
  simp only
  rw [A1Y _ _ 1 (by omega) (by omega) (by simp [J4,bytesOf_length];omega)]
  simp only
  rw [A0 (by simp [J4,bytesOf_length];omega),A0 (by simp [J4,bytesOf_length];omega)]
  simp only [cond_true]
  have e:big (Z6 r.1) 3++big (Z6 r.2.1) 2++big (Z6 r.2.2.1) 1++big (Z6 (r.2.2.2.1.size:Int)) 1++bytesOf r.2.2.2.1++big (Z6 r.2.2.2.2.1) 4++big (Z6 (List.length r.2.2.2.2.2:Int)) 1++r.2.2.2.2.2=B4j r:=rfl
  rw [e,C8c _ (C8h r hb) (by rw [hlen];simp only [maxLen];omega)]
  simp only
  rw [A1Y _ _ 4 (by omega) (by omega) (by rw [hlen];omega)]
  rfl
theorem D5P(n:Int):big n 1 = [IntKind.u8.wrap n]:=by
  simp [big,C8Z]
theorem A4j{n:Int}(h:0≤n):Z6 n=n:=by unfold Z6;rw [if_neg (by omega)]
theorem C4Z(r:H4)(h1:r.2.2.2.1.size≤maxLen)(hb:Byt r.2.2.2.2.2):A3F r=some (if O9 r then V4 r else ⟨#[]⟩,()):=by
  simp only [A3F,B9s,C8g r h1]
  cases hr:O9 r with
  | false=>rfl
  | true=>
    have hbd:=Z7 hr
    have hlen:=B60 r
    simp only [A3,Bool.not_true,cond_false]
    rw [show (3:Int)=((3:Nat):Int) from rfl,B0B [] _ 3 (by omega) (by simp)]
    simp only [List.nil_append]
    rw [show (2:Int)=((2:Nat):Int) from rfl,B0B _ _ 2 (by omega) (by simp [J4])]
    simp only
    rw [A0 (by simp [J4]),A0 (by simp [J4])]
    simp only [cond_true]
    rw [A0 (by simp [J4];omega)]
    simp only [cond_true]
    rw [show (4:Int)=((4:Nat):Int) from rfl,B0B _ _ 4 (by omega) (by simp [J4,bytesOf_length];omega)]
    simp only
    rw [A0 (by simp [J4,bytesOf_length];omega),A0 (by simp [J4,bytesOf_length];omega)]
    simp only [cond_true]
    rw [A0 (by simp [J4,bytesOf_length];omega),A0 (by simp [J4,bytesOf_length];omega)]
    simp only [cond_true]
    have e:big (Z6 r.1) 3++big (Z6 r.2.1) 2 ++ [IntKind.u8.wrap r.2.2.1,IntKind.u8.wrap (r.2.2.2.1.size:Int)]++bytesOf r.2.2.2.1++big (Z6 r.2.2.2.2.1) 4 ++ [IntKind.u8.wrap (List.length r.2.2.2.2.2:Int)]++r.2.2.2.2.2=B4j r:=by
      unfold B4j
      rw [D5P,D5P,D5P,A4j (n:=r.2.2.1) (by omega),A4j (n:=(r.2.2.2.1.size:Int)) (by omega),A4j (n:=(List.length r.2.2.2.2.2:Int)) (by omega)]
      simp [List.append_assoc]
    rw [e,C8d _ (C8h r hb) (by rw [hlen];simp only [maxLen];omega)]
    simp only
    rw [B0B _ _ 4 (by omega) (by rw [hlen];omega)]
    rfl
def D9(b:List Int):Nat:=V1 b 6 1
def O0(b:List Int):Nat:=V1 b (11+D9 b) 1
def recAt(b:List Int):H4:=((V1 b 0 3:Int),(V1 b 3 2:Int),(V1 b 5 1:Int),strOf ((b.take (7+D9 b)).drop 7),(V1 b (7+D9 b) 4:Int),(b.take (12+D9 b+O0 b)).drop (12+D9 b))
def E4G:H4×Bool×Unit:=((0,0,0,⟨#[]⟩,0,[]),false,())
def B3h(s:ByteArray):Bool:=decide (12+D9 (bytesOf s)+O0 (bytesOf s)≤s.size)&&O9 (recAt (bytesOf s))&&((V4 (recAt (bytesOf s))).toList == s.toList)
def F7(s:ByteArray):H4×Bool×Unit:=if B3h s=true then (recAt (bytesOf s),true,()) else E4G
theorem A5d(b:List Int)(a k:Nat)(h:a+k≤b.length):A5b b (a:Int) k=((V1 b a k:Int),true,()):=by
  unfold A5b
  rw [if_pos (by omega),Int.toNat_natCast]
theorem C3R(b:List Int)(a k:Nat)(h:¬ a+k≤b.length):A5b b (a:Int) k=(0,false,()):=by
  unfold A5b
  rw [if_neg (by omega)]
theorem C7c{b:List Int}(hb:Byt b)(a:Nat):V1 b a 1<256:=by
  have:=D5N hb a 1
  omega
theorem D3y(b:List Int)(h:12+D9 b+O0 b≤b.length):(recAt b).2.2.2.1.size=D9 b∧List.length (recAt b).2.2.2.2.2=O0 b:=by
  simp only [recAt,A5c,List.length_drop,List.length_take]
  omega
theorem C3S{b:List Int}(hb:Byt b):Byt (recAt b).2.2.2.2.2:=B1q (A6u hb _) _
theorem A6w(s:ByteArray)(hs:s.size≤1048576):K5 s=some (F7 s):=by
  have hbl:=bytesOf_length s
  have hb:=B0C s
  have hh:(bytesOf s).length≤1048576:=by omega
  have hsz:s.size=(bytesOf s).length:=hbl.symm
  simp only [F7,B3h,hsz]
  have hlen:decide ((bytesOf s).length≤9223372036854775807)=true:=A0 (by omega)
  simp only [K5,C02,hsz,hlen,cond_true]
  clear hlen hsz
  generalize bytesOf s=b at hb hh ⊢
  clear hbl
  have g0:∀ (a:Int) (k:Nat) (k':Int),k' = (k:Int)→1≤k∧k≤7→A5T b a k' = some (A5b b a k):=fun a k k' e hk=>by rw [e];exact D7s b hb hh a k hk
  have q0:=g0 0 3 3 rfl (by omega)
  have q3:=g0 3 2 2 rfl (by omega)
  have q5:=g0 5 1 1 rfl (by omega)
  have q6:=g0 6 1 1 rfl (by omega)
  simp only [q0,q3,q5,q6]
  by_cases c1:7≤b.length
  · have e0:=A5d b 0 3 (by omega)
    have e3:=A5d b 3 2 (by omega)
    have e5:=A5d b 5 1 (by omega)
    have e6:=A5d b 6 1 (by omega)
    simp only [Int.cast_ofNat_Int] at e0 e3 e5 e6
    have hn:=C7c hb 6
    have hN:(V1 b 6 1:Int)=((D9 b:Nat):Int):=rfl
    have hn':D9 b<256:=hn
    simp only [e0,e3,e5,e6,A3,Bool.not_true,cond_false,hN]
    rw [w64 (n:=7+(D9 b:Int)) (by omega) (by omega),w64 (n:=11+(D9 b:Int)) (by omega) (by omega),w64 (n:=12+(D9 b:Int)) (by omega) (by omega)]
    by_cases c2:7+D9 b≤b.length
    · rw [A4 (show ¬ 7+(D9 b:Int)>(b.length:Int) by omega)]
      simp only [cond_false,C2]
      rw [A0 (show 7≤7+(D9 b:Int) by omega),A0 (show 7+(D9 b:Int)≤(b.length:Int) by omega)]
      simp only [cond_true]
      have q7:=g0 (7+(D9 b:Int)) 4 4 rfl (by omega)
      have q11:=g0 (11+(D9 b:Int)) 1 1 rfl (by omega)
      simp only [q7,q11]
      by_cases c3:12+D9 b≤b.length
      · have e7:=A5d b (7+D9 b) 4 (by omega)
        have e11:=A5d b (11+D9 b) 1 (by omega)
        simp only [Int.natCast_add,Int.cast_ofNat_Int] at e7 e11
        have hm:O0 b<256:=C7c hb _
        have hM:(V1 b (11+D9 b) 1:Int)=((O0 b:Nat):Int):=rfl
        simp only [e7,e11,Bool.not_true,cond_false,hM]
        rw [w64 (n:=12+(D9 b:Int)+(O0 b:Int)) (by omega) (by omega)]
        by_cases c4:12+D9 b+O0 b≤b.length
        · rw [A4 (show ¬ 12+(D9 b:Int)+(O0 b:Int)>(b.length:Int) by omega),A0 (show 0≤12+(D9 b:Int) by omega),A0 (show 12+(D9 b:Int)≤12+(D9 b:Int)+(O0 b:Int) by omega),A0 (show 12+(D9 b:Int)+(O0 b:Int)≤(b.length:Int) by omega)]
          simp only [cond_true,cond_false]
          rw [A0 (by simp;omega),A0 (by simp;omega)]
          have t1:(7+(D9 b:Int)).toNat=7+D9 b:=by omega
          have t2:(12+(D9 b:Int)+(O0 b:Int)).toNat=12+D9 b+O0 b:=by omega
          have t3:(12+(D9 b:Int)).toNat=12+D9 b:=by omega
          simp only [cond_true,List.nil_append,t1,t2,t3]
          have hr:(((V1 b 0 3:Nat):Int),((V1 b 3 2:Nat):Int),((V1 b 5 1:Nat):Int),strOf ((b.take (7+D9 b)).drop 7),((V1 b (7+D9 b) 4:Nat):Int),(b.take (12+D9 b+O0 b)).drop (12+D9 b))=recAt b:=rfl
          obtain ⟨l1,l2⟩:=D3y b c4
          rw [hr,E1d _ (by rw [l1];simp only [maxLen];omega),C4Y _ (by rw [l1];omega) (by rw [l2];omega) (C3S hb)]
          rw [A0 c4]
          simp only [Bool.true_and]
          cases O9 (recAt b)
          · rfl
          · cases hp:((V4 (recAt b)).toList == s.toList)
            · rfl
            · rfl
        · rw [A0 (show 12+(D9 b:Int)+(O0 b:Int)>(b.length:Int) by omega),A4 c4]
          rfl
      · have e11:=C3R b (11+D9 b) 1 (by omega)
        simp only [Int.natCast_add,Int.cast_ofNat_Int] at e11
        simp only [e11]
        rw [A4 (show ¬ 12+D9 b+O0 b≤b.length by omega)]
        cases (A5b b (7+(D9 b:Int)) 4).2.1<;>rfl
    · rw [A0 (show 7+(D9 b:Int)>(b.length:Int) by omega),A4 (show ¬ 12+D9 b+O0 b≤b.length by omega)]
      rfl
  · have e6:=C3R b 6 1 (by omega)
    simp only [Int.cast_ofNat_Int] at e6
    rw [A4 (show ¬ 12+D9 b+O0 b≤b.length by omega)]
    simp only [e6,A3]
    cases (A5b b 0 3).2.1<;>cases (A5b b 3 2).2.1<;>cases (A5b b 5 1).2.1<;>rfl
theorem A0U{b:List Int}(hb:Byt b)(hh:b.length≤1048576)(a k:Nat)(k':Int)(e:k' = (k:Int))(hk:1≤k∧k≤7)(h:a+k≤b.length):D7 (b,(a:Int),false) k' = some ((V1 b a k:Int),(b,((a+k:Nat):Int),false),()):=by
  subst e
  simp only [D7,P4,B5z b hb hh _ k hk,A5d b a k h,A3,C2,Bool.not_true,cond_false]
  rw [w64 (by omega) (by omega)]
  rfl
theorem A86{b:List Int}(hb:Byt b)(hh:b.length≤1048576)(a k:Nat)(k':Int)(e:k' = (k:Int))(hk:1≤k∧k≤7)(h:¬ a+k≤b.length):D7 (b,(a:Int),false) k' = some (0,(b,(a:Int),true),()):=by
  subst e
  simp only [D7,P4,B5z b hb hh _ k hk,C3R b a k h,A3,C2,Bool.not_false,cond_false,cond_true]
theorem E9S{b:List Int}(hb:Byt b)(hh:b.length≤1048576)(a:Int)(k:Nat)(k':Int)(e:k' = (k:Int))(hk:1≤k∧k≤7):D7 (b,a,true) k' = some (0,(b,a,true),()):=by
  subst e
  simp only [D7,P4,B5z b hb hh _ k hk,A3,C2,cond_true]
theorem E7u(b:List Int)(a n:Int):H2 (b,a,true) n=some ([],(b,a,true),()):=by
  simp only [H2,S1,cond_true,C2]
theorem C3T{b:List Int}(hh:b.length≤1048576)(a n:Nat)(h:a+n≤b.length):H2 (b,(a:Int),false) (n:Int)=some ((b.take (a+n)).drop a,(b,((a+n:Nat):Int),false),()):=by
  simp only [H2,S1,cond_false]
  rw [w64 (n:=(b.length:Int)-(a:Int)) (by omega) (by omega),A4 (by omega),w64 (n:=(a:Int)+(n:Int)) (by omega) (by omega),w64 (n:=(a:Int)+(n:Int)-(n:Int)) (by omega) (by omega)]
  simp only [cond_false,C2]
  rw [A0 (by omega),A0 (by omega),A0 (by omega)]
  simp only [cond_true]
  rw [A2Q _ (by simp;omega),show ((a:Int)+(n:Int)).toNat=a+n by omega,show ((a:Int)+(n:Int)-(n:Int)).toNat=a by omega]
  rfl
theorem C8i{b:List Int}(hh:b.length≤1048576)(a n:Nat)(ha:a≤b.length)(h:¬ a+n≤b.length):H2 (b,(a:Int),false) (n:Int)=some ([],(b,(a:Int),true),()):=by
  simp only [H2,S1,cond_false]
  rw [w64 (n:=(b.length:Int)-(a:Int)) (by omega) (by omega),A0 (by omega)]
  rfl
theorem B61(s:ByteArray)(hs:s.size≤1048576):A0A s=some (F7 s):=by
  have hbl:=bytesOf_length s
  have hb:=B0C s
  have hh:(bytesOf s).length≤1048576:=by omega
  have hsz:s.size=(bytesOf s).length:=hbl.symm
  simp only [F7,B3h,hsz]
  have hlen:decide ((bytesOf s).length≤9223372036854775807)=true:=A0 (by omega)
  simp only [A0A,B9t,hsz,hlen,cond_true]
  clear hlen hsz
  generalize bytesOf s=b at hb hh ⊢
  clear hbl
  have nb:∀ (a:Int) (k:Nat) (k':Int),k' = (k:Int)→1≤k∧k≤7→D7 (b,a,true) k' = some (0,(b,a,true),()):=fun a k k' e hk=>E9S hb hh a k k' e hk
  have nb1:∀ a:Int,D7 (b,a,true) 1=some (0,(b,a,true),()):=fun a=>nb a 1 1 rfl (by omega)
  have nb2:∀ a:Int,D7 (b,a,true) 2=some (0,(b,a,true),()):=fun a=>nb a 2 2 rfl (by omega)
  have nb4:∀ a:Int,D7 (b,a,true) 4=some (0,(b,a,true),()):=fun a=>nb a 4 4 rfl (by omega)
  have tb:=E7u b
  have z0:((0:Int),false)=(((0:Nat):Int),false):=rfl
  rw [z0]
  by_cases c4:12+D9 b+O0 b≤b.length
  · have hn':D9 b<256:=C7c hb _
    have hm':O0 b<256:=C7c hb _
    have hN:(V1 b 6 1:Int)=((D9 b:Nat):Int):=rfl
    have hM:(V1 b (11+D9 b) 1:Int)=((O0 b:Nat):Int):=rfl
    rw [A0U hb hh 0 3 3 rfl (by omega) (by omega)]
    simp only [A3]
    rw [A0U hb hh (0+3) 2 2 rfl (by omega) (by omega)]
    simp only
    rw [A0U hb hh (0+3+2) 1 1 rfl (by omega) (by omega)]
    simp only
    rw [A0U hb hh (0+3+2+1) 1 1 rfl (by omega) (by omega)]
    simp only [Nat.zero_add,Nat.reduceAdd,hN]
    rw [C3T hh 7 (D9 b) (by omega)]
    simp only
    rw [A0U hb hh (7+D9 b) 4 4 rfl (by omega) (by omega)]
    simp only
    rw [A0U hb hh (7+D9 b+4) 1 1 rfl (by omega) (by omega)]
    simp only
    rw [show 7+D9 b+4=11+D9 b by omega,hM,show 11+D9 b+1=12+D9 b by omega,C3T hh (12+D9 b) (O0 b) (by omega)]
    simp only [cond_false]
    have hr:(((V1 b 0 3:Nat):Int),((V1 b 3 2:Nat):Int),((V1 b 5 1:Nat):Int),strOf ((b.take (7+D9 b)).drop 7),((V1 b (7+D9 b) 4:Nat):Int),(b.take (12+D9 b+O0 b)).drop (12+D9 b))=recAt b:=rfl
    obtain ⟨l1,l2⟩:=D3y b c4
    rw [hr,C8g _ (by rw [l1];simp only [maxLen];omega),C4Z _ (by rw [l1];simp only [maxLen];omega) (C3S hb)]
    rw [A0 c4]
    simp only [Bool.true_and]
    cases O9 (recAt b)
    · rfl
    · cases hp:((V4 (recAt b)).toList == s.toList)
      · simp [hp];rfl
      · simp [hp]
  · rw [A4 c4]
    have fin:(if (false&&O9 (recAt b)&&((V4 (recAt b)).toList == s.toList))=true then (recAt b,true,()) else E4G)=E4G:=by simp
    rw [fin]
    rcases Nat.lt_or_ge b.length (0+3) with d3 | d3
    · rw [A86 hb hh 0 3 3 rfl (by omega) (by omega)]
      simp only [A3,nb1,nb2,nb4,tb]
      rfl
    rw [A0U hb hh 0 3 3 rfl (by omega) d3]
    simp only [A3]
    rcases Nat.lt_or_ge b.length (0+3+2) with d5 | d5
    · rw [A86 hb hh (0+3) 2 2 rfl (by omega) (by omega)]
      simp only [nb1,nb2,nb4,tb]
      rfl
    rw [A0U hb hh (0+3) 2 2 rfl (by omega) d5]
    simp only
    rcases Nat.lt_or_ge b.length (0+3+2+1) with d6 | d6
    · rw [A86 hb hh (0+3+2) 1 1 rfl (by omega) (by omega)]
      simp only [nb1,nb2,nb4,tb]
      rfl
    rw [A0U hb hh (0+3+2) 1 1 rfl (by omega) d6]
    simp only
    rcases Nat.lt_or_ge b.length (0+3+2+1+1) with d7 | d7
    · rw [A86 hb hh (0+3+2+1) 1 1 rfl (by omega) (by omega)]
      simp only [nb1,nb2,nb4,tb]
      rfl
    rw [A0U hb hh (0+3+2+1) 1 1 rfl (by omega) d7]
    have hN:(V1 b 6 1:Int)=((D9 b:Nat):Int):=rfl
    have hM:(V1 b (11+D9 b) 1:Int)=((O0 b:Nat):Int):=rfl
    simp only [Nat.zero_add,Nat.reduceAdd,hN]
    rcases Nat.lt_or_ge b.length (7+D9 b) with e7 | e7
    · rw [C8i hh 7 (D9 b) (by omega) (by omega)]
      simp only [nb1,nb2,nb4,tb]
      rfl
    rw [C3T hh 7 (D9 b) e7]
    simp only
    rcases Nat.lt_or_ge b.length (7+D9 b+4) with e11 | e11
    · rw [A86 hb hh (7+D9 b) 4 4 rfl (by omega) (by omega)]
      simp only [nb1,nb2,nb4,tb]
      rfl
    rw [A0U hb hh (7+D9 b) 4 4 rfl (by omega) e11]
    simp only
    rcases Nat.lt_or_ge b.length (7+D9 b+4+1) with e12 | e12
    · rw [A86 hb hh (7+D9 b+4) 1 1 rfl (by omega) (by omega)]
      simp only [nb1,nb2,nb4,tb]
      rfl
    rw [A0U hb hh (7+D9 b+4) 1 1 rfl (by omega) e12]
    simp only
    rw [show 7+D9 b+4=11+D9 b by omega,hM,show 11+D9 b+1=12+D9 b by omega,C8i hh (12+D9 b) (O0 b) (by omega) c4]
    rfl
theorem A87:∀ x:List UInt8,Op.bytesLess x x=false
  | []=>rfl
  | a::x=>by
    have h:¬ a<a:=UInt8.lt_irrefl a
    simp [Op.bytesLess,A87 x,h]
theorem C1B:∀ {x y z:List UInt8},Op.bytesLess x y=true→Op.bytesLess y z=true→Op.bytesLess x z=true
  | _,[],_,h,_=>by cases ‹List UInt8›<;>simp [Op.bytesLess] at h
  | _,_::_,[],_,h=>by simp [Op.bytesLess] at h
  | [],_::_,_::_,_,_=>rfl
  | a::x,b::y,c::z,h1,h2=>by
    simp only [Op.bytesLess,Bool.or_eq_true,Bool.and_eq_true,decide_eq_true_eq,beq_iff_eq] at h1 h2 ⊢
    rcases h1 with h1 | ⟨rfl,h1⟩
    · rcases h2 with h2 | ⟨rfl,h2⟩
      · exact .inl (UInt8.lt_trans h1 h2)
      · exact .inl h1
    · rcases h2 with h2 | ⟨rfl,h2⟩
      · exact .inl h2
      · exact .inr ⟨rfl,C1B h1 h2⟩
theorem D7u:∀ {x y:List UInt8},Op.bytesLess x y=false→Op.bytesLess y x=false→x=y
  | [],[],_,_=>rfl
  | [],_::_,h,_=>by simp [Op.bytesLess] at h
  | _::_,[],_,h=>by simp [Op.bytesLess] at h
  | a::x,b::y,h1,h2=>by
    simp only [Op.bytesLess,Bool.or_eq_false_iff,decide_eq_false_iff_not,Bool.and_eq_false_iff,beq_eq_false_iff_ne] at h1 h2
    have hab:a=b:=by
      apply UInt8.le_antisymm
      · exact UInt8.not_lt.1 h2.1
      · exact UInt8.not_lt.1 h1.1
    subst hab
    exact congrArg (a::·) (D7u (by simpa using h1.2) (by simpa using h2.2))
theorem E7v{x y:List UInt8}(h:Op.bytesLess x y=true):Op.bytesLess y x=false:=by
  cases e:Op.bytesLess y x with
  | false=>rfl
  | true=>have:=C1B h e;rw [A87] at this;cases this
def Ord(us:List TUp):Prop:=us.Pairwise fun a b=>Op.bytesLess a.1.toList b.1.toList=true
theorem D5Q{us:List TUp}(h:Ord us){i j:Nat}(hij:i<j)(hj:j<us.length):Op.bytesLess (us[i]'(by omega)).1.toList us[j].1.toList=true:=List.pairwise_iff_getElem.1 h i j (by omega) hj hij
def B5(us:List TUp)(id:ByteArray):Nat:=O7 (fun i=>Op.bytesLess (rd kUp us (i:Int)).1.toList id.toList) 0 us.length
def I1(us:List TUp)(id:ByteArray):Bool:=decide (B5 us id<us.length)&&((rd kUp us (B5 us id:Int)).1.toList == id.toList)
theorem B0D(go:Nat→Bool):∀ k i j,i≤j→j<O7 go i k→go j=true
  | 0,i,j,h1,h2=>by simp only [O7] at h2;omega
  | k+1,i,j,h1,h2=>by
    simp only [O7] at h2
    split at h2
    · rename_i hg
      by_cases e:j=i
      · rw [e];exact hg
      · exact B0D go k (i+1) j (by omega) h2
    · omega
theorem B0E(go:Nat→Bool)(n p:Nat)(hp:p≤n)(h1:∀ j,j<p→go j=true)(h2:p<n→go p=false):O7 go 0 n=p:=by
  have hl:=C3O go n 0
  rcases Nat.lt_trichotomy (O7 go 0 n) p with h | h | h
  · have:=B3f go n 0 (by omega)
    rw [h1 _ h] at this;cases this
  · exact h
  · have:=B0D go n 0 p (by omega) h
    rw [h2 (by omega)] at this;cases this
theorem A6x(us:List TUp)(id:ByteArray):B5 us id≤us.length:=by have:=C3O (fun i=>Op.bytesLess (rd kUp us (i:Int)).1.toList id.toList) us.length 0;unfold B5;omega
theorem B62{us:List TUp}{id:ByteArray}{j:Nat}(hj:j<B5 us id):Op.bytesLess (us[j]'(by have:=A6x us id;omega)).1.toList id.toList=true:=by
  have:=B0D _ us.length 0 j (by omega) hj
  rwa [C9 (k:=kUp) (xs:=us) (by have:=A6x us id;omega)] at this
theorem C1C{us:List TUp}{id:ByteArray}(h:B5 us id<us.length):Op.bytesLess us[B5 us id].1.toList id.toList=false:=by
  have:=B3f (fun i=>Op.bytesLess (rd kUp us (i:Int)).1.toList id.toList) us.length 0 (by unfold B5 at h;omega)
  have h2:Op.bytesLess (rd kUp us (B5 us id:Int)).1.toList id.toList=false:=this
  rwa [C9 (k:=kUp) (xs:=us) h] at h2
theorem E7w{us:List TUp}(ho:Ord us){id:ByteArray}{j:Nat}(hj:B5 us id≤j)(hl:j<us.length):Op.bytesLess us[j].1.toList id.toList=false:=by
  rcases Nat.eq_or_lt_of_le hj with e | h
  · subst e;exact C1C hl
  · cases e:Op.bytesLess us[j].1.toList id.toList with
    | false=>rfl
    | true=>
      have:=C1B (D5Q ho h hl) e
      rw [C1C (by omega)] at this
      cases this
theorem K9{us:List TUp}{id:ByteArray}:I1 us id=true↔∃ h:B5 us id<us.length,us[B5 us id].1.toList=id.toList:=by
  unfold I1
  constructor
  · intro h
    simp only [Bool.and_eq_true,decide_eq_true_eq,beq_iff_eq] at h
    refine ⟨h.1,?_⟩
    have h2:=h.2
    rwa [C9 (k:=kUp) (xs:=us) h.1] at h2
  · rintro ⟨h,e⟩
    simp only [Bool.and_eq_true,decide_eq_true_eq,beq_iff_eq]
    refine ⟨h,?_⟩
    rw [C9 (k:=kUp) (xs:=us) h]
    exact e
theorem C1D{us:List TUp}(ho:Ord us){id:ByteArray}(hn:I1 us id=false){j:Nat}(hj:B5 us id≤j)(hl:j<us.length):Op.bytesLess id.toList us[j].1.toList=true:=by
  cases e:Op.bytesLess id.toList us[j].1.toList with
  | true=>rfl
  | false=>
    have h1:=D7u (E7w ho hj hl) e
    exfalso
    rcases Nat.eq_or_lt_of_le hj with e2 | h
    · subst e2
      have:=K9.2 ⟨hl,h1⟩
      rw [hn] at this;cases this
    · have h2:=D5Q ho h hl
      rw [h1,C1C (by omega)] at h2
      cases h2
theorem C8j{us:List TUp}(ho:Ord us){id:ByteArray}(h:I1 us id=true):E5S us id=B5 us id:=by
  obtain ⟨hl,e⟩:=K9.1 h
  refine B0E _ us.length _ (A6x us id) (fun j hj=>?_) (fun _=>?_)
  · rw [C9 (k:=kUp) (xs:=us) (by omega)]
    have h1:=B62 hj
    cases e2:((us[j]'(by omega)).1.toList == id.toList) with
    | false=>rfl
    | true=>
      rw [eq_of_beq e2,A87] at h1
      cases h1
  · rw [C9 (k:=kUp) (xs:=us) hl,e]
    simp
theorem C8k{us:List TUp}(ho:Ord us){id:ByteArray}(h:I1 us id=false):E5S us id=us.length:=by
  refine B0E _ us.length _ (Nat.le_refl _) (fun j hj=>?_) (fun h=>by omega)
  rw [C9 (k:=kUp) (xs:=us) hj]
  cases e2:(us[j].1.toList == id.toList) with
  | false=>rfl
  | true=>
    exfalso
    have e3:=eq_of_beq e2
    by_cases hp:j<B5 us id
    · have h1:=B62 hp
      rw [e3,A87] at h1
      cases h1
    · have h1:=C1D ho h (show B5 us id≤j by omega) hj
      rw [e3,A87] at h1
      cases h1
theorem D3z(us:List TUp)(id:ByteArray)(h:us.length≤maxLen):A1A us id=some ((B5 us id:Int),I1 us id,()):=by
  simp only [A1A,C11]
  have e:=A3g (A8M us id) (fun i=>((i:Int),())) us.length (fun i=>((i:Int),())) (fun i=>Op.bytesLess (rd kUp us (i:Int)).1.toList id.toList) (fun i hi=>?_) ?_
  · have e':B8 (A8M us id) (0,())=some ((B5 us id:Int),()):=e
    rw [e']
    simp only [A3]
    have hle:=A6x us id
    unfold I1
    by_cases hl:B5 us id<us.length
    · rw [A0 (show (B5 us id:Int)<(us.length:Int) by omega),A0 (show (0:Int)≤(B5 us id:Int) by omega),A0 hl]
      simp
    · rw [A4 (show ¬ (B5 us id:Int)<(us.length:Int) by omega),A4 hl]
      simp
  · have h1:((i:Int)<(us.length:Int)):=by omega
    have h2:(0:Int)≤(i:Int):=by omega
    simp only [A8M,A0 h1,A0 h2,cond_true]
    rw [w64 (by omega) (by simp only [maxLen] at h;omega)]
    cases Op.bytesLess (rd kUp us (i:Int)).1.toList id.toList<;>simp
  · simp [A8M]
theorem C0N(us:List TUp)(h:us.length≤1048576)(hd:∀ u∈us,List.length u.2.2.1≤2000000000):K6 us=some (us,()):=by
  simp only [K6,A4G]
  have key:=E0 (A1x us) (fun i=>((i:Int),us.take i,())) us.length (us,()) (fun i hi=>?_) ?_
  · simpa using key
  · have h1:((i:Int)<(us.length:Int)):=by omega
    have h2:(0:Int)≤(i:Int):=by omega
    have hu:List.length (rd kUp us (i:Int)).2.2.1≤2000000000:=by
      rw [C9 (k:=kUp) (xs:=us) hi]
      exact hd _ (List.getElem_mem hi)
    have e:((rd kUp us (i:Int)).1,(rd kUp us (i:Int)).2.1,[]++(rd kUp us (i:Int)).2.2.1,(rd kUp us (i:Int)).2.2.2)=us[i]:=by
      rw [C9 (k:=kUp) (xs:=us) hi]
      rfl
    simp only [A1x,A0 h1,A0 h2,cond_true,e]
    rw [A0 (by simp;omega),A0 (by simp;omega),A0 (by simp;omega),A0 (by simp;omega),w64 (by omega) (by omega)]
    simp only [cond_true]
    rw [List.take_succ_eq_append_getElem hi]
    rfl
  · simp [A1x]
theorem E1e(us:List TUp)(u:TUp)(ho:Ord us)(h:us.length≤1048576)(hd:∀ u∈us,List.length u.2.2.1≤2000000000) :
    ∃ k,k≤us.length∧N1 us u=some (us.take k++u::us.drop k,())∧(I1 us u.1=false→k=B5 us u.1):=by
  simp only [N1,Z1,C0N us h hd,A3]
  rw [A0 (by simp;omega),A0 (by simp;omega)]
  simp only [cond_true]
  have hst:IntKind.i64.wrap (((us ++ [u]).length:Int)-1)=(us.length:Int):=by
    rw [w64 (by simp only [List.length_append,List.length_singleton];omega) (by simp only [List.length_append,List.length_singleton];omega)]
    simp
  rw [hst]
  obtain ⟨z,e,k,hz1,hz2,hz3⟩:=A0i (V3 u) (fun l=>l.1.toNat)
    (fun l=>∃ (k:Nat) (c:TUp),l.1=(k:Int)∧k≤us.length∧l.2.1=us.take k++c::us.drop k∧(I1 us u.1=false→B5 us u.1≤k))
    (fun z=>∃ k:Nat,k≤us.length∧(I1 us u.1=false→k=B5 us u.1)∧∃ c,z=((k:Int),us.take k++c::us.drop k,())) (fun l hl=>by
      obtain ⟨l1,l2,l3⟩:=l
      obtain ⟨k,c,h1,h2,h3,h4⟩:=hl
      simp only at h1 h3
      subst h1;subst h3
      simp only [V3]
      by_cases hk:k=0
      · subst hk
        refine .inr ⟨_,by rw [A4 (by omega)];rfl,0,by omega,fun q=>?_,c,rfl⟩
        have:=h4 q;omega
      · obtain ⟨k,rfl⟩:∃ k',k=k'+1:=⟨k-1,by omega⟩
        have hlen:(us.take (k+1)++c::us.drop (k+1)).length=us.length+1:=by simp;omega
        have ew:IntKind.i64.wrap (((k+1:Nat):Int)-1)=(k:Int):=by rw [w64 (by omega) (by omega)];omega
        have hget:rd (.pair .str (.pair (.int .i64) (.pair (.rs 5 (.int .u8)) .bool))) (us.take (k+1)++c::us.drop (k+1)) (k:Int)=us[k]'(by omega):=by
          rw [C9 (k:=.pair .str (.pair (.int .i64) (.pair (.rs 5 (.int .u8)) .bool))) (xs:=us.take (k+1)++c::us.drop (k+1)) (by rw [hlen];omega)]
          rw [List.getElem_append_left (by simp;omega),List.getElem_take]
        rw [A0 (show ((k+1:Nat):Int)>0 by omega),ew,hlen,A0 (show (0:Int)≤(k:Int) by omega),A0 (show (k:Int)<((us.length+1:Nat):Int) by omega),hget]
        simp only [cond_true]
        have hlen2:(k:Int)+1=((k+1:Nat):Int):=by omega
        cases hc:(!(Op.bytesLess (us[k]'(by omega)).1.toList u.1.toList||((us[k]'(by omega)).1.toList == u.1.toList))) with
        | false=>
          refine Or.inr ⟨(((k+1:Nat):Int),us.take (k+1)++c::us.drop (k+1),()),rfl,k+1,h2,fun q=>?_,c,rfl⟩
          have h5:=h4 q
          by_cases hkp:B5 us u.1≤k
          · have h6:=C1D ho q hkp (by omega)
            simp only [Bool.not_eq_false',Bool.or_eq_true,beq_iff_eq] at hc
            rcases hc with hc | hc
            · rw [E7v h6] at hc;cases hc
            · rw [hc,A87] at h6;cases h6
          · omega
        | true=>
          refine Or.inl ⟨((k:Int),us.take k++(us[k]'(by omega))::us.drop k,()),?_,⟨k,us[k]'(by omega),rfl,by omega,rfl,fun q=>?_⟩,by simp only;omega⟩
          · simp only [cond_true,C2]
            rw [A0 (show (0:Int)≤((k+1:Nat):Int) by omega),A0 (show ((k+1:Nat):Int)<((us.length+1:Nat):Int) by omega)]
            simp only [cond_true,A3,Int.toNat_natCast]
            have e1:(us.take (k+1)++c::us.drop (k+1)).set (k+1) (us[k]'(by omega))=us.take k++(us[k]'(by omega))::us.drop k:=by
              rw [List.set_append_right _ _ (by simp;omega)]
              rw [show (us.take (k+1)).length=k+1 by simp;omega,Nat.sub_self,List.set_cons_zero,List.take_succ_eq_append_getElem (by omega),List.append_assoc,List.drop_eq_getElem_cons (i:=k) (by omega)]
              rfl
            rw [e1]
          · have h5:=h4 q
            by_cases hkp:k<B5 us u.1
            · have h6:=B62 hkp
              rw [h6] at hc
              simp at hc
            · omega) ((us.length:Int),us ++ [u],()) ⟨us.length,u,rfl,Nat.le_refl _,by simp,fun _=>A6x us u.1⟩
  obtain ⟨c,rfl⟩:=hz3
  rw [e]
  simp only
  have hlen:(us.take k++c::us.drop k).length=us.length+1:=by simp;omega
  rw [A0 (by omega),A0 (by rw [hlen];omega)]
  simp only [cond_true,Int.toNat_natCast]
  refine ⟨k,hz1,?_,hz2⟩
  rw [List.set_append_right _ _ (by simp;omega),show (us.take k).length=k by simp;omega,Nat.sub_self,List.set_cons_zero]
def C0O(r:H4):Prop:=O9 r=true∧Byt r.2.2.2.2.2
def UpG(u:TUp):Prop:=(List.length u.2.2.1:Int)≤u.2.1∧u.2.1≤1000000000∧u.1.size≤8∧Byt u.2.2.1
def Ups(us:List TUp):Prop:=Ord us∧us.length≤10∧∀ u∈us,UpG u
theorem B0F:Ups []:=⟨List.Pairwise.nil,by simp,fun u hu=>by cases hu⟩
theorem B3i{us:List TUp}(h:Ups us):∀ u∈us,List.length u.2.2.1≤2000000000:=fun u hu=>by have h1:=(h.2.2 u hu).1;have h2:=(h.2.2 u hu).2.1;omega
def N4(us:List TUp)(r:H4):Option (List TUp):=
  let p:=B5 us r.2.2.2.1
  let u:=rd kUp us (p:Int)
  if r.2.2.1=1 then (if I1 us r.2.2.2.1=true∨10≤us.length then none else some (us.take p++(r.2.2.2.1,r.2.2.2.2.1,[],false)::us.drop p))
  else if I1 us r.2.2.2.1=false then none
  else if r.2.2.1=2 then (if u.2.2.2=true∨r.2.2.2.2.1≠(List.length u.2.2.1:Int)∨(List.length u.2.2.1:Int)+(List.length r.2.2.2.2.2:Int)>u.2.1 then none else some (us.set p (u.1,u.2.1,u.2.2.1++r.2.2.2.2.2,u.2.2.2)))
  else if r.2.2.1=3 then (if u.2.2.2=true∨(List.length u.2.2.1:Int)≠u.2.1 then none else some (us.set p (u.1,u.2.1,u.2.2.1,true)))
  else if r.2.2.1=4 then some (us.take p++us.drop (p+1))
  else none
def B48(us:List TUp)(r:H4):List TUp×Bool×Unit:=match N4 us r with
  | some us'=>(us',true,())
  | none=>([],false,())
theorem D40(us:List TUp)(r:H4)(h:Ups us)(h2:List.length r.2.2.2.2.2≤1048576):A6Z us r=some (B48 us r):=by
  have hl:=h.2.1
  have hp:=A6x us r.2.2.2.1
  simp only [A6Z,C8L,D3z us _ (show us.length≤maxLen by simp only [maxLen];omega),A3,B48,N4]
  by_cases k1:r.2.2.1=1
  · rw [A0 k1,if_pos k1]
    simp only [cond_true]
    cases hh:I1 us r.2.2.2.1 with
    | true=>simp [C2]
    | false=>
      by_cases h10:10≤us.length
      · rw [A0 (show (us.length:Int)≥10 by omega),if_pos (.inr h10)]
        rfl
      · rw [A4 (show ¬ (us.length:Int)≥10 by omega),if_neg (by simp;omega)]
        simp only [cond_false,C2,J8,E4C]
        rw [A0 (by omega),A0 (by omega),A0 (by simp),A0 (by simp;omega)]
        simp [A3]
  rw [A4 k1,if_neg k1]
  simp only [cond_false]
  cases hh:I1 us r.2.2.2.1 with
  | false=>simp
  | true=>
    obtain ⟨hlt,hid⟩:=K9.1 hh
    have hu:(List.length us[B5 us r.2.2.2.1].2.2.1:Int)≤us[B5 us r.2.2.2.1].2.1∧us[B5 us r.2.2.2.1].2.1≤1000000000:=⟨(h.2.2 _ (List.getElem_mem hlt)).1,(h.2.2 _ (List.getElem_mem hlt)).2.1⟩
    have hrd:rd kUp us (B5 us r.2.2.2.1:Int)=us[B5 us r.2.2.2.1]:=C9 (k:=kUp) (xs:=us) hlt
    simp only [Bool.not_true,cond_false,Bool.true_eq_false,if_false]
    rw [A0 (by omega),A0 (by omega)]
    simp only [cond_true,Int.toNat_natCast,hrd]
    generalize us[B5 us r.2.2.2.1]=u at hu hid ⊢
    by_cases k2:r.2.2.1=2
    · rw [A0 k2,if_pos k2]
      simp only [cond_true]
      cases hd:u.2.2.2 with
      | true=>simp [C2]
      | false=>
        by_cases hn:r.2.2.2.2.1=(List.length u.2.2.1:Int)
        · rw [A0 hn,w64 (by omega) (by omega)]
          by_cases hw:(List.length u.2.2.1:Int)+(List.length r.2.2.2.2.2:Int)>u.2.1
          · rw [A0 hw,if_pos (.inr (.inr hw))]
            rfl
          · rw [A4 hw,if_neg (by simp [hn];omega)]
            simp only [Bool.not_true,cond_false,C2]
            rw [A0 (by omega),A0 (by omega)]
            rfl
        · rw [A4 hn,if_pos (.inr (.inl hn))]
          rfl
    rw [A4 k2,if_neg k2]
    by_cases k3:r.2.2.1=3
    · rw [A0 k3,if_pos k3]
      simp only [cond_true,cond_false]
      cases hd:u.2.2.2 with
      | true=>simp
      | false=>
        by_cases hn:(List.length u.2.2.1:Int)=u.2.1
        · rw [A0 hn,if_neg (by simp [hn])]
          rfl
        · rw [A4 hn,if_pos (.inr hn)]
          rfl
    rw [A4 k3,if_neg k3]
    by_cases k4:r.2.2.1=4
    · rw [A0 k4,if_pos k4,w64 (n:=(B5 us r.2.2.2.1:Int)+1) (by omega) (by omega)]
      simp only [cond_true,cond_false,K0,B45]
      rw [A0 (by omega),A0 (by omega),A0 (by omega)]
      simp only [cond_true,Int.toNat_natCast]
      rw [show ((B5 us r.2.2.2.1:Int)+1).toNat=B5 us r.2.2.2.1+1 by omega]
    rw [A4 k4,if_neg k4]
    rfl
theorem D7v(us:List TUp)(r:H4)(h:Ups us)(h2:List.length r.2.2.2.2.2≤1048576):∃ x,N2 us r=some (x,(B48 us r).2.1,())∧((B48 us r).2.1=true→x=(B48 us r).1):=by
  have hl:=h.2.1
  have hp:=A6x us r.2.2.2.1
  have hat:=D7p us r.2.2.2.1 (show us.length≤maxLen by simp only [maxLen];omega)
  have hcp:=C0N us (by omega) (B3i h)
  obtain ⟨k,hk,hmk,hmk2⟩:=E1e us (r.2.2.2.1,r.2.2.2.2.1,[],false) h.1 (by omega) (B3i h)
  simp only [N2,A5V,hat,hcp,hmk,A3,B48,N4]
  by_cases k1:r.2.2.1=1
  · rw [A0 k1,if_pos k1]
    simp only [cond_true]
    cases hh:I1 us r.2.2.2.1 with
    | true=>
      obtain ⟨hlt,hid⟩:=K9.1 hh
      rw [C8j h.1 hh,if_pos hlt,A4 (by omega)]
      simp
    | false=>
      have hk2:=hmk2 hh
      simp only at hk2
      rw [C8k h.1 hh,if_neg (Nat.lt_irrefl _),A0 (by omega)]
      simp only [cond_true]
      by_cases h10:10≤us.length
      · rw [A4 (by omega),if_pos (.inr h10)]
        simp
      · rw [A0 (by omega),if_neg (by simp;omega),hk2]
        simp
  rw [A4 k1,if_neg k1]
  simp only [cond_false]
  cases hh:I1 us r.2.2.2.1 with
  | false=>
    rw [C8k h.1 hh,if_neg (Nat.lt_irrefl _),A0 (by omega)]
    simp
  | true=>
    obtain ⟨hlt,hid⟩:=K9.1 hh
    have hu:(List.length us[B5 us r.2.2.2.1].2.2.1:Int)≤us[B5 us r.2.2.2.1].2.1∧us[B5 us r.2.2.2.1].2.1≤1000000000:=⟨(h.2.2 _ (List.getElem_mem hlt)).1,(h.2.2 _ (List.getElem_mem hlt)).2.1⟩
    have hrd:rd kUp us (B5 us r.2.2.2.1:Int)=us[B5 us r.2.2.2.1]:=C9 (k:=kUp) (xs:=us) hlt
    rw [C8j h.1 hh,if_pos hlt,A4 (by omega)]
    simp only [cond_false,Bool.true_eq_false,if_false]
    rw [A0 (by omega),A0 (by omega)]
    simp only [cond_true,Int.toNat_natCast,hrd]
    generalize us[B5 us r.2.2.2.1]=u at hu hid ⊢
    by_cases k2:r.2.2.1=2
    · rw [A0 k2,if_pos k2]
      simp only [cond_true]
      cases hd:u.2.2.2 with
      | true=>simp [C2]
      | false=>
        by_cases hn:r.2.2.2.2.1=(List.length u.2.2.1:Int)
        · rw [A0 hn,hn,w64 (by omega) (by omega)]
          by_cases hw:(List.length u.2.2.1:Int)+(List.length r.2.2.2.2.2:Int)>u.2.1
          · rw [A0 hw,if_pos (.inr (.inr hw))]
            exact ⟨_,rfl,fun e=>by cases e⟩
          · rw [A4 hw,if_neg (by simp;omega)]
            simp only [Bool.not_true,cond_false,C2]
            rw [A0 (by omega),A0 (by omega)]
            exact ⟨_,rfl,fun _=>rfl⟩
        · rw [A4 hn,if_pos (.inr (.inl hn))]
          exact ⟨_,rfl,fun e=>by cases e⟩
    rw [A4 k2,if_neg k2]
    by_cases k3:r.2.2.1=3
    · rw [A0 k3,if_pos k3]
      simp only [cond_true,cond_false]
      cases hd:u.2.2.2 with
      | true=>simp
      | false=>
        by_cases hn:(List.length u.2.2.1:Int)=u.2.1
        · rw [A0 hn,if_neg (by simp [hn])]
          exact ⟨_,rfl,fun _=>rfl⟩
        · rw [A4 hn,if_pos (.inr hn)]
          exact ⟨_,rfl,fun e=>by cases e⟩
    rw [A4 k3,if_neg k3]
    by_cases k4:r.2.2.1=4
    · rw [A0 k4,if_pos k4,w64 (n:=(B5 us r.2.2.2.1:Int)+1) (by omega) (by omega)]
      simp only [cond_true,cond_false]
      rw [A0 (by omega),A0 (by omega),A0 (by omega),A0 (by omega)]
      simp only [cond_true]
      rw [show ((B5 us r.2.2.2.1:Int)+1).toNat=B5 us r.2.2.2.1+1 by omega,A0 (by omega)]
      simp only [cond_true,List.take_length]
      exact ⟨_,rfl,fun _=>rfl⟩
    rw [A4 k4,if_neg k4]
    exact ⟨_,rfl,fun e=>by cases e⟩
theorem E4H{us:List TUp}(h:Ord us)(p:Nat)(hp:p<us.length)(u:TUp)(hu:u.1=us[p].1):Ord (us.set p u):=by
  refine List.pairwise_iff_getElem.2 fun i j hi hj hij=>?_
  simp only [List.length_set] at hi hj
  have hk:∀ q (hq:q<us.length),((us.set p u)[q]'(by simpa using hq)).1=us[q].1:=fun q hq=>by
    rw [List.getElem_set]
    split
    · rename_i e;subst e;exact hu
    · rfl
  rw [hk i hi,hk j hj]
  exact D5Q h hij hj
theorem B63{us us':List TUp}{r:H4}(h:Ups us)(hr':C0O r)(e:N4 us r=some us'):Ups us':=by
  have hr:=hr'.1
  have hp:=A6x us r.2.2.2.1
  have hb:=Z7 hr
  simp only [N4] at e
  split at e
  · split at e
    · cases e
    rename_i hc
    injection e with e
    subst e
    have hnh:I1 us r.2.2.2.1=false:=by cases q:I1 us r.2.2.2.1;rfl;exact absurd (.inl q) hc
    refine ⟨?_,by simp;omega,fun u hu=>?_⟩
    · show List.Pairwise _ _
      rw [List.pairwise_append]
      refine ⟨h.1.sublist (List.take_sublist _ _),List.pairwise_cons.2 ⟨fun b hb=>?_,h.1.sublist (List.drop_sublist _ _)⟩,fun a ha b hb=>?_⟩
      · obtain ⟨j,hj,rfl⟩:=List.getElem_of_mem hb
        rw [List.getElem_drop]
        exact C1D h.1 hnh (by omega) _
      · obtain ⟨j,hj,rfl⟩:=List.getElem_of_mem ha
        rw [List.length_take] at hj
        rw [List.getElem_take]
        have h1:=B62 (us:=us) (id:=r.2.2.2.1) (j:=j) (by omega)
        rcases List.mem_cons.1 hb with rfl | hb
        · exact h1
        · obtain ⟨q,hq,rfl⟩:=List.getElem_of_mem hb
          rw [List.getElem_drop]
          rw [List.length_drop] at hq
          exact C1B h1 (C1D h.1 hnh (by omega) (by omega))
    · rcases List.mem_append.1 hu with hu | hu
      · exact h.2.2 u (List.mem_of_mem_take hu)
      · rcases List.mem_cons.1 hu with rfl | hu
        · exact ⟨by simp only [List.length_nil];omega,by simp only;omega,hb.2.2.2.2.1,A22⟩
        · exact h.2.2 u (List.mem_of_mem_drop hu)
  split at e
  · cases e
  rename_i _ hh
  have hh:I1 us r.2.2.2.1=true:=by cases q:I1 us r.2.2.2.1;exact absurd q hh;rfl
  obtain ⟨hlt,hid⟩:=K9.1 hh
  have hrd:rd kUp us (B5 us r.2.2.2.1:Int)=us[B5 us r.2.2.2.1]:=C9 (k:=kUp) (xs:=us) hlt
  have hu0:=h.2.2 _ (List.getElem_mem hlt)
  simp only [hrd] at e
  split at e
  · split at e
    · cases e
    rename_i hc
    injection e with e
    subst e
    refine ⟨E4H h.1 _ hlt _ rfl,by simp;exact h.2.1,fun u hu=>?_⟩
    rcases List.mem_or_eq_of_mem_set hu with hu | rfl
    · exact h.2.2 u hu
    · refine ⟨?_,hu0.2.1,hu0.2.2.1,D5O hu0.2.2.2 hr'.2⟩
      simp only [List.length_append]
      have:¬ ((List.length us[B5 us r.2.2.2.1].2.2.1:Int)+(List.length r.2.2.2.2.2:Int)>us[B5 us r.2.2.2.1].2.1):=fun q=>hc (.inr (.inr q))
      omega
  split at e
  · split at e
    · cases e
    injection e with e
    subst e
    refine ⟨E4H h.1 _ hlt _ rfl,by simp;exact h.2.1,fun u hu=>?_⟩
    rcases List.mem_or_eq_of_mem_set hu with hu | rfl
    · exact h.2.2 u hu
    · exact hu0
  split at e
  · injection e with e
    subst e
    refine ⟨?_,by have:=h.2.1;simp only [List.length_append,List.length_take,List.length_drop];omega,fun u hu=>?_⟩
    · show List.Pairwise _ _
      rw [List.pairwise_append]
      refine ⟨h.1.sublist (List.take_sublist _ _),h.1.sublist (List.drop_sublist _ _),fun a ha b hb=>?_⟩
      obtain ⟨j,hj,rfl⟩:=List.getElem_of_mem ha
      obtain ⟨q,hq,rfl⟩:=List.getElem_of_mem hb
      rw [List.length_take] at hj
      rw [List.length_drop] at hq
      rw [List.getElem_take,List.getElem_drop]
      exact D5Q h.1 (by omega) (by omega)
    · rcases List.mem_append.1 hu with hu | hu
      · exact h.2.2 u (List.mem_of_mem_take hu)
      · exact h.2.2 u (List.mem_of_mem_drop hu)
  · cases e
def S6:List TUp→List H4→Option (List TUp)
  | us,[]=>some us
  | us,r::l=>match N4 us r with
    | some us'=>S6 us' l
    | none=>none
def P5(l:List H4):List TUp×Bool×Unit:=match S6 [] l with
  | some us=>(us,true,())
  | none=>([],false,())
theorem A6y:∀ {l:List H4} {us us':List TUp},Ups us→(∀ r∈l,C0O r)→S6 us l=some us'→Ups us'
  | [],us,us',h,_,e=>by simp only [S6,Option.some.injEq] at e;subst e;exact h
  | r::l,us,us',h,hr,e=>by
    simp only [S6] at e
    split at e
    · rename_i us1 e1
      exact A6y (B63 h (hr r (by simp)) e1) (fun x hx=>hr x (by simp [hx])) e
    · cases e
theorem D41{α:Type}(f:α→Option (α⊕((List TUp×Unit)⊕(List TUp×Bool×Unit))))(s:Nat→List TUp→α)(l:List H4)(hr:∀ r∈l,C0O r)
    (hs:∀ (i:Nat) (hi:i<l.length) (us:List TUp),Ups us→f (s i us)=match N4 us l[i] with
      | some us'=>some (.inl (s (i+1) us'))
      | none=>some (.inr (.inr ([],false,()))))
    (he:∀ us,f (s l.length us)=some (.inr (.inl (us,())))):C2 (B8 f (s 0 [])) (fun m=>some (m.1,true,()))=some (P5 l):=by
  have key:∀ k i us,i+k=l.length→Ups us→C2 (B8 f (s i us)) (fun m=>some (m.1,true,()))=some (match S6 us (l.drop i) with
      | some us'=>(us',true,())
      | none=>([],false,())):=by
    intro k
    induction k with
    | zero=>
      intro i us hi hu
      obtain rfl:i=l.length:=by omega
      rw [R9,he]
      simp [S6,C2]
    | succ k ih=>
      intro i us hi hu
      have hlt:i<l.length:=by omega
      rw [R9,hs i hlt us hu,List.drop_eq_getElem_cons hlt]
      simp only [S6]
      cases e:N4 us l[i] with
      | none=>rfl
      | some us'=>exact ih (i+1) us' (by omega) (B63 hu (hr _ (List.getElem_mem hlt)) e)
  exact key l.length 0 [] (by omega) B0F
theorem B82(l:List H4)(hl:l.length≤maxLen)(hr:∀ r∈l,C0O r):A0C l=some (P5 l):=by
  simp only [A0C,B2v]
  refine D41 (A42 A6Z l) (fun i us=>((i:Int),us,())) l hr (fun i hi us hu=>?_) (fun us=>by simp [A42])
  have h1:((i:Int)<(l.length:Int)):=by omega
  have h2:(0:Int)≤(i:Int):=by omega
  have hb:=Z7 (hr _ (List.getElem_mem hi)).1
  simp only [A42,A0 h1,A0 h2,cond_true]
  rw [C9 (k:=A7a) (xs:=l) hi,D40 us _ hu (by omega),w64 (by omega) (by simp only [maxLen] at hl;omega)]
  simp only [A3,B48]
  cases N4 us l[i]<;>rfl
theorem A2S(l:List H4)(hl:l.length≤maxLen)(hr:∀ r∈l,C0O r):M6 l=some (P5 l):=by
  simp only [M6,A3J]
  refine D41 (W7 N2 l) (fun i us=>(us,(i:Int),())) l hr (fun i hi us hu=>?_) (fun us=>by simp [W7])
  have h1:((i:Int)<(l.length:Int)):=by omega
  have h2:(0:Int)≤(i:Int):=by omega
  have hb:=Z7 (hr _ (List.getElem_mem hi)).1
  obtain ⟨x,hx,hx2⟩:=D7v us l[i] hu (by omega)
  simp only [W7,A0 h1,A0 h2,cond_true]
  rw [C9 (k:=A7a) (xs:=l) hi,hx,w64 (by omega) (by simp only [maxLen] at hl;omega)]
  simp only [A3,B48] at hx2 ⊢
  cases e:N4 us l[i] with
  | none=>rfl
  | some us'=>
    rw [e] at hx2
    rw [hx2 rfl]
    rfl
def A5e(l:List ByteArray):Prop:=l.length≤1048576∧∀ s∈l,s.size≤1048576
theorem A6O{l:List ByteArray}(h:A5e l){i:Nat}(hi:i<l.length):(rd .str l (i:Int)).size≤1048576:=by
  rw [A3M hi]
  exact h.2 _ (List.getElem_mem hi)
theorem C4a{s:ByteArray}(h:(F7 s).2.1=true):C0O (F7 s).1:=by
  unfold F7 at h ⊢
  split at h
  · rename_i hg
    rw [if_pos hg]
    simp only [B3h,Bool.and_eq_true] at hg
    exact ⟨hg.1.2,C3S (B0C s)⟩
  · cases h
theorem E5T(d:D5)(h:A5e d.1)(l:Int×Int×List H4×Unit)(h0:0≤l.2.1):A41 A0A d l=Q7 K5 d l:=by
  simp only [A41,Q7]
  by_cases hi:l.2.1<(d.1.length:Int)
  · obtain ⟨i,hn⟩:∃ i:Nat,l.2.1=(i:Int):=⟨l.2.1.toNat,by omega⟩
    rw [hn] at hi ⊢
    rw [A6w _ (A6O h (by omega)),B61 _ (A6O h (by omega))]
  · rw [A4 hi]
    rfl
theorem E4I(d:D5)(h:A5e d.1):∃ l,W6 d=some (l,())∧A0B d=some (l,())∧l.length≤d.1.length∧∀ r∈l,C0O r:=by
  have hl:=h.1
  obtain ⟨z,e,hz1,hz2⟩:=A0i (Q7 K5 d) (fun l=>((d.1.length:Int)-l.2.1).toNat) (fun l=>0≤l.2.1∧(List.length l.2.2.1:Int)=l.2.1∧l.2.1≤(d.1.length:Int)∧∀ r∈l.2.2.1,C0O r)
    (fun z=>List.length z.1≤d.1.length∧∀ r∈z.1,C0O r) (fun l hl=>by
      obtain ⟨h0,h1,h2,h3⟩:=hl
      simp only [Q7]
      by_cases hi:l.2.1<(d.1.length:Int)
      · obtain ⟨i,hn⟩:∃ i:Nat,l.2.1=(i:Int):=⟨l.2.1.toNat,by omega⟩
        rw [A0 hi,A0 h0]
        simp only [cond_true]
        rw [hn] at hi h0 h1 h2 ⊢
        rw [A6w _ (A6O h (by omega))]
        simp only [A3]
        have hg:=@C4a (rd .str d.1 (i:Int))
        generalize F7 (rd .str d.1 (i:Int))=g at hg ⊢
        have fin:List.length l.2.2.1≤d.1.length∧∀ r∈l.2.2.1,C0O r:=⟨by omega,h3⟩
        cases hk:g.2.1 with
        | false=>exact .inr ⟨_,rfl,fin⟩
        | true=>
          simp only [Bool.not_true,cond_false]
          by_cases e1:g.1.2.1=(i:Int)
          · rw [A0 e1]
            by_cases e2:g.1.1<l.1
            · rw [A0 e2];exact .inr ⟨_,rfl,fin⟩
            · rw [A4 e2]
              simp only [Bool.not_true,cond_false]
              rw [A0 (by simp;omega),A0 (by simp;omega),w64 (by omega) (by omega)]
              refine .inl ⟨_,rfl,⟨by simp only;omega,by simp;omega,by simp only;omega,fun r hr=>?_⟩,by simp only;omega⟩
              rcases List.mem_append.1 hr with hr | hr
              · exact h3 r hr
              · rw [List.mem_singleton.1 hr];exact hg hk
          · rw [A4 e1];exact .inr ⟨_,rfl,fin⟩
      · rw [A4 hi]
        exact .inr ⟨_,rfl,by simp only;omega,h3⟩) (0,0,[],()) ⟨by simp,by simp,by simp,fun r hr=>by cases hr⟩
  refine ⟨z.1,e,?_,hz1,hz2⟩
  simp only [A0B,B2u]
  rw [B09 (g:=Q7 K5 d) (fun l=>0≤l.2.1) (fun l h0=>E5T d h l h0) (fun l y h0 e=>?_) (by simp)]
  · exact e
  · simp only [A41] at e
    by_cases hi:l.2.1<(d.1.length:Int)
    · obtain ⟨i,hn⟩:∃ i:Nat,l.2.1=(i:Int):=⟨l.2.1.toNat,by omega⟩
      rw [A0 hi,A0 h0] at e
      simp only [cond_true] at e
      rw [hn] at hi h0 e
      rw [B61 _ (A6O h (by omega))] at e
      simp only [A3] at e
      rw [w64 (n:=(i:Int)+1) (by omega) (by omega)] at e
      generalize F7 (rd .str d.1 (i:Int))=g at e
      cases hk:g.2.1<;>simp only [hk,Bool.not_true,Bool.not_false,cond_true,cond_false] at e
      · cases e
      · revert e
        cases decide (g.1.2.1=(i:Int))<;>cases decide (g.1.1<l.1)<;>simp only [Bool.not_true,Bool.not_false,cond_true,cond_false]
        · intro e;cases e
        · intro e;cases e
        · cases decide (List.length l.2.2.1+List.length [g.1]≤9223372036854775807)<;>cases decide ((List.length l.2.2.1+List.length [g.1])*72≤140737488355328)<;>intro e
          · cases e
          · cases e
          · cases e
          · simp only [cond_true] at e
            injection e with e;injection e with e;subst e
            simp only;omega
        · intro e;cases e
    · rw [A4 hi] at e
      cases e
theorem C3U:A18=R7:=rfl
theorem B64(d:D5)(h:d.1.length≤1048576):∃ b,R7 d=some (b,())∧(b=true→d.1.length=d.2.length∧d.1.length≤200):=by
  simp only [R7,B36]
  by_cases h1:(d.1.length:Int)=(d.2.length:Int)
  · rw [A0 h1]
    by_cases h2:(d.1.length:Int)>200
    · rw [A0 h2]
      exact ⟨_,rfl,fun e=>by cases e⟩
    · rw [A4 h2]
      simp only [Bool.not_true,cond_false,C2]
      refine ⟨_,C4X (A0H d) d.1.length (by simp only [maxLen];omega) (fun i=>!decide (((rd .str d.1 (i:Int)).size:Int)>64)&&!decide (((rd .str d.2 (i:Int)).size:Int)>64)) (fun i hi=>?_) (by simp [A0H]),fun _=>by omega⟩
      have g1:((i:Int)<(d.1.length:Int)):=by omega
      have g2:(0:Int)≤(i:Int):=by omega
      have g3:((i:Int)<(d.2.length:Int)):=by omega
      simp only [A0H,A0 g1,A0 g2,A0 g3,cond_true]
      cases decide (((rd .str d.1 (i:Int)).size:Int)>64)<;>cases decide (((rd .str d.2 (i:Int)).size:Int)>64)<;>rfl
  · rw [A4 h1]
    exact ⟨_,rfl,fun e=>by cases e⟩
def A6P(a b:TUp):Bool:=(a.1.toList == b.1.toList)&&decide (a.2.1=b.2.1)&&(a.2.2.2 == b.2.2.2)&&((strOf a.2.2.1).toList == (strOf b.2.2.1).toList)
def A0V(a b:List TUp):Bool:=decide (a.length=b.length)&&(List.range a.length).all fun i=>A6P (rd kUp a (i:Int)) (rd kUp b (i:Int))
theorem D7w(a b:TUp):A8P a b=some (A6P a b,()):=by
  simp only [A8P,B9u,A5m,B0j,A3,A6P]
  cases (a.1.toList == b.1.toList)<;>cases decide (a.2.1=b.2.1)<;>cases (a.2.2.2 == b.2.2.2)<;>rfl
theorem E5U(a b:List TUp)(h:a.length≤maxLen):C3 a b ()=some (A0V a b,()):=by
  simp only [C3,E8,A0V]
  by_cases hl:a.length=b.length
  · rw [A0 (show (a.length:Int)=(b.length:Int) by omega),A0 hl]
    simp only [Bool.not_true,cond_false,Bool.true_and]
    refine C4X _ a.length h (fun i=>A6P (rd kUp a (i:Int)) (rd kUp b (i:Int))) (fun i hi=>?_) (by simp [E4])
    have g1:((i:Int)<(a.length:Int)):=by omega
    have g2:(0:Int)≤(i:Int):=by omega
    have g3:((i:Int)<(b.length:Int)):=by omega
    simp only [E4,A0 g1,A0 g2,A0 g3,cond_true,D7w,A3]
    cases A6P (rd kUp a (i:Int)) (rd kUp b (i:Int))<;>rfl
  · rw [A4 (show ¬ (a.length:Int)=(b.length:Int) by omega),A4 hl]
    rfl
theorem D42(a b:List TUp)(h:a.length≤maxLen):A1J a b=some (A0V a b,()):=by
  simp only [A1J,A8b,A0V]
  by_cases hl:a.length=b.length
  · rw [A0 (show (a.length:Int)=(b.length:Int) by omega),A0 hl]
    simp only [Bool.not_true,cond_false,Bool.true_and]
    refine C4X _ a.length h (fun i=>A6P (rd kUp a (i:Int)) (rd kUp b (i:Int))) (fun i hi=>?_) (by simp [A5W])
    have g1:((i:Int)<(a.length:Int)):=by omega
    have g2:(0:Int)≤(i:Int):=by omega
    have g3:((i:Int)<(b.length:Int)):=by omega
    simp only [A5W,A0 g1,A0 g2,A0 g3,cond_true,A6P]
    cases ((rd kUp a (i:Int)).1.toList == (rd kUp b (i:Int)).1.toList)<;>cases decide ((rd kUp a (i:Int)).2.1=(rd kUp b (i:Int)).2.1)<;>cases ((rd kUp a (i:Int)).2.2.2 == (rd kUp b (i:Int)).2.2.2)<;>cases ((strOf (rd kUp a (i:Int)).2.2.1).toList == (strOf (rd kUp b (i:Int)).2.2.1).toList)<;>rfl
  · rw [A4 (show ¬ (a.length:Int)=(b.length:Int) by omega),A4 hl]
    rfl
def D43(e:Int)(s:ByteArray):Bool:=(F7 s).2.1&&decide ((F7 s).1.1≥e)
def A4k(t:Int)(s:ByteArray):Int:=bif (F7 s).2.1 then (bif decide ((F7 s).1.1>t) then (F7 s).1.1 else t) else t
def A4l(l:List ByteArray):Int:=l.foldl A4k (-1)
theorem C3V(e:Int):∀ (l:List ByteArray) (t:Int),decide (l.foldl A4k t<e)=(decide (t<e)&&l.all fun s=>!D43 e s)
  | [],t=>(Bool.and_true _).symm
  | s::l,t=>by
    rw [List.foldl_cons,C3V e l,List.all_cons]
    unfold A4k D43
    cases (F7 s).2.1 with
    | false=>simp
    | true=>
      simp only [cond_true,Bool.true_and]
      by_cases h1:(F7 s).1.1>t
      · rw [A0 h1]
        by_cases h2:(F7 s).1.1≥e
        · rw [A0 h2]
          simp only [cond_true]
          rw [A4 (show ¬ (F7 s).1.1<e by omega)]
          simp
        · rw [A4 h2]
          simp only [cond_true]
          rw [A0 (show (F7 s).1.1<e by omega),A0 (show t<e by omega)]
          simp
      · rw [A4 h1]
        simp only [cond_false]
        by_cases h3:t<e
        · rw [A0 h3,A4 (show ¬ (F7 s).1.1≥e by omega)]
          simp
        · rw [A4 h3]
          simp
theorem C1E(l:List ByteArray)(h:A5e l):A1B l=some (A4l l,()):=by
  have hl:=h.1
  simp only [A1B,B5B]
  have key:=E0 (A5k A0A l) (fun i=>((l.take i).foldl A4k (-1),(i:Int),())) l.length (A4l l,()) (fun i hi=>?_) ?_
  · simpa using key
  · have g1:((i:Int)<(l.length:Int)):=by omega
    have g2:(0:Int)≤(i:Int):=by omega
    simp only [A5k,A0 g1,A0 g2,cond_true]
    rw [B61 _ (A6O h hi),w64 (by omega) (by omega)]
    simp only [A3]
    have e:(l.take (i+1)).foldl A4k (-1)=A4k ((l.take i).foldl A4k (-1)) (rd .str l (i:Int)):=by
      rw [List.take_succ_eq_append_getElem hi,List.foldl_append,A3M hi]
      rfl
    rw [e]
    unfold A4k
    cases (F7 (rd .str l (i:Int))).2.1<;>rfl
  · simp [A5k,A4l]
theorem C8l(go:Nat→Bool)(n:Nat):decide (O7 go 0 n=n)=(List.range n).all go:=by
  rw [Bool.eq_iff_iff]
  simp only [decide_eq_true_eq,List.all_eq_true,List.mem_range]
  constructor
  · intro h j hj
    exact B0D go n 0 j (by omega) (by omega)
  · intro h
    exact B0E go n n (Nat.le_refl _) h (fun h=>by omega)
theorem D44(st:A8)(h:A5e st.1.1)(n:Nat)(hn:n≤st.1.1.length):B8 (A0c K5 st) ((n:Int),())=some ((st.1.1.drop n).all fun s=>!D43 st.2.1 s,()):=by
  have hl:=h.1
  have key:=A3g (A0c K5 st) (fun j=>(((n+j:Nat):Int),())) (st.1.1.length-n) (fun j=>(decide (j=st.1.1.length-n),())) (fun j=>!D43 st.2.1 (rd .str st.1.1 ((n+j:Nat):Int))) (fun j hj=>?_) ?_
  · have e:B8 (A0c K5 st) ((n:Int),())=_:=key
    rw [e,C8l]
    congr 2
    rw [Bool.eq_iff_iff]
    simp only [List.all_eq_true,List.mem_range]
    constructor
    · intro h2 s hs
      obtain ⟨j,hj,rfl⟩:=List.getElem_of_mem hs
      rw [List.length_drop] at hj
      have:=h2 j hj
      rw [A3M (by omega)] at this
      rw [List.getElem_drop]
      exact this
    · intro h2 j hj
      rw [A3M (by omega)]
      refine h2 _ ?_
      rw [List.mem_iff_getElem]
      exact ⟨j,by rw [List.length_drop];omega,by rw [List.getElem_drop]⟩
  · have g1:(((n+j:Nat):Int)<(st.1.1.length:Int)):=by omega
    have g2:(0:Int)≤((n+j:Nat):Int):=by omega
    simp only [A0c,A0 g1,A0 g2,cond_true]
    rw [A6w _ (A6O h (by omega)),w64 (by omega) (by omega)]
    simp only [A3,D43]
    rw [A4 (show ¬ j=st.1.1.length-n by omega)]
    have e2:n+(j+1)=(n+j)+1:=by omega
    simp only [e2,Int.natCast_succ]
    cases (F7 (rd .str st.1.1 ((n+j:Nat):Int))).2.1<;>cases decide ((F7 (rd .str st.1.1 ((n+j:Nat):Int))).1.1≥st.2.1)<;>rfl
  · have g1:¬ (((n+(st.1.1.length-n):Nat):Int)<(st.1.1.length:Int)):=by omega
    simp only [A0c,A4 g1,cond_false]
    simp
def C8m(st:A8):Prop:=0≤st.2.1∧st.2.1≤10000∧st.1.1.length=st.1.2.length∧st.1.1.length≤200∧(0≤st.2.2.1∧st.2.2.1≤(st.1.1.length:Int))∧∃ us,Ups us∧A0V us st.2.2.2=true
theorem C8n(st:A8)(h:A5e st.1.1):∃ b,G0 st=some (b,())∧A1C st=some (b,())∧(b=true→C8m st):=by
  have hl:=h.1
  obtain ⟨bd,hd,hdt⟩:=B64 st.1 hl
  obtain ⟨l,hs,hi,hll,hrg⟩:=E4I st.1 h
  have hfs:=A2S l (by simp only [maxLen];omega) hrg
  have hfi:=B82 l (by simp only [maxLen];omega) hrg
  have hups:(P5 l).2.1=true→Ups (P5 l).1:=by
    intro e
    unfold P5 at e ⊢
    split
    · rename_i us' e1
      exact A6y B0F hrg e1
    · rename_i e1
      rw [e1] at e;cases e
  simp only [G0,A9f,A1C,B5C,C3U,hd,hs,hi,hfs,hfi,A16,A9X,Q3,L1,A3]
  cases bd with
  | false=>
    by_cases he:0≤st.2.1∧st.2.1≤10000
    · rw [A0 he]
      exact ⟨_,rfl,rfl,fun e=>by cases e⟩
    · rw [A4 he]
      exact ⟨_,rfl,rfl,fun e=>by cases e⟩
  | true=>
    cases he':decide (0≤st.2.1∧st.2.1≤10000) with
    | false=>exact ⟨_,rfl,rfl,fun e=>by cases e⟩
    | true=>
      have he:=of_decide_eq_true he'
      have hd2:=hdt rfl
      simp only [Bool.not_true,cond_false,C2]
      generalize hf:P5 l=fr at hups
      cases hk:fr.2.1 with
      | false=>exact ⟨_,rfl,rfl,fun e=>by cases e⟩
      | true=>
        have hu:=hups hk
        have hul:=hu.2.1
        rw [D42 _ _ (show fr.1.length≤maxLen by simp only [maxLen];omega),E5U _ _ (show fr.1.length≤maxLen by simp only [maxLen];omega)]
        simp only [Bool.not_true,cond_false]
        cases hn':decide (st.2.2.1=(List.length l:Int)) with
        | false=>
          cases A0V fr.1 st.2.2.2<;>exact ⟨_,rfl,rfl,fun e=>by cases e⟩
        | true=>
          have hn:=of_decide_eq_true hn'
          cases hsm:A0V fr.1 st.2.2.2 with
          | false=>exact ⟨_,rfl,rfl,fun e=>by cases e⟩
          | true=>
            have hg:C8m st:=⟨he.1,he.2,hd2.1,hd2.2,by omega,fr.1,hu,hsm⟩
            simp only [Bool.not_true,cond_false]
            rw [hn,D44 st h l.length hll,A0 (show (0:Int)≤(List.length l:Int) by omega),A0 (show (List.length l:Int)≤(st.1.1.length:Int) by omega),Int.toNat_natCast,List.take_length]
            simp only [cond_true]
            have hdr:A5e (st.1.1.drop l.length):=⟨by rw [List.length_drop];omega,fun s hs=>h.2 s (List.mem_of_mem_drop hs)⟩
            rw [C1E _ hdr]
            have htop:decide (st.2.1>A4l (st.1.1.drop l.length))=((st.1.1.drop l.length).all fun s=>!D43 st.2.1 s):=by
              have:=C3V st.2.1 (st.1.1.drop l.length) (-1)
              rw [A0 (show (-1:Int)<st.2.1 by omega),Bool.true_and] at this
              exact this
            simp only [htop]
            by_cases hl0:(List.length l:Int)>0
            · rw [A0 hl0,w64 (n:=(List.length l:Int)-1) (by omega) (by omega),A0 (show (0:Int)≤(List.length l:Int)-1 by omega),A0 (show (List.length l:Int)-1<(List.length l:Int) by omega)]
              simp only [cond_true]
              have hlt:decide (st.2.1<(rd A7a l ((List.length l:Int)-1)).1)=decide ((rd A7a l ((List.length l:Int)-1)).1>st.2.1):=rfl
              rw [hlt]
              cases decide ((rd A7a l ((List.length l:Int)-1)).1>st.2.1) with
              | true=>exact ⟨_,rfl,rfl,fun e=>by cases e⟩
              | false=>exact ⟨_,rfl,rfl,fun _=>hg⟩
            · rw [A4 hl0]
              exact ⟨_,rfl,rfl,fun _=>hg⟩
theorem D7x(x:C0):B5D T9 x=Z2 U1 x:=by
  have e:T9=U1:=by funext r;rw [B5y,B5x]
  rw [e]
  rfl
theorem E9T(x:C0)(h:x.2.length≤1048576):∃ z,B8 (Z2 U1 x) (0,())=some z∧(z=.inl ()∨z=.inr (false,())):=by
  have key:=A3g (Z2 U1 x) (fun i=>((i:Int),())) x.2.length (fun i=>if i<x.2.length then .inr (false,()) else .inl ()) (fun i=>X2 (rd A9 x.2 (i:Int)).2) (fun i hi=>?_) ?_
  · refine ⟨_,key,?_⟩
    split
    · exact .inr rfl
    · exact .inl rfl
  · have g1:((i:Int)<(x.2.length:Int)):=by omega
    have g2:(0:Int)≤(i:Int):=by omega
    simp only [Z2,A0 g1,A0 g2,cond_true,B5x,A3,if_pos hi]
    rw [w64 (by omega) (by omega)]
    cases X2 (rd A9 x.2 (i:Int)).2<;>rfl
  · simp [Z2]
theorem C4b(x:C0)(h:A5e x.1.1.1)(h2:x.2.length≤1048576):∃ b,A4I x=some (b,())∧A43 x=some (b,())∧(b=true→G0 x.1=some (true,())∧C8m x.1∧x.2.length≤200):=by
  obtain ⟨z,hz,hz2⟩:=E9T x h2
  obtain ⟨b,hs,hi,hg⟩:=C8n x.1 h
  simp only [A4I,B39,A43,B2w,D7x,hz,hs,hi]
  rcases hz2 with rfl | rfl
  · by_cases hl:(x.2.length:Int)≤200
    · rw [A0 hl]
      exact ⟨b,rfl,rfl,fun e=>⟨by rw [e],hg e,by omega⟩⟩
    · rw [A4 hl]
      exact ⟨_,rfl,rfl,fun e=>by cases e⟩
  · exact ⟨_,rfl,rfl,fun e=>by cases e⟩
theorem D5R{N:Nat}{e:Nat}{l:List ByteArray}(hN:N≤1048576)(h:Sm N (.sl e .str) l):A5e l:=⟨by have:l.length≤N:=h.1;omega,fun s hs=>by have:s.size≤N:=h.2 s hs;omega⟩
theorem C8o{k:K}{b:List k.T}{i:Nat}(h:i<b.length)(u:k.T):rd k (b.set i u) (i:Int)=u:=by
  rw [C9 (xs:=b.set i u) (by simpa using h)]
  simp
def MH{T:Type}(mark:Int→Option (Int×T×Unit))(held:T→Int→Option (Int×Unit))(n:Nat):Prop:=
  ∀ m:Int,0≤m→m+n<4611686018427387904→∃ m' y,mark m=some (m',y,())∧m≤m'∧m'≤m+n∧held y m=some (m',())
def cost{T:Type}(c:T→Nat)(a:List T):Nat:=(a.map c).sum
theorem E5V{T:Type}(c:T→Nat){a:List T}{i:Nat}(h:i<a.length):cost c (a.drop i)=c a[i]+cost c (a.drop (i+1)):=by
  rw [List.drop_eq_getElem_cons h]
  simp only [cost,List.map_cons,List.sum_cons]
theorem B7R{T:Type}(Lm:Int×Int×List T×Unit→Option ((Int×Int×List T×Unit)⊕(Int×List T×Unit)))(Lh:List T→Int×Int×Unit→Option ((Int×Int×Unit)⊕(Int×Unit)))(c:T→Nat)(a:List T)(hn:a.length≤1048576)
    (hs:∀ (i:Nat) (hi:i<a.length) (m:Int),0≤m→m+c a[i]<4611686018427387904→∃ m' u,m≤m'∧m'≤m+c a[i]∧(∀ (b:List T) (hb:b.length=a.length),b[i]'(by omega)=a[i]→Lm (m,(i:Int),b,())=some (.inl (m',(i:Int)+1,b.set i u,())))∧
      ∀ (b:List T) (hb:b.length=a.length),b[i]'(by omega)=u→Lh b (m,(i:Int),())=some (.inl (m',(i:Int)+1,())))
    (he:∀ m (b:List T),b.length=a.length→Lm (m,(a.length:Int),b,())=some (.inr (m,b,()))) (hf:∀ m (b:List T),b.length=a.length→Lh b (m,(a.length:Int),())=some (.inr (m,()))) :
    MH (fun m=>B8 Lm (m,0,a,())) (fun y m=>B8 (Lh y) (m,0,())) (cost c a):=by
  have key:∀ k i,i+k=a.length→∀ m:Int,0≤m→m+cost c (a.drop i)<4611686018427387904→∃ m' us,us.length=k∧m≤m'∧m'≤m+cost c (a.drop i)∧
      (∀ pre:List T,pre.length=i→B8 Lm (m,(i:Int),pre++a.drop i,())=some (m',pre++us,()))∧∀ pre:List T,pre.length=i→B8 (Lh (pre++us)) (m,(i:Int),())=some (m',()):=by
    intro k
    induction k with
    | zero=>
      intro i hi m h0 h1
      obtain rfl:i=a.length:=by omega
      refine ⟨m,[],rfl,Int.le_refl _,by omega,fun pre hp=>?_,fun pre hp=>?_⟩
      · rw [R9,he _ _ (by simp [hp])]
        simp
      · rw [R9,hf _ _ (by simp [hp])]
    | succ k ih=>
      intro i hi m h0 h1
      have hlt:i<a.length:=by omega
      rw [E5V c hlt] at h1 ⊢
      obtain ⟨m1,u,g1,g2,g3,g4⟩:=hs i hlt m h0 (by omega)
      obtain ⟨m',us,h2,h3,h4,h5,h6⟩:=ih (i+1) (by omega) m1 (by omega) (by omega)
      have e1:(i:Int)+1=((i+1:Nat):Int):=by omega
      rw [e1] at g3 g4
      refine ⟨m',u::us,by simp [h2],by omega,by omega,fun pre hp=>?_,fun pre hp=>?_⟩
      · have hl:(pre++a.drop i).length=a.length:=by simp [hp];omega
        have hg:(pre++a.drop i)[i]'(by omega)=a[i]:=by
          rw [List.getElem_append_right (by omega)]
          simp [hp]
        rw [R9,g3 _ hl hg]
        have hset:(pre++a.drop i).set i u=(pre ++ [u])++a.drop (i+1):=by
          rw [List.set_append_right _ _ (by omega),hp,Nat.sub_self,List.drop_eq_getElem_cons hlt,List.set_cons_zero]
          simp
        rw [hset]
        have:=h5 (pre ++ [u]) (by simp [hp])
        simp only [List.append_assoc,List.singleton_append] at this
        simpa using this
      · have hl:(pre++u::us).length=a.length:=by simp [hp,h2];omega
        have hg:(pre++u::us)[i]'(by omega)=u:=by
          rw [List.getElem_append_right (by omega)]
          simp [hp]
        rw [R9,g4 _ hl hg]
        have:=h6 (pre ++ [u]) (by simp [hp])
        simp only [List.append_assoc,List.singleton_append] at this
        exact this
  intro m h0 h1
  obtain ⟨m',us,h2,h3,h4,h5,h6⟩:=key a.length 0 (by omega) m h0 (by simpa using h1)
  exact ⟨m',us,by simpa using h5 [] rfl,h3,by simpa using h4,by simpa using h6 [] rfl⟩
theorem C8p(a:List Int):MH (I7 a) I8 a.length:=fun m h0 h1=>⟨_,_,D5D a m h0 (by omega),by omega,Int.le_refl _,D5E a.length m h0 (by omega)⟩
theorem C8q(a:List ByteArray):MH (V5 a) V7 a.length:=fun m h0 h1=>⟨_,_,C8e a m h0 h1,by omega,Int.le_refl _,C8f a.length m h0 h1⟩
theorem D7y(a:List B9)(h:a.length≤1048576):MH (A0e a) A0h (cost (fun _=>3) a):=by
  refine B7R A31 A37 (fun _=>3) a h (fun i hi m h0 h1=>?_) (fun m b hb=>by simp [A31,hb]) (fun m b hb=>by simp [A37,hb])
  have w1:IntKind.i64.wrap (m+1)=m+1:=w64 (by omega) (by omega)
  have w2:IntKind.i64.wrap (m+1+1)=m+1+1:=w64 (by omega) (by omega)
  have w3:IntKind.i64.wrap (m+1+1+1)=m+1+1+1:=w64 (by omega) (by omega)
  have wi:IntKind.i64.wrap ((i:Int)+1)=(i:Int)+1:=w64 (by omega) (by omega)
  have g1:(0:Int)≤(i:Int):=by omega
  refine ⟨m+1+1+1,(m,m+1,m+1+1),by omega,by omega,fun b hb e=>?_,fun b hb e=>?_⟩
  · have hib:i<b.length:=by omega
    have g2:(i:Int)<(b.length:Int):=by omega
    simp only [A31,A3,List.length_set,A0 g1,A0 g2,cond_true,Int.toNat_natCast,w1,w2,w3,wi,List.set_set,C8o (k:=A9) hib]
  · have g2:(i:Int)<(b.length:Int):=by omega
    have hr:rd A9 b (i:Int)=(m,m+1,m+1+1):=by rw [C9 (k:=A9) (xs:=b) (by omega)];exact e
    simp only [A37,A3,A0 g1,A0 g2,cond_true,w1,w2,w3,wi,hr]
    simp
theorem F0a(a:List TUp)(h:a.length≤1048576):MH (B02 a) B04 (cost (fun u=>List.length u.2.2.1+3) a):=by
  refine B7R (A67 I7 D3) (A6C I8 D3) (fun u=>List.length u.2.2.1+3) a h (fun i hi m h0 h1=>?_) (fun m b hb=>by simp [A67,hb]) (fun m b hb=>by simp [A6C,hb])
  obtain ⟨m1,d,e1,b1,b2,e2⟩:=C8p a[i].2.2.1 (m+1+1) (by omega) (by omega)
  have w1:IntKind.i64.wrap (m+1)=m+1:=w64 (by omega) (by omega)
  have w2:IntKind.i64.wrap (m+1+1)=m+1+1:=w64 (by omega) (by omega)
  have w3:IntKind.i64.wrap (m1+1)=m1+1:=w64 (by omega) (by omega)
  have wi:IntKind.i64.wrap ((i:Int)+1)=(i:Int)+1:=w64 (by omega) (by omega)
  have g1:(0:Int)≤(i:Int):=by omega
  have ht:=A6v m (by omega)
  refine ⟨m1+1,(mt m,m+1,d,decide (m1.tmod 3=0)),by omega,by omega,fun b hb e=>?_,fun b hb e=>?_⟩
  · have hib:i<b.length:=by omega
    have g2:(i:Int)<(b.length:Int):=by omega
    have hr:rd kUp b (i:Int)=a[i]:=by rw [C9 (k:=kUp) (xs:=b) (by omega)];exact e
    simp only [A67,A3,ht,List.length_set,A0 g1,A0 g2,cond_true,Int.toNat_natCast,w1,w2,w3,wi,List.set_set,C8o (k:=kUp) hib,hr,e1]
  · have g2:(i:Int)<(b.length:Int):=by omega
    have hr:rd kUp b (i:Int)=(mt m,m+1,d,decide (m1.tmod 3=0)):=by rw [C9 (k:=kUp) (xs:=b) (by omega)];exact e
    simp only [A6C,A3,ht,A0 g1,A0 g2,cond_true,w1,w2,w3,wi,hr,e2]
    rw [A4 (show ¬ m1<0 by omega)]
    simp
def E4J(d:D5):Nat:=d.1.length+d.2.length
def C8r(s:A8):Nat:=E4J s.1+cost (fun u:TUp=>List.length u.2.2.1+3) s.2.2.2
def B7S(s:C0):Nat:=C8r s.1+cost (fun _:B9=>3) s.2
theorem E9U(d:D5):MH (A4X d) A4a (E4J d):=by
  intro m h0 h1
  unfold E4J at *
  obtain ⟨m1,y1,e1,a1,b1,f1⟩:=C8q d.1 m h0 (by omega)
  obtain ⟨m2,y2,e2,a2,b2,f2⟩:=C8q d.2 m1 (by omega) (by omega)
  refine ⟨m2,(y1,y2),?_,by omega,by omega,?_⟩
  · simp only [A4X,B3Y,e1,e2,A3]
  · simp only [A4a,B3Z,f1,f2,A3]
    rw [A4 (show ¬ m1<0 by omega),A4 (show ¬ m2<0 by omega)]
    rfl
theorem E7x(s:A8)(h:s.2.2.2.length≤1048576)(m:Int)(h0:0≤m)(h1:m+C8r s<4611686018427387904) :
    ∃ m' y1 y2,A2L s m=some (m',(y1,s.2.1,s.2.2.1,y2),())∧m≤m'∧m'≤m+C8r s∧∀ a b,A2N (y1,a,b,y2) m=some (m',()):=by
  unfold C8r at *
  obtain ⟨m1,y1,e1,a1,b1,f1⟩:=E9U s.1 m h0 (by omega)
  obtain ⟨m2,y2,e2,a2,b2,f2⟩:=F0a s.2.2.2 h m1 (by omega) (by omega)
  refine ⟨m2,y1,y2,?_,by omega,by omega,fun a b=>?_⟩
  · simp only [A2L,B16,e1,e2,A3]
  · simp only [A2N,B19,f1,f2,A3]
    rw [A4 (show ¬ m1<0 by omega),A4 (show ¬ m2<0 by omega)]
    rfl
theorem E5W(s:C0)(h:s.1.2.2.2.length≤1048576)(h':s.2.length≤1048576)(m:Int)(h0:0≤m)(h1:m+B7S s<4611686018427387904) :
    ∃ m' y1 y2 y3,A1T s m=some (m',((y1,s.1.2.1,s.1.2.2.1,y2),y3),())∧m≤m'∧m'≤m+B7S s∧∀ a b,A1U ((y1,a,b,y2),y3) m=some (m',()):=by
  unfold B7S at *
  obtain ⟨m1,y1,y2,e1,a1,b1,f1⟩:=E7x s.1 h m h0 (by omega)
  obtain ⟨m2,y3,e2,a2,b2,f2⟩:=D7y s.2 h' m1 (by omega) (by omega)
  refine ⟨m2,y1,y2,y3,?_,by omega,by omega,fun a b=>?_⟩
  · simp only [A1T,A8z,e1,e2,A3]
  · simp only [A1U,A90,f1,f2,A3]
    rw [A4 (show ¬ m1<0 by omega),A4 (show ¬ m2<0 by omega)]
    rfl
theorem B0G{T:Type}(c:T→Nat)(n:Nat):∀ (a:List T),(∀ x∈a,c x≤n)→cost c a≤a.length*n
  | [],_=>by simp [cost]
  | x::a,h=>by
    have h1:=B0G c n a (fun y hy=>h y (by simp [hy]))
    have h2:=h x (by simp)
    simp only [cost,List.map_cons,List.sum_cons,List.length_cons] at h1 ⊢
    rw [Nat.add_mul]
    omega
theorem D5S(a:List Bool)(h:a.length≤1048576)(m:Int)(h0:0≤m)(h1:m+a.length<4611686018427387904):∃ y,T4 a m=some (m+(a.length:Int),y,()):=by
  obtain ⟨z,e,hz⟩:=A0i V6 (fun l=>((a.length:Int)-l.2.1).toNat) (fun l=>0≤l.2.1∧l.2.1≤(a.length:Int)∧List.length l.2.2.1=a.length∧l.1=m+l.2.1) (fun z=>z.1=m+(a.length:Int)) (fun l hl=>by
    obtain ⟨g0,g1,g2,g3⟩:=hl
    obtain ⟨l1,l2,l3,u⟩:=l
    simp only at g0 g1 g2 g3
    simp only [V6,g2]
    by_cases hi:l2<(a.length:Int)
    · rw [A0 hi,A0 g0,w64 (n:=l1+1) (by omega) (by omega),w64 (n:=l2+1) (by omega) (by omega)]
      exact .inl ⟨_,rfl,⟨by simp only;omega,by simp only;omega,by simp [g2],by simp only;omega⟩,by simp only;omega⟩
    · rw [A4 hi]
      exact .inr ⟨_,rfl,by simp only;omega⟩) (m,0,a,()) ⟨by simp,by simp,rfl,by simp⟩
  refine ⟨z.2.1,?_⟩
  have e':T4 a m=some z:=e
  rw [e']
  obtain ⟨z1,z2,z3⟩:=z
  simp only at hz
  rw [hz]
theorem C3W(a:List ByteArray)(h:a.length≤1048576):F9 a=some (a,()):=by
  simp only [F9,R6]
  have e:(bif decide (([]:List ByteArray).length+a.length≤9223372036854775807) then bif decide ((([]:List ByteArray).length+a.length)*16≤140737488355328) then some (([]++a),()) else none else none)=some (a,()):=by
    rw [A0 (by simp;omega),A0 (by simp;omega)]
    simp
  rw [e]
  cases a with
  | nil=>simp [B5w]
  | cons x xs=>simp
theorem D45(a:List B9)(h:a.length≤1048576):E1 a=some (a,()):=by
  simp only [E1,M5]
  have e:(bif decide (([]:List B9).length+a.length≤9223372036854775807) then bif decide ((([]:List B9).length+a.length)*24≤140737488355328) then some (([]++a),()) else none else none)=some (a,()):=by
    rw [A0 (by simp;omega),A0 (by simp;omega)]
    simp
  rw [e]
  cases a with
  | nil=>simp [B5w]
  | cons x xs=>simp
def A2T(d:D5):Prop:=A5e d.1∧A5e d.2
def A7M(s:A8):Prop:=A2T s.1∧List.length s.2.2.2≤1048576∧∀ u∈s.2.2.2,List.length u.2.2.1≤2000000000
def D46(s:C0):Prop:=A7M s.1∧List.length s.2≤1048576
theorem B1H(d:D5)(h:A2T d):S3 d=some (d,()):=by
  simp only [S3,B30,C3W _ h.1.1,C3W _ h.2.1,A3]
theorem Y1(d:D5)(h:A2T d):S9 d=some (d,()):=by
  have h1:=h.1.1
  have h2:=h.2.1
  simp only [S9,B5H]
  rw [A0 (by simp;omega),A0 (by simp;omega),A0 (by simp;omega),A0 (by simp;omega)]
  simp
theorem D7z(u:TUp)(h:List.length u.2.2.1≤2000000000):A5N u=some (u,()):=by
  simp only [A5N,B9w,A2Q _ (show List.length u.2.2.1≤140737488355328 by omega),A3]
theorem C8s(s:A8)(h:A7M s):A27 s=some (s,()):=by
  simp only [A27,B0l,B1H _ h.1,A3]
  have hl:=h.2.1
  have key:=E0 (A2o A5N s) (fun i=>((i:Int),s.2.1,s.2.2.1,s.1.1,s.1.2,s.2.2.2.take i,())) s.2.2.2.length (s,()) (fun i hi=>?_) ?_
  · simpa using key
  · have g1:((i:Int)<(s.2.2.2.length:Int)):=by omega
    have g2:(0:Int)≤(i:Int):=by omega
    simp only [A2o,A0 g1,A0 g2,cond_true]
    rw [C9 (k:=kUp) (xs:=s.2.2.2) hi,D7z _ (h.2.2 _ (List.getElem_mem hi))]
    simp only [A3]
    rw [A0 (by simp;omega),A0 (by simp;omega),w64 (by omega) (by omega),List.take_succ_eq_append_getElem hi]
    rfl
  · simp [A2o]
theorem A1Z(s:A8)(h:A7M s):L3 s=some (s,()):=by
  simp only [L3,A9k,Y1 _ h.1,C0N _ h.2.1 h.2.2,A3]
theorem C6a(s:C0)(h:D46 s):A1D s=some (s,()):=by
  simp only [A1D,A8S,C8s _ h.1,D45 _ h.2,A3]
theorem C6b(s:C0)(h:D46 s):A6b s=some (s,()):=by
  have h2:=h.2
  simp only [A6b,B5I,A1Z _ h.1,A3]
  rw [A0 (by simp;omega),A0 (by simp;omega)]
  simp
theorem E1f(d:D5)(h:A2T d):A29 d=some ((d.1,d.1),()):=by
  simp only [A29,B0n,C3W _ h.1.1,A3]
theorem E1g(d:D5)(h:A2T d):A2C d=some ((d.1,d.1),()):=by
  have h1:=h.1.1
  simp only [A2C,B0q]
  rw [A0 (by simp;omega),A0 (by simp;omega)]
  simp
theorem A6Q(d:D5)(h:A5e d.1):A4O d=some (A4l d.1,()):=by
  have hl:=h.1
  simp only [A4O,B3G]
  have key:=E0 (A4N K5 d) (fun i=>((d.1.take i).foldl A4k (-1),(i:Int),())) d.1.length (A4l d.1,()) (fun i hi=>?_) ?_
  · simpa using key
  · have g1:((i:Int)<(d.1.length:Int)):=by omega
    have g2:(0:Int)≤(i:Int):=by omega
    simp only [A4N,A0 g1,A0 g2,cond_true]
    rw [A6w _ (A6O h hi),w64 (by omega) (by omega)]
    simp only [A3]
    have e:(d.1.take (i+1)).foldl A4k (-1)=A4k ((d.1.take i).foldl A4k (-1)) (rd .str d.1 (i:Int)):=by
      rw [List.take_succ_eq_append_getElem hi,List.foldl_append,A3M hi]
      rfl
    rw [e]
    generalize (d.1.take i).foldl A4k (-1)=t
    unfold A4k
    cases (F7 (rd .str d.1 (i:Int))).2.1
    · rfl
    · cases decide ((F7 (rd .str d.1 (i:Int))).1.1>t)<;>rfl
  · simp [A4N,A4l]
theorem D1g(d:D5)(h:A5e d.1):A4C d=some (A4l d.1,()):=by
  simp only [A4C,B33,C1E _ h,A3]
theorem D5T(s:ByteArray):(F7 s).1.1≤10000:=by
  unfold F7
  split
  · rename_i h
    simp only [B3h,Bool.and_eq_true] at h
    exact (Z7 h.1.2).2.1
  · simp [E4G]
theorem C7d(l:List ByteArray):-1≤A4l l∧A4l l≤10000:=by
  unfold A4l
  have:∀ (l:List ByteArray) (t:Int),-1≤t∧t≤10000→-1≤l.foldl A4k t∧l.foldl A4k t≤10000:=by
    intro l
    induction l with
    | nil=>exact fun t h=>h
    | cons s l ih=>
      intro t h
      refine ih _ ?_
      have h2:=D5T s
      unfold A4k
      cases (F7 s).2.1 with
      | false=>exact h
      | true=>
        by_cases h3:(F7 s).1.1>t
        · rw [A0 h3];simp only [cond_true];omega
        · rw [A4 h3];exact h
  exact this l (-1) (by omega)
theorem C1F{l:List ByteArray}(h:A5e l)(i:Nat){s:ByteArray}(hs:s.size≤1048576):A5e (l.set i s):=⟨by rw [List.length_set];exact h.1,fun x hx=>(List.mem_or_eq_of_mem_set hx).elim (h.2 x) (fun e=>by rw [e];exact hs)⟩
theorem E9V(d:D5)(k:List Bool)(h:A2T d):∃ d',A0J d k=some (d',())∧A1t d k=some (d',())∧A2T d':=by
  obtain ⟨b,hb,hb2⟩:=B64 d h.1.1
  have hl:=h.1.1
  simp only [A0J,A7m,A1t,B34,Y1 d h,B1H d h,C3U,hb,A3]
  cases b with
  | false=>exact ⟨d,rfl,rfl,h⟩
  | true=>
    have hlen:=(hb2 rfl).1
    simp only [Bool.not_true,cond_false]
    have step:∀ l:Int×List ByteArray×List ByteArray×Unit,0≤l.1∧l.2.1.length=d.1.length∧l.2.2.1.length=d.1.length∧A5e l.2.1∧A5e l.2.2.1→
        (∃ y:Int×List ByteArray×List ByteArray×Unit,I4 k l=some (.inl y)∧(0≤y.1∧y.2.1.length=d.1.length∧y.2.2.1.length=d.1.length∧A5e y.2.1∧A5e y.2.2.1)∧((d.1.length:Int)-y.1).toNat<((d.1.length:Int)-l.1).toNat)∨
        ∃ z,I4 k l=some (.inr z)∧A2T z.1:=by
      intro l ⟨h0,h1,h2,h3,h4⟩
      simp only [I4,h1,h2]
      by_cases hi:l.1<(d.1.length:Int)
      · obtain ⟨i,hn⟩:∃ i:Nat,l.1=(i:Int):=⟨l.1.toNat,by omega⟩
        rw [hn] at hi h0 ⊢
        have s1:=A6O h3 (i:=i) (by omega)
        have s2:=A6O h4 (i:=i) (by omega)
        rw [A0 hi,A0 h0,w64 (by omega) (by omega)]
        simp only [cond_true,Int.toNat_natCast]
        refine .inl ?_
        by_cases hk:(i:Int)<(k.length:Int)
        · rw [A0 hk]
          simp only [cond_true,A3]
          cases rd .bool k (i:Int) with
          | true=>exact ⟨_,rfl,⟨by simp only;omega,h1,by simp [h2],h3,C1F h4 i s1⟩,by simp only;omega⟩
          | false=>exact ⟨_,rfl,⟨by simp only;omega,by simp [h1],h2,C1F h3 i s2,h4⟩,by simp only;omega⟩
        · rw [A4 hk]
          simp only [cond_false,A3]
          exact ⟨_,rfl,⟨by simp only;omega,by simp [h1],h2,C1F h3 i s2,h4⟩,by simp only;omega⟩
      · rw [A4 hi]
        exact .inr ⟨_,rfl,h3,h4⟩
    have h0:0≤(0:Int)∧d.1.length=d.1.length∧d.2.length=d.1.length∧A5e d.1∧A5e d.2:=⟨by omega,rfl,hlen.symm,h.1,h.2⟩
    obtain ⟨z,e,hz⟩:=A0i (I4 k) (fun l=>((d.1.length:Int)-l.1).toNat) _ (fun z=>A2T z.1) step (0,d.1,d.2,()) h0
    refine ⟨z.1,e,?_,hz⟩
    rw [B09 (g:=I4 k) (fun l=>0≤l.1∧l.2.1.length=d.1.length∧l.2.2.1.length=d.1.length∧A5e l.2.1∧A5e l.2.2.1) (fun l hl=>?_) (fun l y hl ey=>?_) h0]
    · exact e
    · simp only [A4D,I4,hl.2.1]
    · have e3:A4D (d,()) k l=I4 k l:=by simp only [A4D,I4,hl.2.1]
      rw [e3] at ey
      rcases step l hl with ⟨y',e1,e2,_⟩ | ⟨z',e1,_⟩
      · rw [e1] at ey;injection ey with ey;injection ey with ey;subst ey;exact e2
      · rw [e1] at ey;injection ey with ey;cases ey
theorem E9W(d:D5)(h:A2T d):∃ st b,E7 d=some (st,b,())∧X9 d=some (st,b,())∧A2T st.1∧Ups st.2.2.2:=by
  have hl:=h.1.1
  obtain ⟨bd,hd,hdt⟩:=B64 d hl
  obtain ⟨l,hs,hi,hll,hrg⟩:=E4I d h.1
  have hfs:=A2S l (by simp only [maxLen];omega) hrg
  have hfi:=B82 l (by simp only [maxLen];omega) hrg
  have htop:=C7d d.1
  have h00:A2T ([],[]):=⟨⟨by simp,fun s hs=>by cases hs⟩,⟨by simp,fun s hs=>by cases hs⟩⟩
  have hups:(P5 l).2.1=true→Ups (P5 l).1:=by
    intro e
    unfold P5 at e ⊢
    split
    · rename_i us' e1
      exact A6y B0F hrg e1
    · rename_i e1
      rw [e1] at e;cases e
  simp only [E7,O3,X9,B0p,C3U,hd,hs,hi,hfs,hfi,A6Q d h.1,D1g d h.1,Y1 d h,B1H d h,A3]
  cases bd with
  | false=>exact ⟨_,_,rfl,rfl,h00,B0F⟩
  | true=>
    simp only [Bool.not_true,cond_false]
    generalize P5 l=fr at hups
    cases hk:fr.2.1 with
    | false=>exact ⟨_,_,rfl,rfl,h00,B0F⟩
    | true=>
      rw [w64 (n:=A4l d.1+1) (by omega) (by omega)]
      cases decide (A4l d.1+1>10000) with
      | true=>exact ⟨_,_,rfl,rfl,h00,B0F⟩
      | false=>exact ⟨_,_,rfl,rfl,h,hups hk⟩
def C1G(op:Int):Int:=if op=1 then 1000000000 else if op=3 then 1000000000 else if op=4 then 4294967295 else 0
def A3N(r:V2):Bool:=decide (1≤r.1∧r.1≤6)&&idB r.2.1&&decide (0≤r.2.2∧r.2.2≤C1G r.1)
theorem C8t(r:V2)(h:r.2.1.size≤maxLen):A5X r=some (A3N r,()):=by
  simp only [A5X,C3G,Q3,A93 _ h,A3,A3N,A9h,B5G,C1G]
  cases decide (1≤r.1∧r.1≤6)
  · rfl
  cases idB r.2.1
  · rfl
  simp only [Bool.not_true,cond_false,C2,Bool.true_and]
  have hz:decide (0≤r.2.2∧r.2.2≤0)=decide (r.2.2=0):=by
    by_cases h0:r.2.2=0
    · rw [A0 h0,A0 (by omega)]
    · rw [A4 h0,A4 (by omega)]
  by_cases h1:r.1=1
  · simp [h1]
  by_cases h3:r.1=3
  · simp [h3]
  by_cases h4:r.1=4
  · simp [h4]
  simp [h1,h3,h4]
  rw [Bool.eq_iff_iff]
  simp
  omega
theorem C8u(r:V2)(h:r.2.1.size≤maxLen):A3X r=some (A3N r,()):=by
  simp only [A3X,C3C,L1,B3g _ h,A3,A3N,A2n,A78,C1G]
  by_cases h1:r.1=1
  · simp [h1];cases idB r.2.1<;>simp
  by_cases h3:r.1=3
  · simp [h3];cases idB r.2.1<;>simp
  by_cases h4:r.1=4
  · simp [h4];cases idB r.2.1<;>simp
  simp only [A4 h1,A4 h3,A4 h4,if_neg h1,if_neg h3,if_neg h4,cond_false]
  cases decide (1≤r.1∧r.1≤6)<;>cases idB r.2.1<;>simp
def D47(n:Nat)(h:B9):Bool:=X2 h.2&&decide (0≤h.1∧h.1≤(n:Int)-1)
def A1a(n:Nat)(l:List B9):Bool:=(List.range l.length).all fun i=>D47 n (rd A9 l (i:Int))
theorem C1H(w:A7)(l:List B9)(h:l.length≤maxLen)(hc:w.2.1.length≤1048576):A8c w l=some (A1a w.2.1.length l,()):=by
  simp only [A8c,C03,A1a]
  refine C4X _ l.length h (fun i=>D47 w.2.1.length (rd A9 l (i:Int))) (fun i hi=>?_) (by simp [B3B])
  have g1:((i:Int)<(l.length:Int)):=by omega
  have g2:(0:Int)≤(i:Int):=by omega
  simp only [B3B,A0 g1,A0 g2,cond_true,Q3,B5x,A3,D47]
  rw [w64 (n:=(w.2.1.length:Int)-1) (by omega) (by omega)]
  cases decide (0≤(rd A9 l (i:Int)).1∧(rd A9 l (i:Int)).1≤(w.2.1.length:Int)-1)<;>cases X2 (rd A9 l (i:Int)).2<;>rfl
theorem D80(w:A7)(l:List B9)(h:l.length≤maxLen)(hc:w.2.1.length≤1048576):A8Q w l=some (A1a w.2.1.length l,()):=by
  simp only [A8Q,B9v,A1a]
  refine C4X _ l.length h (fun i=>D47 w.2.1.length (rd A9 l (i:Int))) (fun i hi=>?_) (by simp [B2y])
  have g1:((i:Int)<(l.length:Int)):=by omega
  have g2:(0:Int)≤(i:Int):=by omega
  simp only [B2y,A0 g1,A0 g2,cond_true,L1,B5y,A3,D47]
  rw [w64 (n:=(w.2.1.length:Int)-1) (by omega) (by omega)]
  cases decide (0≤(rd A9 l (i:Int)).1∧(rd A9 l (i:Int)).1≤(w.2.1.length:Int)-1)<;>cases X2 (rd A9 l (i:Int)).2<;>rfl
def E5X(w:A7):Prop:=w.2.1.length≤1048576∧∀ c∈w.2.1,c.1.size≤maxLen
theorem C4c(w:A7)(h:E5X w)(i:Nat)(hi:i<w.2.1.length):∃ z,B8 (T7 ((i:Int),()) w) (0,())=some z∧(z=.inl ((i:Int)+1,())∨z=.inr (.inr (false,()))):=by
  have hl:=h.1
  refine A0i (T7 ((i:Int),()) w) (fun l=>((i:Int)-l.1).toNat) (fun l=>0≤l.1) (fun z=>z=.inl ((i:Int)+1,())∨z=.inr (.inr (false,()))) (fun l h0=>?_) (0,()) (by simp)
  simp only [T7]
  by_cases hj:l.1<(i:Int)
  · rw [A0 hj,A0 h0,A0 (show l.1<(w.2.1.length:Int) by omega),A0 (show (0:Int)≤(i:Int) by omega),A0 (show (i:Int)<(w.2.1.length:Int) by omega)]
    simp only [cond_true]
    rw [w64 (n:=l.1+1) (by omega) (by omega)]
    cases ((rd B1 w.2.1 l.1).1.toList == (rd B1 w.2.1 (i:Int)).1.toList)
    · exact .inl ⟨_,rfl,by simp only;omega,by simp only;omega⟩
    · exact .inr ⟨_,rfl,.inr rfl⟩
  · rw [A4 hj,w64 (n:=(i:Int)+1) (by omega) (by omega)]
    exact .inr ⟨_,rfl,.inl rfl⟩
theorem D81(w:A7)(h:E5X w)(i:Nat)(hi:i<w.2.1.length):B8 (A2k w ((i:Int),())) (0,())=B8 (T7 ((i:Int),()) w) (0,()):=by
  have hl:=h.1
  have hlen:((w.2.1.take i).drop 0).length=i:=by simp;omega
  refine B09 (fun l=>0≤l.1) (fun l h0=>?_) (fun l y h0 e=>?_) (by simp)
  · simp only [A2k,T7,Int.toNat_natCast,hlen]
    by_cases hj:l.1<(i:Int)
    · obtain ⟨j,hn⟩:∃ j:Nat,l.1=(j:Int):=⟨l.1.toNat,by omega⟩
      rw [hn] at hj h0 ⊢
      rw [A0 hj,A0 h0,A0 (show (j:Int)<(w.2.1.length:Int) by omega),A0 (show (0:Int)≤(i:Int) by omega),A0 (show (i:Int)<(w.2.1.length:Int) by omega)]
      simp only [cond_true]
      have e:rd B1 ((w.2.1.take i).drop 0) (j:Int)=rd B1 w.2.1 (j:Int):=by
        rw [C9 (k:=B1) (xs:=(w.2.1.take i).drop 0) (by rw [hlen];omega),C9 (k:=B1) (xs:=w.2.1) (by omega)]
        simp
      rw [e]
    · rw [A4 hj]
      rfl
  · simp only [A2k,Int.toNat_natCast,hlen] at e
    by_cases hj:l.1<(i:Int)
    · rw [A0 hj,A0 h0] at e
      simp only [cond_true] at e
      rw [w64 (n:=l.1+1) (by omega) (by omega)] at e
      revert e
      cases ((rd B1 ((w.2.1.take i).drop 0) l.1).1.toList == (rd B1 w.2.1 (i:Int)).1.toList)
      · intro e
        simp only [cond_false] at e
        injection e with e;injection e with e;subst e
        simp only;omega
      · intro e
        simp only [cond_true] at e
        injection e with e;cases e
    · rw [A4 hj] at e
      simp only [cond_false] at e
      injection e with e;cases e
theorem C1I(w:A7)(h:E5X w)(l:Int×Unit)(h0:0≤l.1) :
    A2l K8 w l=I6 H3 w l∧((∃ y,I6 H3 w l=some (.inl y)∧y.1=l.1+1∧l.1<(w.2.1.length:Int))∨I6 H3 w l=some (.inr (.inl ()))∨I6 H3 w l=some (.inr (.inr (false,())))):=by
  have hl:=h.1
  simp only [A2l,I6]
  by_cases hi:l.1<(w.2.1.length:Int)
  · obtain ⟨i,hn⟩:∃ i:Nat,l.1=(i:Int):=⟨l.1.toNat,by omega⟩
    obtain ⟨l1,u⟩:=l
    simp only at hn hi h0
    subst hn
    have hi':i<w.2.1.length:=by omega
    have hsz:(rd B1 w.2.1 (i:Int)).1.size≤maxLen:=by
      rw [C9 (k:=B1) (xs:=w.2.1) hi']
      exact h.2 _ (List.getElem_mem hi')
    simp only
    rw [A0 hi,A0 h0,A6N _ hsz,A6M _ hsz,A0 (show (i:Int)≤(w.2.1.length:Int) by omega),D81 w h i hi']
    simp only [cond_true,A3]
    cases I9 (rd B1 w.2.1 (i:Int)) with
    | false=>exact ⟨trivial,.inr (.inr rfl)⟩
    | true=>
      obtain ⟨z,e,hz⟩:=C4c w h i hi'
      simp only [Bool.not_true,cond_false]
      refine ⟨trivial,?_⟩
      rw [e]
      rcases hz with rfl | rfl
      · exact .inl ⟨_,rfl,rfl,hi⟩
      · exact .inr (.inr rfl)
  · rw [A4 hi]
    exact ⟨rfl,.inr (.inl rfl)⟩
theorem C8v(w:A7)(h:E5X w):∃ b,U3 w=some (b,())∧A26 w=some (b,())∧(b=true→w.2.1.length≤6∧w.2.2.1.length=w.2.1.length∧w.2.2.2.2.2.length=w.2.1.length):=by
  have hl:=h.1
  have e1:B8 (A2l K8 w) (0,())=B8 (I6 H3 w) (0,()):=by
    refine B09 (fun l=>0≤l.1) (fun l h0=>(C1I w h l h0).1) (fun l y h0 e=>?_) (by simp)
    rw [(C1I w h l h0).1] at e
    rcases (C1I w h l h0).2 with ⟨y',e2,e3,_⟩ | e2 | e2
    · rw [e2] at e;injection e with e;injection e with e;subst e;omega
    · rw [e2] at e;injection e with e;cases e
    · rw [e2] at e;injection e with e;cases e
  obtain ⟨z,e2,hz⟩:=A0i (I6 H3 w) (fun l=>((w.2.1.length:Int)-l.1).toNat) (fun l=>0≤l.1) (fun z=>z=.inl ()∨z=.inr (false,())) (fun l h0=>by
    rcases (C1I w h l h0).2 with ⟨y',e2,e3,e4⟩ | e2 | e2
    · exact .inl ⟨y',e2,by omega,by omega⟩
    · exact .inr ⟨_,e2,.inl rfl⟩
    · exact .inr ⟨_,e2,.inr rfl⟩) (0,()) (by simp)
  simp only [U3,A4K,A26,B0k,e1,e2]
  rcases hz with rfl | rfl
  · simp only [C2]
    by_cases h1:(w.2.1.length:Int)≤6
    · rw [A0 h1]
      by_cases h2:(w.2.2.1.length:Int)=(w.2.1.length:Int)
      · rw [A0 h2]
        refine ⟨_,rfl,rfl,fun e=>?_⟩
        have e3:=of_decide_eq_true e
        omega
      · rw [A4 h2]
        exact ⟨_,rfl,rfl,fun e=>by cases e⟩
    · rw [A4 h1]
      exact ⟨_,rfl,rfl,fun e=>by cases e⟩
  · exact ⟨_,rfl,rfl,fun e=>by cases e⟩
def C4d(n:Nat)(a:D8):Bool:=A3N a.2.1&&decide (0≤a.1∧a.1≤(n:Int)-1)
def F11(w:A7):Prop:=A5e w.1.1.1.1∧w.1.2.length≤1048576∧E5X w∧(w.2.2.2.1.length≤1048576∧∀ a∈w.2.2.2.1,a.2.1.2.1.size≤maxLen)∧w.2.2.2.2.1.length≤1048576
theorem E1h(w:A7)(h:F11 w):∃ b,A01 w=some (b,())∧A3Y w=some (b,()):=by
  obtain ⟨h1,h2,h3,⟨h4,h4'⟩,h5⟩:=h
  have hc:=h3.1
  obtain ⟨bs,es,ei,_⟩:=C4b w.1 h1 h2
  obtain ⟨bc,cs,ci,_⟩:=C8v w h3
  have ht:=C1H w w.2.2.2.2.1 (by simp only [maxLen];omega) hc
  have ht':=D80 w w.2.2.2.2.1 (by simp only [maxLen];omega) hc
  have hh:=C1H w w.1.2 (by simp only [maxLen];omega) hc
  have hh':=D80 w w.1.2 (by simp only [maxLen];omega) hc
  have hloop:=C4X (Y0 A5X E3 w) w.2.2.2.1.length (by simp only [maxLen];omega) (fun i=>C4d w.2.1.length (rd B7 w.2.2.2.1 (i:Int))) (fun i hi=>by
    have g1:((i:Int)<(w.2.2.2.1.length:Int)):=by omega
    have g2:(0:Int)≤(i:Int):=by omega
    have hsz:(rd B7 w.2.2.2.1 (i:Int)).2.1.2.1.size≤maxLen:=by
      rw [C9 (k:=B7) (xs:=w.2.2.2.1) hi]
      exact h4' _ (List.getElem_mem hi)
    simp only [Y0,A0 g1,A0 g2,cond_true,Q3,C8t _ hsz,A3,C4d]
    rw [w64 (n:=(w.2.1.length:Int)-1) (by omega) (by omega)]
    cases decide (0≤(rd B7 w.2.2.2.1 (i:Int)).1∧(rd B7 w.2.2.2.1 (i:Int)).1≤(w.2.1.length:Int)-1)<;>cases A3N (rd B7 w.2.2.2.1 (i:Int)).2.1<;>rfl) (by simp [Y0])
  have istep:∀ i:Nat,i<w.2.2.2.1.length→A5o A3X C7 w ((i:Int),())=bif C4d w.2.1.length (rd B7 w.2.2.2.1 (i:Int)) then some (.inl (((i+1:Nat):Int),())) else some (.inr (.inr (false,()))):=fun i hi=>by
    have g1:((i:Int)<(w.2.2.2.1.length:Int)):=by omega
    have g2:(0:Int)≤(i:Int):=by omega
    have hsz:(rd B7 w.2.2.2.1 (i:Int)).2.1.2.1.size≤maxLen:=by
      rw [C9 (k:=B7) (xs:=w.2.2.2.1) hi]
      exact h4' _ (List.getElem_mem hi)
    have e1:((i+1:Nat):Int)=(i:Int)+1:=by omega
    simp only [A5o,A0 g1,A0 g2,cond_true,L1,C8u _ hsz,A3,C4d,e1]
    rw [w64 (n:=(w.2.1.length:Int)-1) (by omega) (by omega),w64 (n:=(i:Int)+1) (by omega) (by omega)]
    cases decide (0≤(rd B7 w.2.2.2.1 (i:Int)).1∧(rd B7 w.2.2.2.1 (i:Int)).1≤(w.2.1.length:Int)-1)<;>cases A3N (rd B7 w.2.2.2.1 (i:Int)).2.1<;>rfl
  simp only [A01,A9j,A3Y,B5E,es,ei,cs,ci,ht,ht',hh,hh',hloop,A3]
  have hirest:(bif A1a w.2.1.length w.2.2.2.2.1 then bif A1a w.2.1.length w.1.2 then some (bs,()) else some (false,()) else some (false,()))=some (A1a w.2.1.length w.2.2.2.2.1&&A1a w.2.1.length w.1.2&&bs,()):=by
    cases A1a w.2.1.length w.2.2.2.2.1<;>cases A1a w.2.1.length w.1.2<;>rfl
  have hi:=E9Q istep (by simp [A5o]) (fun _=>(bif A1a w.2.1.length w.2.2.2.2.1 then bif A1a w.2.1.length w.1.2 then some (bs,()) else some (false,()) else some (false,()))) _ hirest
  rw [C8l] at hi
  generalize ((List.range w.2.2.2.1.length).all fun i=>C4d w.2.1.length (rd B7 w.2.2.2.1 (i:Int)))=ba at hi ⊢
  cases bc with
  | false=>
    cases bs<;>exact ⟨_,rfl,rfl⟩
  | true=>
    simp only [Bool.not_true,cond_false]
    cases decide ((w.2.2.2.1.length:Int)>60) with
    | true=>cases bs<;>exact ⟨_,rfl,rfl⟩
    | false=>
      cases decide ((w.2.2.2.2.1.length:Int)>60) with
      | true=>cases bs<;>exact ⟨_,rfl,rfl⟩
      | false=>
        simp only [cond_false]
        have e0:∀ g:Unit→Option (Bool×Unit),C2 (some (.inl ():Unit⊕(Bool×Unit))) g=g ():=fun g=>rfl
        simp only [e0]
        refine ⟨_,?_,hi⟩
        cases bs<;>cases A1a w.2.1.length w.2.2.2.2.1<;>cases A1a w.2.1.length w.1.2<;>simp [C2]
theorem E7y(a:List Bool)(h:a.length≤1048576):MH (T4 a) A6F (cost (fun _=>1) a):=by
  refine B7R V6 A3A (fun _=>1) a h (fun i hi m h0 h1=>?_) (fun m b hb=>by simp [V6,hb]) (fun m b hb=>by simp [A3A,hb])
  have w1:IntKind.i64.wrap (m+1)=m+1:=w64 (by omega) (by omega)
  have wi:IntKind.i64.wrap ((i:Int)+1)=(i:Int)+1:=w64 (by omega) (by omega)
  have g1:(0:Int)≤(i:Int):=by omega
  refine ⟨m+1,decide (m.tmod 3=0),by omega,by omega,fun b hb e=>?_,fun b hb e=>?_⟩
  · have g2:(i:Int)<(b.length:Int):=by omega
    simp only [V6,A0 g1,A0 g2,cond_true,Int.toNat_natCast,w1,wi]
  · have g2:(i:Int)<(b.length:Int):=by omega
    have hr:rd .bool b (i:Int)=decide (m.tmod 3=0):=by rw [E4D (by omega)];exact e
    simp only [A3A,A0 g1,A0 g2,cond_true,w1,wi,hr]
    simp
theorem E9X(a:List Int)(h:a.length≤1048576):MH (A7s a) A7v (cost (fun _=>1) a):=by
  refine B7R A4Z A4c (fun _=>1) a h (fun i hi m h0 h1=>?_) (fun m b hb=>by simp [A4Z,hb]) (fun m b hb=>by simp [A4c,hb])
  have w1:IntKind.i64.wrap (m+1)=m+1:=w64 (by omega) (by omega)
  have wi:IntKind.i64.wrap ((i:Int)+1)=(i:Int)+1:=w64 (by omega) (by omega)
  have g1:(0:Int)≤(i:Int):=by omega
  refine ⟨m+1,m,by omega,by omega,fun b hb e=>?_,fun b hb e=>?_⟩
  · have g2:(i:Int)<(b.length:Int):=by omega
    simp only [A4Z,A0 g1,A0 g2,cond_true,Int.toNat_natCast,w1,wi]
  · have g2:(i:Int)<(b.length:Int):=by omega
    have hr:rd (.int .i64) b (i:Int)=m:=by rw [C3N (by omega)];exact e
    simp only [A4c,A0 g1,A0 g2,cond_true,w1,wi,hr]
    simp
theorem E1i(a:List B2)(h:a.length≤1048576):MH (A33 a) A39 (cost (fun u=>List.length u.2.1+3) a):=by
  refine B7R (A0q I7 D3) (A0s I8 D3) (fun u=>List.length u.2.1+3) a h (fun i hi m h0 h1=>?_) (fun m b hb=>by simp [A0q,hb]) (fun m b hb=>by simp [A0s,hb])
  obtain ⟨m1,d,e1,b1,b2,e2⟩:=C8p a[i].2.1 (m+1) (by omega) (by omega)
  have w1:IntKind.i64.wrap (m+1)=m+1:=w64 (by omega) (by omega)
  have w2:IntKind.i64.wrap (m1+1)=m1+1:=w64 (by omega) (by omega)
  have w3:IntKind.i64.wrap (m1+1+1)=m1+1+1:=w64 (by omega) (by omega)
  have wi:IntKind.i64.wrap ((i:Int)+1)=(i:Int)+1:=w64 (by omega) (by omega)
  have g1:(0:Int)≤(i:Int):=by omega
  have ht:=A6v m (by omega)
  refine ⟨m1+1+1,(mt m,d,m1,m1+1),by omega,by omega,fun b hb e=>?_,fun b hb e=>?_⟩
  · have hib:i<b.length:=by omega
    have g2:(i:Int)<(b.length:Int):=by omega
    have hr:rd B1 b (i:Int)=a[i]:=by rw [C9 (k:=B1) (xs:=b) (by omega)];exact e
    simp only [A0q,A3,ht,List.length_set,A0 g1,A0 g2,cond_true,Int.toNat_natCast,w1,w2,w3,wi,List.set_set,C8o (k:=B1) hib,hr,e1]
  · have g2:(i:Int)<(b.length:Int):=by omega
    have hr:rd B1 b (i:Int)=(mt m,d,m1,m1+1):=by rw [C9 (k:=B1) (xs:=b) (by omega)];exact e
    simp only [A0s,A3,ht,A0 g1,A0 g2,cond_true,w1,w2,w3,wi,hr,e2]
    rw [A4 (show ¬ m1<0 by omega)]
    simp
theorem E7z(a:List D8)(h:a.length≤1048576):MH (A6A a) A6H (cost (fun u=>List.length u.2.2+4) a):=by
  refine B7R (A34 I7 D3) (A3B I8 D3) (fun u=>List.length u.2.2+4) a h (fun i hi m h0 h1=>?_) (fun m b hb=>by simp [A34,hb]) (fun m b hb=>by simp [A3B,hb])
  obtain ⟨m1,d,e1,b1,b2,e2⟩:=C8p a[i].2.2 (m+1+1+1+1) (by omega) (by omega)
  have w1:IntKind.i64.wrap (m+1)=m+1:=w64 (by omega) (by omega)
  have w2:IntKind.i64.wrap (m+1+1)=m+1+1:=w64 (by omega) (by omega)
  have w3:IntKind.i64.wrap (m+1+1+1)=m+1+1+1:=w64 (by omega) (by omega)
  have w4:IntKind.i64.wrap (m+1+1+1+1)=m+1+1+1+1:=w64 (by omega) (by omega)
  have wi:IntKind.i64.wrap ((i:Int)+1)=(i:Int)+1:=w64 (by omega) (by omega)
  have g1:(0:Int)≤(i:Int):=by omega
  have ht:=A6v (m+1+1) (by omega)
  refine ⟨m1,(m,(m+1,mt (m+1+1),m+1+1+1),d),by omega,by omega,fun b hb e=>?_,fun b hb e=>?_⟩
  · have hib:i<b.length:=by omega
    have g2:(i:Int)<(b.length:Int):=by omega
    have hr:rd B7 b (i:Int)=a[i]:=by rw [C9 (k:=B7) (xs:=b) (by omega)];exact e
    simp only [A34,A3,List.length_set,A0 g1,A0 g2,cond_true,Int.toNat_natCast,w1,w2,w3,w4,wi,List.set_set,C8o (k:=B7) hib,hr,ht,e1]
  · have g2:(i:Int)<(b.length:Int):=by omega
    have hr:rd B7 b (i:Int)=(m,(m+1,mt (m+1+1),m+1+1+1),d):=by rw [C9 (k:=B7) (xs:=b) (by omega)];exact e
    simp only [A3B,A3,A0 g1,A0 g2,cond_true,w1,w2,w3,w4,wi,hr,ht,e2]
    rw [A4 (show ¬ m1<0 by omega)]
    simp
def C8w(w:A7):Nat:=B7S w.1+cost (fun u:B2=>List.length u.2.1+3) w.2.1+cost (fun _:Bool=>1) w.2.2.1+cost (fun u:D8=>List.length u.2.2+4) w.2.2.2.1+cost (fun _:B9=>3) w.2.2.2.2.1+cost (fun _:Int=>1) w.2.2.2.2.2
def F12(w:A7):Prop:=w.1.1.2.2.2.length≤1048576∧w.1.2.length≤1048576∧w.2.1.length≤1048576∧w.2.2.1.length≤1048576∧w.2.2.2.1.length≤1048576∧w.2.2.2.2.1.length≤1048576∧w.2.2.2.2.2.length≤1048576
theorem D82(w:A7)(h:F12 w)(m:Int)(h0:0≤m)(h1:m+C8w w<4611686018427387904) :
    ∃ m' y1 y2 y3 y4,A2M w m=some (m',(((y1,w.1.1.2.1,w.1.1.2.2.1,y2),y3),y4),())∧m≤m'∧m'≤m+C8w w∧∀ a b,A2O (((y1,a,b,y2),y3),y4) m=some (m',()):=by
  obtain ⟨l1,l2,l3,l4,l5,l6,l7⟩:=h
  unfold C8w at *
  obtain ⟨m1,y1,y2,y3,e1,a1,b1,f1⟩:=E5W w.1 l1 l2 m h0 (by omega)
  obtain ⟨m2,z2,e2,a2,b2,f2⟩:=E1i w.2.1 l3 m1 (by omega) (by omega)
  obtain ⟨m3,z3,e3,a3,b3,f3⟩:=E7y w.2.2.1 l4 m2 (by omega) (by omega)
  obtain ⟨m4,z4,e4,a4,b4,f4⟩:=E7z w.2.2.2.1 l5 m3 (by omega) (by omega)
  obtain ⟨m5,z5,e5,a5,b5,f5⟩:=D7y w.2.2.2.2.1 l6 m4 (by omega) (by omega)
  obtain ⟨m6,z6,e6,a6,b6,f6⟩:=E9X w.2.2.2.2.2 l7 m5 (by omega) (by omega)
  refine ⟨m6,y1,y2,y3,(z2,z3,z4,z5,z6),?_,by omega,by omega,fun a b=>?_⟩
  · simp only [A2M,B17,e1,e2,e3,e4,e5,e6,A3]
  · simp only [A2O,B1A,f1,f2,f3,f4,f5,f6,A3]
    rw [A4 (show ¬ m1<0 by omega),A4 (show ¬ m2<0 by omega),A4 (show ¬ m3<0 by omega),A4 (show ¬ m4<0 by omega),A4 (show ¬ m5<0 by omega),A4 (show ¬ m6<0 by omega)]
    rfl
theorem E9Y{N e1 e2:Nat}{d:D5}(hN:N≤1048576)(h:Sm N (.pair (.sl e1 .str) (.sl e2 .str)) d):A2T d:=⟨D5R hN (Sm.l h),D5R hN (Sm.r h)⟩
theorem E80{N:Nat}{s:A8}(hN:N≤1048576)(h:Sm N B7G s):A7M s:=⟨E9Y hN (Sm.l h),by
    have h1:List.length s.2.2.2≤N:=(Sm.r (Sm.r (Sm.r h))).1
    omega,fun u hu=>by
    have h1:Sm N kUp u:=(Sm.r (Sm.r (Sm.r h))).2 u hu
    have h2:List.length u.2.2.1≤N:=(Sm.l (Sm.r (Sm.r h1))).1
    omega⟩
theorem E4K{N:Nat}{s:C0}(hN:N≤1048576)(h:Sm N B1e s):D46 s:=⟨E80 hN (Sm.l h),by
    have h1:List.length s.2≤N:=(Sm.r h).1
    omega⟩
theorem E5Y{a b:List Int}(ha:Byt a)(hb:Byt b)(h:(strOf a).toList=(strOf b).toList):a=b:=by
  rw [ByteArray.toList_eq,ByteArray.toList_eq] at h
  have h2:(a.map fun n=>UInt8.ofNat n.toNat)=b.map fun n=>UInt8.ofNat n.toNat:=h
  have hl:a.length=b.length:=by simpa using congrArg List.length h2
  refine List.ext_getElem hl fun i h1 h3=>?_
  have h4:=congrArg (fun l=>l[i]?) h2
  simp only [List.getElem?_map,List.getElem?_eq_getElem h1,List.getElem?_eq_getElem h3,Option.map_some,Option.some.injEq] at h4
  exact F0Y (ha _ (List.getElem_mem h1)) (hb _ (List.getElem_mem h3)) h4
theorem E4L{a b:ByteArray}(h:a.toList=b.toList):a=b:=by
  rw [ByteArray.toList_eq,ByteArray.toList_eq] at h
  obtain ⟨⟨a⟩⟩:=a
  obtain ⟨⟨b⟩⟩:=b
  have h:a=b:=h
  rw [h]
theorem E5Z{a b:TUp}(ha:Byt a.2.2.1)(hb:Byt b.2.2.1)(h:A6P a b=true):a=b:=by
  simp only [A6P,Bool.and_eq_true,beq_iff_eq,decide_eq_true_eq] at h
  obtain ⟨⟨⟨h1,h2⟩,h3⟩,h4⟩:=h
  obtain ⟨a1,a2,a3,a4⟩:=a
  obtain ⟨b1,b2,b3,b4⟩:=b
  simp only at h1 h2 h3 h4 ha hb
  rw [E4L h1,h2,h3,E5Y ha hb h4]
end Go.Proofs.YtpdcljonclhhpaaGreat.Ev
