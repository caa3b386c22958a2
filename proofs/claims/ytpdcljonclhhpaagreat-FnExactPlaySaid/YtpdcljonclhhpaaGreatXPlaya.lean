/- What the plain functions of the program and of the reference answer: laws of plain data. -/
import Derived.Test.YtpdcljonclhhpaaGreatPu
import Derived.Laws.Strings
set_option linter.unusedVariables false
set_option linter.unusedSimpArgs false
namespace Go.Proofs.YtpdcljonclhhpaaGreat.Ev
theorem w64{n:Int}(h0:-9223372036854775808≤n)(h1:n<9223372036854775808):IntKind.i64.wrap n=n:=by
  simp only [IntKind.wrap,IntKind.bits,IntKind.signed,Bool.true_and]
  simp
  split<;>omega
theorem A01{α β:Type}(f:α→Option (α⊕β))(μ:α→Nat)(I:α→Prop)(Q:β→Prop)
    (h:∀ x,I x→(∃ y,f x=some (.inl y)∧I y∧μ y<μ x)∨∃ z,f x=some (.inr z)∧Q z):∀ x,I x→∃ z,B6 f x=some z∧Q z:=by
  intro x
  generalize hn:μ x=n
  induction n using Nat.strongRecOn generalizing x with
  | ind n ih=>
    intro hx
    rw [Q8]
    rcases h x hx with ⟨y,e,hy,hl⟩ | ⟨z,e,hz⟩
    · rw [e];exact ih (μ y) (by omega) y rfl hy
    · rw [e];exact ⟨z,rfl,hz⟩
theorem D8{α β:Type}(f:α→Option (α⊕β))(s:Nat→α)(n:Nat)(z:β)(h:∀ i,i<n→f (s i)=some (.inl (s (i+1))))(he:f (s n)=some (.inr z)):B6 f (s 0)=some z:=by
  have key:∀ k i,i+k=n→B6 f (s i)=some z:=by
    intro k
    induction k with
    | zero=>intro i hi;rw [Q8,show i=n by omega,he]
    | succ k ih=>intro i hi;rw [Q8,h i (by omega)];exact ih (i+1) (by omega)
  exact key n 0 (by omega)
theorem E2C{α β:Type}(f:α→Option (α⊕β))(s:Nat→α)(n:Nat)(z:Nat→β)(go:Nat→Bool)(h:∀ i,i<n→f (s i)=if go i then some (.inl (s (i+1))) else some (.inr (z i)))(he:f (s n)=some (.inr (z n))) :
    ∃ i,i≤n∧(∀ j,j<i→go j=true)∧(i<n→go i=false)∧B6 f (s 0)=some (z i):=by
  have key:∀ k i,i+k=n→(∀ j,j<i→go j=true)→∃ i',i'≤n∧(∀ j,j<i'→go j=true)∧(i'<n→go i' = false)∧B6 f (s i)=some (z i'):=by
    intro k
    induction k with
    | zero=>
      intro i hi hg
      obtain rfl:i=n:=by omega
      exact ⟨i,Nat.le_refl _,hg,fun h=>absurd h (by omega),by rw [Q8,he]⟩
    | succ k ih=>
      intro i hi hg
      cases hgo:go i with
      | true=>
        obtain ⟨i',h1,h2,h3,h4⟩:=ih (i+1) (by omega) (fun j hj=>by
          by_cases h:j<i
          · exact hg j h
          · rw [show j=i by omega];exact hgo)
        refine ⟨i',h1,h2,h3,?_⟩
        rw [Q8,h i (by omega),if_pos hgo]
        exact h4
      | false=>
        refine ⟨i,by omega,hg,fun _=>hgo,?_⟩
        rw [Q8,h i (by omega),hgo]
        rfl
  exact key n 0 (by omega) (fun j hj=>by omega)
theorem F1q(s:ByteArray)(i:Int):0≤bt s i:=by unfold bt;omega
theorem F1r(s:ByteArray)(i:Int):bt s i<256:=by
  have:=(s.data.toList.getD i.toNat 0).toNat_lt
  unfold bt;omega
theorem F1O(s:ByteArray)(i:Int):IntKind.i64.wrap (bt s i)=bt s i:=w64 (by have:=F1q s i;omega) (by have:=F1r s i;omega)
theorem C4{k:K}{xs:List k.T}{i:Nat}(h:i<xs.length):rd k xs (i:Int)=xs[i]:=by
  unfold rd
  rw [Int.toNat_natCast]
  simp [List.getD,h]
theorem C3o{κ:IntKind}{xs:List Int}{i:Nat}(h:i<xs.length):rd (.int κ) xs (i:Int)=xs[i]:=C4 (k:=.int κ) h
theorem E54{xs:List Bool}{i:Nat}(h:i<xs.length):rd .bool xs (i:Int)=xs[i]:=C4 (k:=.bool) h
theorem A3U{xs:List ByteArray}{i:Nat}(h:i<xs.length):rd .str xs (i:Int)=xs[i]:=C4 (k:=.str) h
theorem F1P{κ:IntKind}{n:Int}(h:Wf (.int κ) n):κ.min≤n∧n≤κ.max:=by
  simp only [Wf,Lit.wf,Bool.and_eq_true,decide_eq_true_eq] at h
  exact h
theorem wf_u8{n:Int}(h:Wf (.int .u8) n):0≤n∧n<256:=by
  have:=F1P h
  simp only [IntKind.min,IntKind.max,IntKind.signed,IntKind.bits] at this
  simp at this
  omega
def Byt(a:List Int):Prop:=∀ x∈a,0≤x∧x<256
theorem E2D{a:List Int}(h:∀ x∈a,Wf (.int .u8) x):Byt a:=fun x hx=>wf_u8 (h x hx)
theorem pe{α β:Type}(p:α×β):(p.1,p.2)=p:=rfl
theorem A0{p:Prop} [Decidable p] (h:p):decide p=true:=decide_eq_true h
theorem A4{p:Prop} [Decidable p] (h:¬ p):decide p=false:=decide_eq_false h
def Sm(N:Nat):(k:K)→k.T→Prop
  | .int _,_=>True
  | .bool,_=>True
  | .fnc _,_=>True
  | .str,s=>s.size≤N
  | .sl _ k,xs=>xs.length≤N∧∀ x∈xs,Sm N k x
  | .rs _ k,xs=>xs.length≤N∧∀ x∈xs,Sm N k x
  | .pair a b,x=>Sm N a x.1∧Sm N b x.2
theorem D4W:∀ {k:K} {x:k.T},Wf k x→Sm maxLen k x
  | .int _,_,_=>trivial
  | .bool,_,_=>trivial
  | .fnc _,_,_=>trivial
  | .str,_,h=>h
  | .sl _ _,_,h=>⟨h.1,fun x hx=>D4W (h.2 x hx)⟩
  | .rs _ _,_,h=>⟨h.1,fun x hx=>D4W (h.2 x hx)⟩
  | .pair _ _,_,h=>⟨D4W h.1,D4W h.2⟩
theorem Sm.l{N:Nat}{a b:K}{x:(K.pair a b).T}(h:Sm N (.pair a b) x):Sm N a x.1:=h.1
theorem Sm.r{N:Nat}{a b:K}{x:(K.pair a b).T}(h:Sm N (.pair a b) x):Sm N b x.2:=h.2
def B24(P:Int→Option (Int×Unit))(S:Prop):Prop:=∀ l:Int,0≤l→l≤1048576→∃ r,P l=some (r,())∧r≤l∧(0≤r→S)
theorem C1S{T:Type}(f:T→Int→Option (Int×Unit))(S:T→Prop)(L:Int×Int×Unit→Option ((Int×Int×Unit)⊕(Int×Unit)))(a:List T)(hn:a.length≤maxLen)(hf:∀ x∈a,B24 (f x) (S x))
    (hs:∀ (i:Nat) (hi:i<a.length) (l:Int),L (l,(i:Int),())=A3 (f a[i] l) fun c=>bif decide (c.1<0) then some (.inr (-1,())) else some (.inl (c.1,IntKind.i64.wrap ((i:Int)+1),())))
    (he:∀ l,L (l,(a.length:Int),())=some (.inr (l,()))):B24 (fun l=>B6 L (l,0,())) (∀ x∈a,S x):=by
  have key:∀ k i,i+k=a.length→∀ l:Int,0≤l→l≤1048576→∃ r,B6 L (l,(i:Int),())=some (r,())∧r≤l∧(0≤r→∀ j (hj:j<a.length),i≤j→S a[j]):=by
    intro k
    induction k with
    | zero=>
      intro i hi l h0 h1
      obtain rfl:i=a.length:=by omega
      exact ⟨l,by rw [Q8,he],Int.le_refl _,fun _ j hj hi=>by omega⟩
    | succ k ih=>
      intro i hi l h0 h1
      have hlt:i<a.length:=by omega
      obtain ⟨r,e,h2,h3⟩:=hf a[i] (List.getElem_mem hlt) l h0 h1
      rw [Q8,hs i hlt,e]
      simp only [A3]
      by_cases hr:r<0
      · rw [A0 hr]
        exact ⟨-1,rfl,by omega,fun h=>by omega⟩
      · rw [A4 hr]
        simp only [cond_false]
        rw [w64 (by omega) (by simp only [maxLen] at hn;omega)]
        obtain ⟨r',e',h4,h5⟩:=ih (i+1) (by omega) r (by omega) (by omega)
        refine ⟨r',by simpa using e',by omega,fun h j hj hij=>?_⟩
        by_cases hji:j=i
        · subst hji;exact h3 (by omega)
        · exact h5 h j hj (by omega)
  intro l h0 h1
  obtain ⟨r,e,h2,h3⟩:=key a.length 0 (by omega) l h0 h1
  refine ⟨r,by simpa using e,h2,fun h x hx=>?_⟩
  obtain ⟨j,hj,rfl⟩:=List.getElem_of_mem hx
  exact h3 h j hj (by omega)
theorem B0P(L:Int×Unit→Option ((Int×Unit)⊕(Bool×Unit)))(n:Nat)(hn:n≤maxLen)(hs:∀ i:Nat,i<n→L ((i:Int),())=some (.inl (IntKind.i64.wrap ((i:Int)+1),())))
    (he:L ((n:Int),())=some (.inr (true,()))):B6 L (0,())=some (true,()):=by
  refine D8 L (fun i=>((i:Int),())) n (true,()) (fun i hi=>?_) he
  rw [hs i hi,w64 (by omega) (by simp only [maxLen] at hn;omega)]
  rfl
theorem B0Q{T:Type}(L:Int×List T×Unit→Option ((Int×List T×Unit)⊕(List T×Unit)))(a:List T)(z:T)(hn:a.length≤maxLen)
    (hs:∀ (i:Nat) (hi:i<a.length) (b:List T),b.length=a.length→L ((i:Int),b,())=some (.inl (IntKind.i64.wrap ((i:Int)+1),b.set i a[i],())))
    (he:∀ b,L ((a.length:Int),b,())=some (.inr (b,()))):B6 L (0,List.replicate a.length z,())=some (a,()):=by
  have key:=D8 L (fun i=>((i:Int),a.take i++List.replicate (a.length-i) z,())) a.length (a,()) (fun i hi=>?_) ?_
  · simpa using key
  · have hl:(a.take i++List.replicate (a.length-i) z).length=a.length:=by simp;omega
    rw [hs i hi _ hl,w64 (by omega) (by simp only [maxLen] at hn;omega)]
    have:(a.take i++List.replicate (a.length-i) z).set i a[i]=a.take (i+1)++List.replicate (a.length-(i+1)) z:=by
      rw [List.set_append_right _ _ (by simp;omega)]
      rw [List.take_succ_eq_append_getElem hi,List.append_assoc]
      congr 1
      rw [show (a.take i).length=i by simp;omega,Nat.sub_self,show a.length-i=(a.length-(i+1))+1 by omega,List.replicate_succ]
      rfl
    rw [this]
    rfl
  · rw [he]
    simp
theorem B6B{α β:Type}{f g:α→Option (α⊕β)}(I:α→Prop)(h:∀ x,I x→f x=g x)(hI:∀ x y,I x→f x=some (.inl y)→I y):∀ n x,I x→A7g f n x=A7g g n x
  | 0,_,_=>rfl
  | n+1,x,hx=>by
    simp only [A7g,← h x hx]
    cases e:f x with
    | none=>rfl
    | some v=>
      cases v with
      | inl y=>exact B6B I h hI n y (hI x y hx e)
      | inr z=>rfl
theorem B0R{α β:Type}{f g:α→Option (α⊕β)}(I:α→Prop)(h:∀ x,I x→f x=g x)(hI:∀ x y,I x→f x=some (.inl y)→I y){x:α}(hx:I x):B6 f x=B6 g x:=by
  cases e:B6 g x with
  | some z=>
    obtain ⟨n,hn⟩:=A5U e
    exact B5G (n:=n) (by rw [B6B I h hI n x hx];exact hn)
  | none=>
    cases e':B6 f x with
    | none=>rfl
    | some z=>
      obtain ⟨n,hn⟩:=A5U e'
      rw [B6B I h hI n x hx] at hn
      rw [B5G hn] at e
      cases e
def O9(go:Nat→Bool):Nat→Nat→Nat
  | i,0=>i
  | i,k+1=>if go i then O9 go (i+1) k else i
theorem C3p(go:Nat→Bool):∀ k i,O9 go i k≤i+k
  | 0,i=>Nat.le_refl _
  | k+1,i=>by
    simp only [O9]
    split
    · have:=C3p go k (i+1);omega
    · omega
theorem B3u(go:Nat→Bool):∀ k i,O9 go i k<i+k→go (O9 go i k)=false
  | 0,i,h=>by simp [O9] at h
  | k+1,i,h=>by
    simp only [O9] at h ⊢
    split
    · rename_i hg
      rw [if_pos hg] at h
      exact B3u go k (i+1) (by omega)
    · rename_i hg
      simpa using hg
theorem A3o{α β:Type}(f:α→Option (α⊕β))(s:Nat→α)(n:Nat)(z:Nat→β)(go:Nat→Bool)(h:∀ i,i<n→f (s i)=if go i then some (.inl (s (i+1))) else some (.inr (z i)))(he:f (s n)=some (.inr (z n))) :
    B6 f (s 0)=some (z (O9 go 0 n)):=by
  have key:∀ k i,i+k=n→B6 f (s i)=some (z (O9 go i k)):=by
    intro k
    induction k with
    | zero=>
      intro i hi
      obtain rfl:i=n:=by omega
      rw [Q8,he]
      rfl
    | succ k ih=>
      intro i hi
      rw [Q8,h i (by omega)]
      simp only [O9]
      cases go i with
      | true=>simp only [if_true];exact ih (i+1) (by omega)
      | false=>rfl
  exact key n 0 (by omega)
theorem C4x(L:Int×Unit→Option ((Int×Unit)⊕(Bool×Unit)))(n:Nat)(hn:n≤maxLen)(go:Nat→Bool)(hs:∀ i:Nat,i<n→L ((i:Int),())=bif go i then some (.inl (IntKind.i64.wrap ((i:Int)+1),())) else some (.inr (false,())))
    (he:L ((n:Int),())=some (.inr (true,()))):B6 L (0,())=some ((List.range n).all go,()):=by
  have h:=A3o L (fun i=>((i:Int),())) n (fun i=>(decide (i=n),())) go (fun i hi=>by
    rw [hs i hi,w64 (by omega) (by simp only [maxLen] at hn;omega)]
    cases go i with
    | true=>rfl
    | false=>simp only [Bool.false_eq_true,if_false,cond_false];rw [A4 (by omega)]) (by rw [he];simp)
  have h':B6 L (0,())=some (decide (O9 go 0 n=n),()):=h
  rw [h']
  have key:∀ k i,decide (O9 go i k=i+k)=((List.range k).all fun j=>go (i+j)):=by
    intro k
    induction k with
    | zero=>intro i;simp [O9]
    | succ k ih=>
      intro i
      have e:((List.range (k+1)).all fun j=>go (i+j))=(go i&&(List.range k).all fun j=>go (i+1+j)):=by
        rw [List.range_succ_eq_map,List.all_cons,List.all_map]
        simp only [Nat.add_zero]
        congr 2
        funext j
        simp only [Function.comp]
        congr 1
        omega
      rw [e,← ih (i+1)]
      by_cases hg:go i=true
      · have e1:O9 go i (k+1)=O9 go (i+1) k:=by simp only [O9];rw [if_pos hg]
        rw [Bool.eq_iff_iff,hg]
        simp only [decide_eq_true_eq,Bool.true_and,e1]
        omega
      · have e1:O9 go i (k+1)=i:=by simp only [O9];rw [if_neg hg]
        rw [Bool.eq_iff_iff]
        simp only [decide_eq_true_eq,Bool.and_eq_true,e1]
        constructor
        · intro h;omega
        · intro h;exact absurd h.1 hg
  have k0:=key n 0
  simp only [Nat.zero_add] at k0
  rw [k0]
theorem D5l(a:List Int)(h:a.length≤maxLen):T5 a a=some (true,()):=by
  simp only [T5,B5m]
  simp only [decide_true,Bool.not_true,cond_false]
  refine D8 (A6F a a) (fun i=>((i:Int),())) a.length (true,()) (fun i hi=>?_) ?_
  · have h1:((i:Int)<(a.length:Int)):=by omega
    have h2:(0:Int)≤(i:Int):=by omega
    simp only [A6F,A0 h1,A0 h2,cond_true,decide_true,Bool.not_true,cond_false]
    rw [w64 (by omega) (by simp only [maxLen] at h;omega)]
    rfl
  · simp [A6F]
theorem E2E(a:List Int)(h:a.length≤281474976710656):T4 a=some (a,()):=by
  simp only [T4,B5d]
  have h1:(0:Int)≤(a.length:Int):=by omega
  rw [A0 h1,Int.toNat_natCast,A0 (show a.length≤9223372036854775807 by omega),A0 (show 1*a.length≤281474976710656 by omega)]
  simp only [cond_true]
  have key:=D8 (A6C a) (fun i=>((i:Int),a.take i++List.replicate (a.length-i) 0,())) a.length (a,()) (fun i hi=>?_) ?_
  · simpa using key
  · have h1:((i:Int)<(a.length:Int)):=by omega
    have h2:(0:Int)≤(i:Int):=by omega
    have hl:(a.take i++List.replicate (a.length-i) (0:Int)).length=a.length:=by simp;omega
    simp only [A6C,hl,A0 h1,A0 h2,cond_true]
    rw [w64 (by omega) (by omega),Int.toNat_natCast,C4 hi]
    have:(a.take i++List.replicate (a.length-i) (0:Int)).set i a[i]=a.take (i+1)++List.replicate (a.length-(i+1)) 0:=by
      rw [List.set_append_right _ _ (by simp;omega)]
      rw [List.take_succ_eq_append_getElem hi,List.append_assoc]
      congr 1
      rw [show (a.take i).length=i by simp;omega,Nat.sub_self,show a.length-i=(a.length-(i+1))+1 by omega,List.replicate_succ]
      rfl
    rw [this]
    rfl
  · simp [A6C]
abbrev P0:=ByteArray×List Int×Int×Int
theorem E2F(a:List Int)(l:Int)(h0:l≤1048576)(h1:0≤l)(h:a.length≤maxLen):T3 a l=some (if (a.length:Int)≤l then (l-a.length:Int) else -1,()):=by
  simp only [T3,B5W,maxLen] at *
  rw [w64 (by omega) (by omega)]
  split
  · rw [A4 (by omega)];rfl
  · rw [A0 (by omega)];rfl
def marked(m:Int)(n:Nat):List Int:=(List.range n).map fun j=>IntKind.u8.wrap (m+(j:Nat))
theorem D5m(a:List Int)(m:Int)(h0:0≤m)(h:m+a.length<9223372036854775808):I8 a m=some (m+a.length,marked m a.length,()):=by
  simp only [I8,B1J]
  have key:=D8 A35 (fun i=>(m+(i:Int),(i:Int),marked m i++a.drop i,())) a.length (m+a.length,marked m a.length,()) (fun i hi=>?_) ?_
  · simpa [marked] using key
  · have h1:((i:Int)<(a.length:Int)):=by omega
    have h2:(0:Int)≤(i:Int):=by omega
    have hl:(marked m i++a.drop i).length=a.length:=by simp [marked];omega
    simp only [A35,hl,A0 h1,A0 h2,cond_true]
    rw [w64 (by omega) (by omega),w64 (by omega) (by omega),Int.toNat_natCast]
    have:(marked m i++a.drop i).set i (IntKind.u8.wrap (m+(i:Int)))=marked m (i+1)++a.drop (i+1):=by
      rw [List.set_append_right _ _ (by simp [marked])]
      rw [show (marked m i).length=i by simp [marked],Nat.sub_self,List.drop_eq_getElem_cons hi,List.set_cons_zero]
      simp [marked,List.range_succ]
    rw [this]
    simp only [Int.natCast_add,Int.natCast_one,Int.add_assoc]
  · simp [A35,marked]
theorem D5n(n:Nat)(m:Int)(h0:0≤m)(h:m+n<9223372036854775808):I9 (marked m n) m=some (m+n,()):=by
  simp only [I9,B1M]
  have hl:(marked m n).length=n:=by simp [marked]
  have key:=D8 (A3B (marked m n)) (fun i=>(m+(i:Int),(i:Int),())) n (m+n,()) (fun i hi=>?_) ?_
  · simpa [marked] using key
  · have h1:((i:Int)<(n:Int)):=by omega
    have h2:(0:Int)≤(i:Int):=by omega
    simp only [A3B,hl,A0 h1,A0 h2,cond_true]
    have hr:rd (.int .u8) (marked m n) (i:Int)=IntKind.u8.wrap (m+(i:Int)):=by
      rw [C4 (by rw [hl];exact hi)]
      simp [marked]
    rw [hr,w64 (by omega) (by omega),w64 (by omega) (by omega)]
    simp only [decide_true,Bool.not_true,cond_false,Int.natCast_add,Int.natCast_one,Int.add_assoc]
  · simp [A3B,hl]
theorem C0f(a:List Int)(h:Sm maxLen (.sl 0 (.int .u8)) a):B24 (T3 a) (Sm 1048576 (.sl 0 (.int .u8)) a):=by
  intro l h0 h1
  refine ⟨_,E2F a l h1 h0 h.1,?_,fun hr=>⟨?_,fun x _=>trivial⟩⟩
  · split<;>omega
  · split at hr<;>omega
theorem C0g(a:List Int)(h:Sm 1048576 (.sl 0 (.int .u8)) a):T4 a=some (a,()):=E2E a (by have:=h.1;omega)
theorem C0h(a:List Int)(h:Sm maxLen (.sl 0 (.int .u8)) a):T5 a a=some (true,()):=D5l a h.1
theorem C8z(a:List Bool)(h:Sm maxLen (.sl 4 .bool) a):B24 (A1O a) (Sm 1048576 (.sl 4 .bool) a):=by
  have hl:a.length≤9223372036854775807:=h.1
  intro l h0 h1
  simp only [A1O,B5a]
  rw [w64 (by omega) (by omega)]
  by_cases hn:l-(a.length:Int)<0
  · rw [A0 hn];exact ⟨-1,rfl,by omega,fun h=>by omega⟩
  rw [A4 hn];simp only [cond_false]
  exact ⟨_,rfl,by omega,fun _=>⟨by omega,fun x _=>by simp [Sm]⟩⟩
theorem D8K(a:B1)(h:Sm maxLen B2 a):B24 (A0P a) (Sm 1048576 B2 a):=by
  intro l h0 h1
  simp only [A0P,B3O]
  have z1:a.1.size≤9223372036854775807:=(Sm.l h)
  rw [w64 (n:=l-(a.1.size:Int)) (by omega) (by omega)]
  by_cases n1:l-(a.1.size:Int)<0
  · rw [A0 n1];exact ⟨-1,rfl,by omega,fun h=>by omega⟩
  rw [A4 n1];simp only [cond_false]
  obtain ⟨r2,e2,u2,v2⟩:=C0f a.2.1 (Sm.l (Sm.r h)) (l-(a.1.size:Int)) (by omega) (by omega)
  rw [e2];simp only [A3]
  by_cases n2:r2<0
  · rw [A0 n2];exact ⟨-1,rfl,by omega,fun h=>by omega⟩
  rw [A4 n2];simp only [cond_false]
  exact ⟨_,rfl,by omega,fun _=>⟨by show a.1.size≤1048576;omega,⟨v2 (by omega),⟨by simp [Sm],by simp [Sm]⟩⟩⟩⟩
theorem D5o(a:List B1)(h:Sm maxLen (.sl 218 B2) a):B24 (A2I a) (Sm 1048576 (.sl 218 B2) a):=by
  have hl:a.length≤9223372036854775807:=h.1
  intro l h0 h1
  simp only [A2I,B18]
  rw [w64 (by omega) (by omega)]
  by_cases hn:l-(a.length:Int)<0
  · rw [A0 hn];exact ⟨-1,rfl,by omega,fun h=>by omega⟩
  rw [A4 hn];simp only [cond_false]
  obtain ⟨r,e,h2,h3⟩:=C1S A0P (fun x=>Sm 1048576 B2 x) (A33 A0P a) a h.1 (fun x hx=>D8K x (h.2 x hx)) (by
    intro i hi l
    have g1:((i:Int)<(a.length:Int)):=by omega
    have g2:(0:Int)≤(i:Int):=by omega
    simp only [A33,A0 g1,A0 g2,cond_true]
    rw [C4 (k:=B2) (xs:=a) hi]
    ) (fun l=>by simp [A33]) (l-(a.length:Int)) (by omega) (by omega)
  exact ⟨r,e,by omega,fun h=>⟨by omega,h3 h⟩⟩
theorem C1T(a:List ByteArray)(h:Sm maxLen (.sl 9 .str) a):B24 (A2H a) (Sm 1048576 (.sl 9 .str) a):=by
  have hl:a.length≤9223372036854775807:=h.1
  intro l h0 h1
  simp only [A2H,B17]
  rw [w64 (by omega) (by omega)]
  by_cases hn:l-(a.length:Int)<0
  · rw [A0 hn];exact ⟨-1,rfl,by omega,fun h=>by omega⟩
  rw [A4 hn];simp only [cond_false]
  obtain ⟨r,e,h2,h3⟩:=C1S (fun (x:ByteArray) l=>some (IntKind.i64.wrap (l-(x.size:Int)),())) (fun x=>Sm 1048576 .str x) (A32 a) a h.1 (fun x hx l h0 h1=>⟨_,rfl,by have:=h.2 x hx;simp only [Sm,maxLen] at this;rw [w64 (by omega) (by omega)];omega,fun hr=>by have:=h.2 x hx;simp only [Sm,maxLen] at this ⊢;rw [w64 (by omega) (by omega)] at hr;omega⟩) (by
    intro i hi l
    have g1:((i:Int)<(a.length:Int)):=by omega
    have g2:(0:Int)≤(i:Int):=by omega
    simp only [A32,A0 g1,A0 g2,cond_true]
    rw [A3U (xs:=a) hi]
    rfl
    ) (fun l=>by simp [A32]) (l-(a.length:Int)) (by omega) (by omega)
  exact ⟨r,e,by omega,fun h=>⟨by omega,h3 h⟩⟩
theorem E67(a:D6)(h:Sm maxLen A0U a):B24 (A8r a) (Sm 1048576 A0U a):=by
  intro l h0 h1
  simp only [A8r,C0J]
  obtain ⟨r1,e1,u1,v1⟩:=C1T a.1 (Sm.l h) l (by omega) (by omega)
  rw [e1];simp only [A3]
  by_cases n1:r1<0
  · rw [A0 n1];exact ⟨-1,rfl,by omega,fun h=>by omega⟩
  rw [A4 n1];simp only [cond_false]
  obtain ⟨r2,e2,u2,v2⟩:=C1T a.2 (Sm.r h) r1 (by omega) (by omega)
  rw [e2];simp only [A3]
  by_cases n2:r2<0
  · rw [A0 n2];exact ⟨-1,rfl,by omega,fun h=>by omega⟩
  rw [A4 n2];simp only [cond_false]
  exact ⟨_,rfl,by omega,fun _=>⟨v1 (by omega),v2 (by omega)⟩⟩
theorem E2G(a:D5)(h:Sm maxLen E9 a):B24 (A1V a) (Sm 1048576 E9 a):=by
  intro l h0 h1
  simp only [A1V,B5v]
  obtain ⟨r1,e1,u1,v1⟩:=C8z a.2.2 (Sm.r (Sm.r h)) l (by omega) (by omega)
  rw [e1];simp only [A3]
  by_cases n1:r1<0
  · rw [A0 n1];exact ⟨-1,rfl,by omega,fun h=>by omega⟩
  rw [A4 n1];simp only [cond_false]
  exact ⟨_,rfl,by omega,fun _=>⟨by simp [Sm],⟨by simp [Sm],v1 (by omega)⟩⟩⟩
theorem D8L(a:List D5)(h:Sm maxLen (.sl 93 E9) a):B24 (A4c a) (Sm 1048576 (.sl 93 E9) a):=by
  have hl:a.length≤9223372036854775807:=h.1
  intro l h0 h1
  simp only [A4c,B3f]
  rw [w64 (by omega) (by omega)]
  by_cases hn:l-(a.length:Int)<0
  · rw [A0 hn];exact ⟨-1,rfl,by omega,fun h=>by omega⟩
  rw [A4 hn];simp only [cond_false]
  obtain ⟨r,e,h2,h3⟩:=C1S A1V (fun x=>Sm 1048576 E9 x) (A4b A1V a) a h.1 (fun x hx=>E2G x (h.2 x hx)) (by
    intro i hi l
    have g1:((i:Int)<(a.length:Int)):=by omega
    have g2:(0:Int)≤(i:Int):=by omega
    simp only [A4b,A0 g1,A0 g2,cond_true]
    rw [C4 (k:=E9) (xs:=a) hi]
    ) (fun l=>by simp [A4b]) (l-(a.length:Int)) (by omega) (by omega)
  exact ⟨r,e,by omega,fun h=>⟨by omega,h3 h⟩⟩
theorem C90(a:List B7)(h:Sm maxLen (.sl 203 A9) a):B24 (A1N a) (Sm 1048576 (.sl 203 A9) a):=by
  have hl:a.length≤9223372036854775807:=h.1
  intro l h0 h1
  simp only [A1N,B5Z]
  rw [w64 (by omega) (by omega)]
  by_cases hn:l-(a.length:Int)<0
  · rw [A0 hn];exact ⟨-1,rfl,by omega,fun h=>by omega⟩
  rw [A4 hn];simp only [cond_false]
  exact ⟨_,rfl,by omega,fun _=>⟨by omega,fun x _=>by simp [Sm]⟩⟩
theorem E68(a:List Int)(h:Sm maxLen (.sl 3 (.int .i64)) a):B24 (A8u a) (Sm 1048576 (.sl 3 (.int .i64)) a):=by
  have hl:a.length≤9223372036854775807:=h.1
  intro l h0 h1
  simp only [A8u,C0L]
  rw [w64 (by omega) (by omega)]
  by_cases hn:l-(a.length:Int)<0
  · rw [A0 hn];exact ⟨-1,rfl,by omega,fun h=>by omega⟩
  rw [A4 hn];simp only [cond_false]
  exact ⟨_,rfl,by omega,fun _=>⟨by omega,fun x _=>by simp [Sm]⟩⟩
theorem E8c(a:V6)(h:Sm maxLen L5 a):B24 (B1v a) (Sm 1048576 L5 a):=by
  intro l h0 h1
  simp only [B1v,C3f]
  have z1:a.2.1.size≤9223372036854775807:=(Sm.l (Sm.r h))
  rw [w64 (n:=l-(a.2.1.size:Int)) (by omega) (by omega)]
  by_cases n1:l-(a.2.1.size:Int)<0
  · rw [A0 n1];exact ⟨-1,rfl,by omega,fun h=>by omega⟩
  rw [A4 n1];simp only [cond_false]
  exact ⟨_,rfl,by omega,fun _=>⟨by simp [Sm],⟨by show a.2.1.size≤1048576;omega,by simp [Sm]⟩⟩⟩
theorem F0D(a:TUp)(h:Sm maxLen kUp a):B24 (A8s a) (Sm 1048576 kUp a):=by
  intro l h0 h1
  simp only [A8s,C8u]
  have z1:a.1.size≤9223372036854775807:=(Sm.l h)
  rw [w64 (n:=l-(a.1.size:Int)) (by omega) (by omega)]
  by_cases n1:l-(a.1.size:Int)<0
  · rw [A0 n1];exact ⟨-1,rfl,by omega,fun h=>by omega⟩
  rw [A4 n1];simp only [cond_false]
  obtain ⟨r2,e2,u2,v2⟩:=C0f a.2.2.1 (Sm.l (Sm.r (Sm.r h))) (l-(a.1.size:Int)) (by omega) (by omega)
  rw [e2];simp only [A3]
  by_cases n2:r2<0
  · rw [A0 n2];exact ⟨-1,rfl,by omega,fun h=>by omega⟩
  rw [A4 n2];simp only [cond_false]
  exact ⟨_,rfl,by omega,fun _=>⟨by show a.1.size≤1048576;omega,⟨by simp [Sm],⟨v2 (by omega),by simp [Sm]⟩⟩⟩⟩
theorem E8d(a:List TUp)(h:Sm maxLen (.sl 248 kUp) a):B24 (B1u a) (Sm 1048576 (.sl 248 kUp) a):=by
  have hl:a.length≤9223372036854775807:=h.1
  intro l h0 h1
  simp only [B1u,C3e]
  rw [w64 (by omega) (by omega)]
  by_cases hn:l-(a.length:Int)<0
  · rw [A0 hn];exact ⟨-1,rfl,by omega,fun h=>by omega⟩
  rw [A4 hn];simp only [cond_false]
  obtain ⟨r,e,h2,h3⟩:=C1S A8s (fun x=>Sm 1048576 kUp x) (A9w A8s a) a h.1 (fun x hx=>F0D x (h.2 x hx)) (by
    intro i hi l
    have g1:((i:Int)<(a.length:Int)):=by omega
    have g2:(0:Int)≤(i:Int):=by omega
    simp only [A9w,A0 g1,A0 g2,cond_true]
    rw [C4 (k:=kUp) (xs:=a) hi]
    ) (fun l=>by simp [A9w]) (l-(a.length:Int)) (by omega) (by omega)
  exact ⟨r,e,by omega,fun h=>⟨by omega,h3 h⟩⟩
theorem E2H(a:A8)(h:Sm maxLen B7f a):B24 (A6m a) (Sm 1048576 B7f a):=by
  intro l h0 h1
  simp only [A6m,B5Y]
  obtain ⟨r1,e1,u1,v1⟩:=E67 a.1 (Sm.l h) l (by omega) (by omega)
  rw [e1];simp only [A3]
  by_cases n1:r1<0
  · rw [A0 n1];exact ⟨-1,rfl,by omega,fun h=>by omega⟩
  rw [A4 n1];simp only [cond_false]
  obtain ⟨r2,e2,u2,v2⟩:=E8d a.2.2.2 (Sm.r (Sm.r (Sm.r h))) r1 (by omega) (by omega)
  rw [e2];simp only [A3]
  by_cases n2:r2<0
  · rw [A0 n2];exact ⟨-1,rfl,by omega,fun h=>by omega⟩
  rw [A4 n2];simp only [cond_false]
  exact ⟨_,rfl,by omega,fun _=>⟨v1 (by omega),⟨by simp [Sm],⟨by simp [Sm],v2 (by omega)⟩⟩⟩⟩
theorem D8M(a:C0)(h:Sm maxLen B1s a):B24 (A4N a) (Sm 1048576 B1s a):=by
  intro l h0 h1
  simp only [A4N,B3N]
  obtain ⟨r1,e1,u1,v1⟩:=E2H a.1 (Sm.l h) l (by omega) (by omega)
  rw [e1];simp only [A3]
  by_cases n1:r1<0
  · rw [A0 n1];exact ⟨-1,rfl,by omega,fun h=>by omega⟩
  rw [A4 n1];simp only [cond_false]
  obtain ⟨r2,e2,u2,v2⟩:=C90 a.2 (Sm.r h) r1 (by omega) (by omega)
  rw [e2];simp only [A3]
  by_cases n2:r2<0
  · rw [A0 n2];exact ⟨-1,rfl,by omega,fun h=>by omega⟩
  rw [A4 n2];simp only [cond_false]
  exact ⟨_,rfl,by omega,fun _=>⟨v1 (by omega),v2 (by omega)⟩⟩
theorem E69(a:D7)(h:Sm maxLen B9 a):B24 (A3Q a) (Sm 1048576 B9 a):=by
  intro l h0 h1
  simp only [A3Q,C0K]
  obtain ⟨r1,e1,u1,v1⟩:=E8c a.2.1 (Sm.l (Sm.r h)) l (by omega) (by omega)
  rw [e1];simp only [A3]
  by_cases n1:r1<0
  · rw [A0 n1];exact ⟨-1,rfl,by omega,fun h=>by omega⟩
  rw [A4 n1];simp only [cond_false]
  obtain ⟨r2,e2,u2,v2⟩:=C0f a.2.2 (Sm.r (Sm.r h)) r1 (by omega) (by omega)
  rw [e2];simp only [A3]
  by_cases n2:r2<0
  · rw [A0 n2];exact ⟨-1,rfl,by omega,fun h=>by omega⟩
  rw [A4 n2];simp only [cond_false]
  exact ⟨_,rfl,by omega,fun _=>⟨by simp [Sm],⟨v1 (by omega),v2 (by omega)⟩⟩⟩
theorem E2I(a:List D7)(h:Sm maxLen (.sl 221 B9) a):B24 (A6n a) (Sm 1048576 (.sl 221 B9) a):=by
  have hl:a.length≤9223372036854775807:=h.1
  intro l h0 h1
  simp only [A6n,B5b]
  rw [w64 (by omega) (by omega)]
  by_cases hn:l-(a.length:Int)<0
  · rw [A0 hn];exact ⟨-1,rfl,by omega,fun h=>by omega⟩
  rw [A4 hn];simp only [cond_false]
  obtain ⟨r,e,h2,h3⟩:=C1S A3Q (fun x=>Sm 1048576 B9 x) (A6A A3Q a) a h.1 (fun x hx=>E69 x (h.2 x hx)) (by
    intro i hi l
    have g1:((i:Int)<(a.length:Int)):=by omega
    have g2:(0:Int)≤(i:Int):=by omega
    simp only [A6A,A0 g1,A0 g2,cond_true]
    rw [C4 (k:=B9) (xs:=a) hi]
    ) (fun l=>by simp [A6A]) (l-(a.length:Int)) (by omega) (by omega)
  exact ⟨r,e,by omega,fun h=>⟨by omega,h3 h⟩⟩
theorem E2J(a:A6)(h:Sm maxLen Z0 a):B24 (A6o a) (Sm 1048576 Z0 a):=by
  intro l h0 h1
  simp only [A6o,B5c]
  obtain ⟨r1,e1,u1,v1⟩:=D8M a.1 (Sm.l h) l (by omega) (by omega)
  rw [e1];simp only [A3]
  by_cases n1:r1<0
  · rw [A0 n1];exact ⟨-1,rfl,by omega,fun h=>by omega⟩
  rw [A4 n1];simp only [cond_false]
  obtain ⟨r2,e2,u2,v2⟩:=D5o a.2.1 (Sm.l (Sm.r h)) r1 (by omega) (by omega)
  rw [e2];simp only [A3]
  by_cases n2:r2<0
  · rw [A0 n2];exact ⟨-1,rfl,by omega,fun h=>by omega⟩
  rw [A4 n2];simp only [cond_false]
  obtain ⟨r3,e3,u3,v3⟩:=C8z a.2.2.1 (Sm.l (Sm.r (Sm.r h))) r2 (by omega) (by omega)
  rw [e3];simp only [A3]
  by_cases n3:r3<0
  · rw [A0 n3];exact ⟨-1,rfl,by omega,fun h=>by omega⟩
  rw [A4 n3];simp only [cond_false]
  obtain ⟨r4,e4,u4,v4⟩:=E2I a.2.2.2.1 (Sm.l (Sm.r (Sm.r (Sm.r h)))) r3 (by omega) (by omega)
  rw [e4];simp only [A3]
  by_cases n4:r4<0
  · rw [A0 n4];exact ⟨-1,rfl,by omega,fun h=>by omega⟩
  rw [A4 n4];simp only [cond_false]
  obtain ⟨r5,e5,u5,v5⟩:=C90 a.2.2.2.2.1 (Sm.l (Sm.r (Sm.r (Sm.r (Sm.r h))))) r4 (by omega) (by omega)
  rw [e5];simp only [A3]
  by_cases n5:r5<0
  · rw [A0 n5];exact ⟨-1,rfl,by omega,fun h=>by omega⟩
  rw [A4 n5];simp only [cond_false]
  obtain ⟨r6,e6,u6,v6⟩:=E68 a.2.2.2.2.2 (Sm.r (Sm.r (Sm.r (Sm.r (Sm.r h))))) r5 (by omega) (by omega)
  rw [e6];simp only [A3]
  by_cases n6:r6<0
  · rw [A0 n6];exact ⟨-1,rfl,by omega,fun h=>by omega⟩
  rw [A4 n6];simp only [cond_false]
  exact ⟨_,rfl,by omega,fun _=>⟨v1 (by omega),⟨v2 (by omega),⟨v3 (by omega),⟨v4 (by omega),⟨v5 (by omega),v6 (by omega)⟩⟩⟩⟩⟩⟩
theorem C91(a:List Bool)(h:Sm 1048576 (.sl 4 .bool) a):A1Q a=some (a,()):=by
  have hl:a.length≤1048576:=h.1
  simp only [A1Q,B5j]
  rw [A0 (show (0:Int)≤(a.length:Int) by omega),Int.toNat_natCast,A0 (by omega),A0 (by omega)]
  simp only [cond_true]
  refine B0Q _ a _ (by simp only [maxLen];omega) (fun i hi b hb=>?_) (fun b=>by simp [B1C])
  have h1:((i:Int)<(a.length:Int)):=by omega
  have h2:(0:Int)≤(i:Int):=by omega
  simp only [B1C,hb,A0 h1,A0 h2,cond_true]
  rw [E54 (xs:=a) hi]
  rfl
theorem D8N(a:B1)(h:Sm 1048576 B2 a):A4R a=some (a,()):=by
  simp only [A4R,B3T,A3,C0g a.2.1 (Sm.l (Sm.r h))]
theorem D5p(a:List B1)(h:Sm 1048576 (.sl 218 B2) a):A2K a=some (a,()):=by
  have hl:a.length≤1048576:=h.1
  simp only [A2K,B1B]
  rw [A0 (show (0:Int)≤(a.length:Int) by omega),Int.toNat_natCast,A0 (by omega),A0 (by omega)]
  simp only [cond_true]
  refine B0Q _ a _ (by simp only [maxLen];omega) (fun i hi b hb=>?_) (fun b=>by simp [A7T])
  have h1:((i:Int)<(a.length:Int)):=by omega
  have h2:(0:Int)≤(i:Int):=by omega
  simp only [A7T,hb,A0 h1,A0 h2,cond_true]
  rw [C4 (k:=B2) (xs:=a) hi]
  rw [D8N _ (h.2 _ (List.getElem_mem hi))]
  rfl
theorem C1U(a:List ByteArray)(h:Sm 1048576 (.sl 9 .str) a):A2J a=some (a,()):=by
  have hl:a.length≤1048576:=h.1
  simp only [A2J,B19]
  rw [A0 (show (0:Int)≤(a.length:Int) by omega),Int.toNat_natCast,A0 (by omega),A0 (by omega)]
  simp only [cond_true]
  refine B0Q _ a _ (by simp only [maxLen];omega) (fun i hi b hb=>?_) (fun b=>by simp [A7S])
  have h1:((i:Int)<(a.length:Int)):=by omega
  have h2:(0:Int)≤(i:Int):=by omega
  simp only [A7S,hb,A0 h1,A0 h2,cond_true]
  rw [A3U (xs:=a) hi]
  rfl
theorem E6A(a:D6)(h:Sm 1048576 A0U a):A8v a=some (a,()):=by
  simp only [A8v,C0M,A3,C1U a.1 (Sm.l h),C1U a.2 (Sm.r h)]
theorem E2K(a:D5)(h:Sm 1048576 E9 a):A74 a=some (a,()):=by
  simp only [A74,B68,A3,C91 a.2.2 (Sm.r (Sm.r h))]
theorem D8O(a:List D5)(h:Sm 1048576 (.sl 93 E9) a):A4r a=some (a,()):=by
  have hl:a.length≤1048576:=h.1
  simp only [A4r,B3s]
  rw [A0 (show (0:Int)≤(a.length:Int) by omega),Int.toNat_natCast,A0 (by omega),A0 (by omega)]
  simp only [cond_true]
  refine B0Q _ a _ (by simp only [maxLen];omega) (fun i hi b hb=>?_) (fun b=>by simp [A9K])
  have h1:((i:Int)<(a.length:Int)):=by omega
  have h2:(0:Int)≤(i:Int):=by omega
  simp only [A9K,hb,A0 h1,A0 h2,cond_true]
  rw [C4 (k:=E9) (xs:=a) hi]
  rw [E2K _ (h.2 _ (List.getElem_mem hi))]
  rfl
theorem E6B(a:N8)(h:Sm 1048576 F0 a):A8w a=some (a,()):=by
  simp only [A8w,C0N,A3]
theorem E6C(a:B7)(h:Sm 1048576 A9 a):A8y a=some (a,()):=by
  simp only [A8y,C0O,A3,E6B a.2 (Sm.r h)]
theorem C92(a:List B7)(h:Sm 1048576 (.sl 203 A9) a):A1P a=some (a,()):=by
  have hl:a.length≤1048576:=h.1
  simp only [A1P,B5i]
  rw [A0 (show (0:Int)≤(a.length:Int) by omega),Int.toNat_natCast,A0 (by omega),A0 (by omega)]
  simp only [cond_true]
  refine B0Q _ a _ (by simp only [maxLen];omega) (fun i hi b hb=>?_) (fun b=>by simp [B1A])
  have h1:((i:Int)<(a.length:Int)):=by omega
  have h2:(0:Int)≤(i:Int):=by omega
  simp only [B1A,hb,A0 h1,A0 h2,cond_true]
  rw [C4 (k:=A9) (xs:=a) hi]
  rw [E6C _ (h.2 _ (List.getElem_mem hi))]
  rfl
theorem E6D(a:List Int)(h:Sm 1048576 (.sl 3 (.int .i64)) a):A91 a=some (a,()):=by
  have hl:a.length≤1048576:=h.1
  simp only [A91,C0Q]
  rw [A0 (show (0:Int)≤(a.length:Int) by omega),Int.toNat_natCast,A0 (by omega),A0 (by omega)]
  simp only [cond_true]
  refine B0Q _ a _ (by simp only [maxLen];omega) (fun i hi b hb=>?_) (fun b=>by simp [B3U])
  have h1:((i:Int)<(a.length:Int)):=by omega
  have h2:(0:Int)≤(i:Int):=by omega
  simp only [B3U,hb,A0 h1,A0 h2,cond_true]
  rw [C3o (xs:=a) hi]
  rfl
theorem E8e(a:V6)(h:Sm 1048576 L5 a):B1x a=some (a,()):=by
  simp only [B1x,C3h,A3]
theorem F0E(a:TUp)(h:Sm 1048576 kUp a):B5f a=some (a,()):=by
  simp only [B5f,C8v,A3,C0g a.2.2.1 (Sm.l (Sm.r (Sm.r h)))]
theorem E8f(a:List TUp)(h:Sm 1048576 (.sl 248 kUp) a):B1w a=some (a,()):=by
  have hl:a.length≤1048576:=h.1
  simp only [B1w,C3g]
  rw [A0 (show (0:Int)≤(a.length:Int) by omega),Int.toNat_natCast,A0 (by omega),A0 (by omega)]
  simp only [cond_true]
  refine B0Q _ a _ (by simp only [maxLen];omega) (fun i hi b hb=>?_) (fun b=>by simp [B5g])
  have h1:((i:Int)<(a.length:Int)):=by omega
  have h2:(0:Int)≤(i:Int):=by omega
  simp only [B5g,hb,A0 h1,A0 h2,cond_true]
  rw [C4 (k:=kUp) (xs:=a) hi]
  rw [F0E _ (h.2 _ (List.getElem_mem hi))]
  rfl
theorem E2L(a:A8)(h:Sm 1048576 B7f a):A6p a=some (a,()):=by
  simp only [A6p,B5h,A3,E6A a.1 (Sm.l h),E8f a.2.2.2 (Sm.r (Sm.r (Sm.r h)))]
theorem D8P(a:C0)(h:Sm 1048576 B1s a):A4P a=some (a,()):=by
  simp only [A4P,B3S,A3,E2L a.1 (Sm.l h),C92 a.2 (Sm.r h)]
theorem E6E(a:D7)(h:Sm 1048576 B9 a):A90 a=some (a,()):=by
  simp only [A90,C0P,A3,E8e a.2.1 (Sm.l (Sm.r h)),C0g a.2.2 (Sm.r (Sm.r h))]
theorem E2M(a:List D7)(h:Sm 1048576 (.sl 221 B9) a):A6q a=some (a,()):=by
  have hl:a.length≤1048576:=h.1
  simp only [A6q,B5k]
  rw [A0 (show (0:Int)≤(a.length:Int) by omega),Int.toNat_natCast,A0 (by omega),A0 (by omega)]
  simp only [cond_true]
  refine B0Q _ a _ (by simp only [maxLen];omega) (fun i hi b hb=>?_) (fun b=>by simp [B1D])
  have h1:((i:Int)<(a.length:Int)):=by omega
  have h2:(0:Int)≤(i:Int):=by omega
  simp only [B1D,hb,A0 h1,A0 h2,cond_true]
  rw [C4 (k:=B9) (xs:=a) hi]
  rw [E6E _ (h.2 _ (List.getElem_mem hi))]
  rfl
theorem E2N(a:A6)(h:Sm 1048576 Z0 a):A6r a=some (a,()):=by
  simp only [A6r,B5l,A3,D8P a.1 (Sm.l h),D5p a.2.1 (Sm.l (Sm.r h)),C91 a.2.2.1 (Sm.l (Sm.r (Sm.r h))),E2M a.2.2.2.1 (Sm.l (Sm.r (Sm.r (Sm.r h)))),C92 a.2.2.2.2.1 (Sm.l (Sm.r (Sm.r (Sm.r (Sm.r h))))),E6D a.2.2.2.2.2 (Sm.r (Sm.r (Sm.r (Sm.r (Sm.r h)))))]
theorem C1V(a:List Bool)(h:Sm maxLen (.sl 4 .bool) a):A1S a a=some (true,()):=by
  simp only [A1S,B5s,decide_true,Bool.not_true,cond_false]
  refine B0P _ a.length h.1 (fun i hi=>?_) (by simp [B1H])
  have h1:((i:Int)<(a.length:Int)):=by omega
  have h2:(0:Int)≤(i:Int):=by omega
  simp only [B1H,A0 h1,A0 h2,cond_true]
  simp
theorem D8Q(a:B1)(h:Sm maxLen B2 a):A4U a a=some (true,()):=by
  simp [A4U,B3Z,A3,C0h a.2.1 (Sm.l (Sm.r h))]
theorem C93(a:List B1)(h:Sm maxLen (.sl 79 B2) a):A2M a a=some (true,()):=by
  simp only [A2M,B1G,decide_true,Bool.not_true,cond_false]
  refine B0P _ a.length h.1 (fun i hi=>?_) (by simp [A7V])
  have h1:((i:Int)<(a.length:Int)):=by omega
  have h2:(0:Int)≤(i:Int):=by omega
  simp only [A7V,A0 h1,A0 h2,cond_true]
  rw [C4 (k:=B2) (xs:=a) hi,D8Q _ (h.2 _ (List.getElem_mem hi))]
  rfl
theorem B6C(a:List ByteArray)(h:Sm maxLen (.sl 9 .str) a):A2L a a=some (true,()):=by
  simp only [A2L,B1E,decide_true,Bool.not_true,cond_false]
  refine B0P _ a.length h.1 (fun i hi=>?_) (by simp [A7U])
  have h1:((i:Int)<(a.length:Int)):=by omega
  have h2:(0:Int)≤(i:Int):=by omega
  simp only [A7U,A0 h1,A0 h2,cond_true]
  simp
theorem D8R(a:D6)(h:Sm maxLen A0U a):A92 a a=some (true,()):=by
  simp [A92,C0R,A3,B6C a.1 (Sm.l h),B6C a.2 (Sm.r h)]
theorem D5q(a:D5)(h:Sm maxLen E9 a):A76 a a=some (true,()):=by
  simp [A76,B69,A3,C1V a.2.2 (Sm.r (Sm.r h))]
theorem D2J(a:List D5)(h:Sm maxLen (.sl 77 E9) a):A4s a a=some (true,()):=by
  simp only [A4s,B3t,decide_true,Bool.not_true,cond_false]
  refine B0P _ a.length h.1 (fun i hi=>?_) (by simp [A9L])
  have h1:((i:Int)<(a.length:Int)):=by omega
  have h2:(0:Int)≤(i:Int):=by omega
  simp only [A9L,A0 h1,A0 h2,cond_true]
  rw [C4 (k:=E9) (xs:=a) hi,D5q _ (h.2 _ (List.getElem_mem hi))]
  rfl
theorem D8S(a:N8)(h:Sm maxLen F0 a):A93 a a=some (true,()):=by
  simp [A93,C0S,A3]
theorem D8T(a:B7)(h:Sm maxLen A9 a):A95 a a=some (true,()):=by
  simp [A95,C0T,A3,D8S a.2 (Sm.r h)]
theorem C1W(a:List B7)(h:Sm maxLen (.sl 130 A9) a):A1R a a=some (true,()):=by
  simp only [A1R,B5r,decide_true,Bool.not_true,cond_false]
  refine B0P _ a.length h.1 (fun i hi=>?_) (by simp [B1F])
  have h1:((i:Int)<(a.length:Int)):=by omega
  have h2:(0:Int)≤(i:Int):=by omega
  simp only [B1F,A0 h1,A0 h2,cond_true]
  rw [C4 (k:=A9) (xs:=a) hi,D8T _ (h.2 _ (List.getElem_mem hi))]
  rfl
theorem D8U(a:List Int)(h:Sm maxLen (.sl 3 (.int .i64)) a):A98 a a=some (true,()):=by
  simp only [A98,C0V,decide_true,Bool.not_true,cond_false]
  refine B0P _ a.length h.1 (fun i hi=>?_) (by simp [B3a])
  have h1:((i:Int)<(a.length:Int)):=by omega
  have h2:(0:Int)≤(i:Int):=by omega
  simp only [B3a,A0 h1,A0 h2,cond_true]
  simp
theorem E8g(a:V6)(h:Sm maxLen L5 a):B1z a a=some (true,()):=by
  simp [B1z,C3j,A3]
theorem E6F(a:TUp)(h:Sm maxLen kUp a):B5o a a=some (true,()):=by
  simp [B5o,C8w,A3,C0h a.2.2.1 (Sm.l (Sm.r (Sm.r h)))]
theorem E2O(a:List TUp)(h:Sm maxLen (.sl 109 kUp) a):B1y a a=some (true,()):=by
  simp only [B1y,C3i,decide_true,Bool.not_true,cond_false]
  refine B0P _ a.length h.1 (fun i hi=>?_) (by simp [B5p])
  have h1:((i:Int)<(a.length:Int)):=by omega
  have h2:(0:Int)≤(i:Int):=by omega
  simp only [B5p,A0 h1,A0 h2,cond_true]
  rw [C4 (k:=kUp) (xs:=a) hi,E6F _ (h.2 _ (List.getElem_mem hi))]
  rfl
theorem D5r(a:A8)(h:Sm maxLen A47 a):A6s a a=some (true,()):=by
  simp [A6s,B5q,A3,D8R a.1 (Sm.l h),E2O a.2.2.2 (Sm.r (Sm.r (Sm.r h)))]
theorem D2K(a:C0)(h:Sm maxLen A1r a):A4S a a=some (true,()):=by
  simp [A4S,B3Y,A3,D5r a.1 (Sm.l h),C1W a.2 (Sm.r h)]
theorem D8V(a:D7)(h:Sm maxLen B9 a):A97 a a=some (true,()):=by
  simp [A97,C0U,A3,E8g a.2.1 (Sm.l (Sm.r h)),C0h a.2.2 (Sm.r (Sm.r h))]
theorem D5s(a:List D7)(h:Sm maxLen (.sl 113 B9) a):A6t a a=some (true,()):=by
  simp only [A6t,B5t,decide_true,Bool.not_true,cond_false]
  refine B0P _ a.length h.1 (fun i hi=>?_) (by simp [B1I])
  have h1:((i:Int)<(a.length:Int)):=by omega
  have h2:(0:Int)≤(i:Int):=by omega
  simp only [B1I,A0 h1,A0 h2,cond_true]
  rw [C4 (k:=B9) (xs:=a) hi,D8V _ (h.2 _ (List.getElem_mem hi))]
  rfl
theorem C1X(a:A6)(h:Sm maxLen A29 a):A6u a a=some (true,()):=by
  simp [A6u,B5u,A3,D2K a.1 (Sm.l h),C93 a.2.1 (Sm.l (Sm.r h)),C1V a.2.2.1 (Sm.l (Sm.r (Sm.r h))),D5s a.2.2.2.1 (Sm.l (Sm.r (Sm.r (Sm.r h)))),C1W a.2.2.2.2.1 (Sm.l (Sm.r (Sm.r (Sm.r (Sm.r h))))),D8U a.2.2.2.2.2 (Sm.r (Sm.r (Sm.r (Sm.r (Sm.r h)))))]
theorem Q6(a b c:Int):E4 a b c=some (decide (b≤a∧a≤c),()):=by
  simp only [E4,C8x]
  by_cases h:b≤a<;>by_cases h2:a≤c<;>simp [h,h2]
theorem L2(a b c:Int):C8 a b c=some (decide (b≤a∧a≤c),()):=Q6 a b c
def D5t(s:ByteArray)(i:Nat):Bool:=decide (97≤bt s i∧bt s i≤122)||decide (48≤bt s i∧bt s i≤57)
def idB(s:ByteArray):Bool:=(List.range s.size).all (D5t s)&&decide (1≤(s.size:Int)∧(s.size:Int)≤8)
theorem E2P(s:ByteArray)(h:s.size≤maxLen)(i:Nat)(hi:i<s.size):B0A E4 s ((i:Int),())=if D5t s i then some (.inl (((i+1:Nat):Int),())) else some (.inr (.inr (false,()))):=by
  have h1:((i:Int)<(s.size:Int)):=by omega
  have h2:(0:Int)≤(i:Int):=by omega
  simp only [B0A,A0 h1,A0 h2,cond_true,F1O,Q6,A3]
  rw [w64 (by omega) (by simp only [maxLen] at h;omega)]
  unfold D5t
  cases decide (97≤bt s i∧bt s i≤122)<;>cases decide (48≤bt s i∧bt s i≤57)<;>simp
theorem E6G(s:ByteArray)(h:s.size≤maxLen)(i:Nat)(hi:i<s.size):B37 s ((i:Int),())=if D5t s i then some (.inl (((i+1:Nat):Int),())) else some (.inr (.inr (false,()))):=by
  have h1:((i:Int)<(s.size:Int)):=by omega
  have h2:(0:Int)≤(i:Int):=by omega
  simp only [B37,A0 h1,A0 h2,cond_true]
  rw [w64 (by omega) (by simp only [maxLen] at h;omega)]
  unfold D5t
  by_cases a:bt s i≥97<;>by_cases b:bt s i≤122<;>by_cases c:bt s i≥48<;>by_cases d:bt s i≤57<;>simp [a,b,c,d]
theorem F0s{s:ByteArray}{f:Int×Unit→Option ((Int×Unit)⊕(Unit⊕(Bool×Unit)))}(hs:∀ i:Nat,i<s.size→f ((i:Int),())=if D5t s i then some (.inl (((i+1:Nat):Int),())) else some (.inr (.inr (false,()))))
    (he:f ((s.size:Int),())=some (.inr (.inl ()))) (g:Unit→Option (Bool×Unit)) (hg:g ()=some (decide (1≤(s.size:Int)∧(s.size:Int)≤8),())):C2 (B6 f (0,())) g=some (idB s,()):=by
  obtain ⟨i,h1,h2,h3,h4⟩:=E2C f (fun i=>((i:Int),())) s.size (fun i=>if i<s.size then .inr (false,()) else .inl ()) (D5t s) (fun i hi=>by
    simp only [if_pos hi];exact hs i hi) (by simp only [Nat.lt_irrefl,if_false];exact he)
  have h4':B6 f (0,())=some (if i<s.size then .inr (false,()) else .inl ()):=h4
  rw [h4']
  unfold idB
  by_cases hi:i<s.size
  · rw [if_pos hi]
    have:(List.range s.size).all (D5t s)=false:=by
      rw [List.all_eq_false]
      exact ⟨i,List.mem_range.2 hi,by simp [h3 hi]⟩
    simp [C2,this]
  · rw [if_neg hi]
    have:(List.range s.size).all (D5t s)=true:=by
      rw [List.all_eq_true]
      intro j hj
      exact h2 j (by have:=List.mem_range.1 hj;omega)
    simp only [C2,this,hg,Bool.true_and]
theorem A9N(s:ByteArray)(h:s.size≤maxLen):N1 s=some (idB s,()):=by
  simp only [N1,C3k]
  exact F0s (E2P s h) (by simp [B0A]) _ (by simp only [Q6,A3])
theorem B3v(s:ByteArray)(h:s.size≤maxLen):Q9 s=some (idB s,()):=by
  simp only [Q9,C8r]
  exact F0s (E6G s h) (by simp [B37]) _ (by simp only [L2,A3])
def J1(c:P0):Bool:=idB c.1&&decide ((c.2.1.length:Int)≤400)&&decide (1≤c.2.2.1∧c.2.2.1≤6)&&decide (0≤c.2.2.2∧c.2.2.2≤(c.2.1.length:Int))
theorem A6Y(c:P0)(h:c.1.size≤maxLen):H6 c=some (J1 c,()):=by
  simp only [H6,B3k,A9N _ h,Q6,A3,J1]
  cases idB c.1<;>cases decide ((c.2.1.length:Int)≤400)<;>cases decide (1≤c.2.2.1∧c.2.2.1≤6)<;>simp
theorem A6Z(c:P0)(h:c.1.size≤maxLen):L0 c=some (J1 c,()):=by
  simp only [L0,B3D,B3v _ h,L2,A3,J1]
  cases idB c.1<;>cases decide ((c.2.1.length:Int)≤400)<;>cases decide (1≤c.2.2.1∧c.2.2.1≤6)<;>simp
theorem B6D{R:Type}(a:Option R):eqO a a=a:=by
  unfold eqO
  rw [if_pos rfl]
theorem A2W(a:List Int)(h:a.length≤140737488355328):C7 a=some (a,()):=by
  simp only [C7,Y1]
  have e:(bif decide (([]:List Int).length+a.length≤9223372036854775807) then bif decide ((([]:List Int).length+a.length)*1≤140737488355328) then some (([]++a),()) else none else none)=some (a,()):=by
    rw [A0 (by simp;omega),A0 (by simp;omega)]
    simp
  rw [e]
  cases a with
  | nil=>simp [B6D]
  | cons x xs=>simp
def A7h(c:P0):Bool:=decide (c.2.2.1=5)||decide (c.2.2.1=6)
theorem C94(c:P0):A1a c=some (A7h c,()):=by
  simp only [A1a,B64,A7h]
  cases decide (c.2.2.1=5)<;>simp
theorem C3q(c:P0):J5 c=some (A7h c,c,()):=by
  simp only [J5,A4D,A7h]
  cases decide (c.2.2.1=5)<;>simp
theorem C95(c:P0)(h2:c.2.1.length≤140737488355328):X3 c=some (c,()):=by
  simp only [X3,B5z]
  rw [A0 (by simp;omega),A0 (by simp;omega)]
  simp
theorem B1T(c:P0)(h2:c.2.1.length≤140737488355328):K5 c=some (c,()):=by
  simp only [K5,A8k,A2W _ h2,A3]
def C96(n:Int)(k j:Nat):Int:=IntKind.u8.wrap (n.fdiv (2 ^ (8*(k-1-j))))
def big(n:Int)(k:Nat):List Int:=(List.range k).map (C96 n k)
theorem J6(n:Int)(k:Nat):(big n k).length=k:=by simp [big]
theorem F2b{n:Int}(h0:0≤n)(h1:n<18446744073709551616):IntKind.u64.wrap n=n:=by
  simp only [IntKind.wrap,IntKind.bits,IntKind.signed]
  simp
  omega
theorem E55(v:Int)(b:List Int)(k:Nat)(hk:k≤8)(hb:b.length+8≤140737488355328):B6 (A0R (v,())) ((k:Int)-1,b,())=some (b++big v k,()):=by
  have key:=D8 (A0R (v,())) (fun j=>((k:Int)-1-(j:Int),b++(List.range j).map (C96 v k),())) k (b++big v k,()) (fun j hj=>?_) ?_
  · simpa using key
  · have h1:(k:Int)-1-(j:Int)≥0:=by omega
    have e1:(k:Int)-1-(j:Int)=((k-1-j:Nat):Int):=by omega
    have hs:IntKind.u64.wrap (IntKind.i64.wrap (8*((k:Int)-1-(j:Int))))=((8*(k-1-j):Nat):Int):=by
      rw [w64 (by omega) (by omega),F2b (by omega) (by omega)]
      omega
    have hm:min (8*(k-1-j)) IntKind.i64.bits=8*(k-1-j):=Nat.min_eq_left (by simp only [IntKind.bits];omega)
    simp only [A0R,A0 h1,cond_true,hs,Int.toNat_natCast,hm]
    rw [A4 (by omega)]
    simp only [cond_false]
    have hl:(b++(List.range j).map (C96 v k)).length=b.length+j:=by simp
    rw [A0 (by rw [hl];simp;omega),A0 (by rw [hl];simp;omega)]
    simp only [cond_true]
    rw [w64 (by omega) (by omega),List.range_succ,List.map_append,List.append_assoc]
    have e2:(k:Int)-1-(j:Int)-1=(k:Int)-1-((j+1:Nat):Int):=by omega
    rw [e2]
    rfl
  · have h1:¬ ((k:Int)-1-(k:Int)≥0):=by omega
    simp only [A0R,A4 h1,cond_false]
    rfl
def A02(n:Int):Int:=if n<0 then 0 else n
theorem A1g(b:List Int)(n:Int)(k:Nat)(h1:1≤k)(hk:k≤8)(hb:b.length+8≤140737488355328):A9C b n (k:Int)=some (b++big (A02 n) k,()):=by
  simp only [A9C,C0Y]
  rw [A0 (by simp;omega),A0 (by simp;omega)]
  have e:(bif decide (n<0) then some ((0:Int),()) else some (n,()))=some (A02 n,()):=by
    unfold A02
    by_cases h:n<0<;>simp [h]
  simp only [cond_true,e,A3,Q6]
  rw [A0 (by omega)]
  simp only [Bool.not_true,cond_false,List.nil_append]
  rw [w64 (by omega) (by omega)]
  exact E55 _ b k hk hb
theorem B0S(b:List Int)(n:Int)(k:Nat)(hk:k≤8)(hb:b.length+8≤140737488355328):A8c b n (k:Int)=some (b++big (A02 n) k,()):=by
  simp only [A8c,C0C]
  have e:B38 n=A0R (A02 n,()):=by
    funext l
    have:(bif decide (0>n) then (0:Int) else n)=A02 n:=by
      unfold A02
      by_cases h:n<0<;>simp [h]
    simp only [B38,A0R,this]
  rw [e,w64 (by omega) (by omega)]
  exact E55 _ b k hk hb
theorem C72{n:Nat}(h:n<9223372036854775808):IntKind.i64.wrap (n:Int)=(n:Int):=w64 (by omega) (by omega)
theorem F1Q{n:Nat}(h:n<4294967296):IntKind.u32.wrap (n:Int)=(n:Int):=by
  simp only [IntKind.wrap,IntKind.bits,IntKind.signed]
  simp
  omega
theorem bits_nat{w x:Nat}(h:x<2 ^ w):(BitVec.ofInt w (x:Int)).toNat=x:=by
  rw [BitVec.ofInt_natCast,BitVec.toNat_ofNat]
  exact Nat.mod_eq_of_lt h
theorem C97{x y:Nat}(hx:x<4294967296)(hy:y<4294967296):D2I .i64 (x:Int) (y:Int)=((x ^^^ y:Nat):Int):=by
  have h:x ^^^ y<2 ^ 32:=Nat.xor_lt_two_pow (by omega) (by omega)
  unfold D2I
  rw [BitVec.toNat_xor,bits_nat (by simp only [IntKind.bits];omega),bits_nat (by simp only [IntKind.bits];omega)]
  exact C72 (by omega)
theorem C98{x y:Nat}(hx:x<4294967296)(hy:y<4294967296):D2I .u32 (x:Int) (y:Int)=((x ^^^ y:Nat):Int):=by
  have h:x ^^^ y<2 ^ 32:=Nat.xor_lt_two_pow (by omega) (by omega)
  unfold D2I
  rw [BitVec.toNat_xor,bits_nat (by simp only [IntKind.bits];omega),bits_nat (by simp only [IntKind.bits];omega)]
  exact F1Q (by omega)
theorem E8h{x y:Nat}(hx:x<4294967296)(hy:y<4294967296):E62 .i64 (x:Int) (y:Int)=((x &&& y:Nat):Int):=by
  have h:x &&& y<2 ^ 32:=Nat.and_lt_two_pow _ (by omega)
  unfold E62
  rw [BitVec.toNat_and,bits_nat (by simp only [IntKind.bits];omega),bits_nat (by simp only [IntKind.bits];omega)]
  exact C72 (by omega)
theorem E8i{x y:Nat}(hx:x<4294967296)(hy:y<4294967296):E62 .u32 (x:Int) (y:Int)=((x &&& y:Nat):Int):=by
  have h:x &&& y<2 ^ 32:=Nat.and_lt_two_pow _ (by omega)
  unfold E62
  rw [BitVec.toNat_and,bits_nat (by simp only [IntKind.bits];omega),bits_nat (by simp only [IntKind.bits];omega)]
  exact F1Q (by omega)
def C1Y(c:Nat):Nat:=if c &&& 1=1 then (c / 2) ^^^ 2197175160 else c / 2
def C3r(c:Nat):Nat→Nat
  | 0=>c
  | i+1=>C1Y (C3r c i)
theorem E2Q{c:Nat}(h:c<4294967296):C1Y c<4294967296:=by
  unfold C1Y
  split
  · have:(c / 2) ^^^ 2197175160<2 ^ 32:=Nat.xor_lt_two_pow (by omega) (by omega)
    omega
  · omega
theorem C87{c:Nat}(h:c<4294967296):∀ i,C3r c i<4294967296
  | 0=>h
  | i+1=>E2Q (C87 h i)
theorem half(c:Nat):((c:Int)).fdiv 2=((c / 2:Nat):Int):=by
  rw [Int.fdiv_eq_ediv_of_nonneg _ (by omega)]
  omega
def B1U(a:List Int):Nat:=a.foldl (fun c x=>C3r (c ^^^ x.toNat) 8) 4294967295
theorem F0F(a:List Int)(ha:Byt a):∀ c,c<4294967296→a.foldl (fun c x=>C3r (c ^^^ x.toNat) 8) c<4294967296:=by
  induction a with
  | nil=>intro c h;exact h
  | cons x a ih=>
    intro c h
    have hx:=ha x (by simp)
    refine ih (fun y hy=>ha y (by simp [hy])) _ (C87 ?_ 8)
    have:c ^^^ x.toNat<2 ^ 32:=Nat.xor_lt_two_pow (by omega) (by omega)
    omega
theorem A77{a:List Int}(h:Byt a)(i:Nat):Byt (a.take i):=fun x hx=>h x (List.mem_of_mem_take hx)
theorem B7p{a:List Int}(h:Byt a):B1U a<4294967296:=F0F a h _ (by omega)
theorem D4X{a:List Int}{i:Nat}(hi:i<a.length):B1U (a.take (i+1))=C3r (B1U (a.take i) ^^^ a[i].toNat) 8:=by
  unfold B1U
  rw [List.take_succ_eq_append_getElem hi,List.foldl_append]
  rfl
theorem F0G(l0:Int×Int×Unit)(c:Nat)(h:c<4294967296):B6 (B7o l0) ((c:Int),0,())=some (.inl ((C3r c 8:Int),IntKind.i64.wrap (l0.2.1+1),())):=by
  refine D8 (B7o l0) (fun i=>((C3r c i:Int),(i:Int),())) 8 _ (fun i hi=>?_) ?_
  · have hl:=C87 h i
    have h1:(i:Int)<8:=by omega
    simp only [B7o,A0 h1,cond_true,half]
    rw [show (1:Int)=((1:Nat):Int) from rfl,E8h hl (by omega),show (2197175160:Int)=((2197175160:Nat):Int) from rfl,C97 (by omega) (by omega)]
    rw [show ((i:Int)+((1:Nat):Int))=((i+1:Nat):Int) by omega,C72 (by omega)]
    simp only [C3r,C1Y]
    by_cases hb:C3r c i &&& 1=1
    · rw [A0 (by rw [hb]),if_pos hb];rfl
    · rw [A4 (by omega),if_neg hb];rfl
  · rfl
theorem C99(a:List Int)(ha:Byt a)(h:a.length≤maxLen):A86 a=some (((B1U a ^^^ 4294967295:Nat):Int),()):=by
  simp only [A86,D5k]
  have key:=D8 (B21 a) (fun i=>((B1U (a.take i):Int),(i:Int),())) a.length ((B1U a:Int),()) (fun i hi=>?_) ?_
  · have e:B6 (B21 a) (4294967295,0,())=some ((B1U a:Int),()):=key
    rw [e]
    simp only [A3]
    rw [show (4294967295:Int)=((4294967295:Nat):Int) from rfl,C97 (B7p ha) (by omega)]
  · have h1:((i:Int)<(a.length:Int)):=by omega
    have h2:(0:Int)≤(i:Int):=by omega
    have hx:=ha a[i] (List.getElem_mem hi)
    have hc:=B7p (A77 ha i)
    simp only [B21,A0 h1,A0 h2,cond_true,C3o hi]
    have hxor:B1U (a.take i) ^^^ a[i].toNat<2 ^ 32:=Nat.xor_lt_two_pow (by omega) (by omega)
    rw [w64 (by omega) (by omega),show a[i]=((a[i].toNat:Nat):Int) by omega,C97 hc (by omega)]
    rw [F0G _ _ (by omega)]
    simp only
    rw [show ((i:Int)+1)=((i+1:Nat):Int) by omega,C72 (by simp only [maxLen] at h;omega),D4X hi]
  · simp [B21]
theorem F0H(l0:Int×Int×Unit)(c:Nat)(h:c<4294967296):B6 (B7g l0) ((c:Int),0,())=some (.inl ((C3r c 8:Int),IntKind.i64.wrap (l0.2.1+1),())):=by
  refine D8 (B7g l0) (fun i=>((C3r c i:Int),(i:Int),())) 8 _ (fun i hi=>?_) ?_
  · have hl:=C87 h i
    have h1:(i:Int)<8:=by omega
    simp only [B7g,A0 h1,cond_true,half]
    rw [show (1:Int)=((1:Nat):Int) from rfl,E8i hl (by omega),show (2197175160:Int)=((2197175160:Nat):Int) from rfl,C98 (by omega) (by omega)]
    rw [show ((i:Int)+((1:Nat):Int))=((i+1:Nat):Int) by omega,C72 (by omega)]
    simp only [C3r,C1Y]
    by_cases hb:C3r c i &&& 1=1
    · rw [A0 (by rw [hb]),if_pos hb];rfl
    · rw [A4 (by omega),if_neg hb];rfl
  · rfl
theorem C9A(a:List Int)(ha:Byt a)(h:a.length≤maxLen):A7r a=some (((B1U a ^^^ 4294967295:Nat):Int),()):=by
  simp only [A7r,D5j]
  have key:=D8 (B1t a) (fun i=>((B1U (a.take i):Int),(i:Int),())) a.length ((B1U a:Int),()) (fun i hi=>?_) ?_
  · have e:B6 (B1t a) (4294967295,0,())=some ((B1U a:Int),()):=key
    rw [e]
    simp only [A3]
    have hm:IntKind.u32.max=((4294967295:Nat):Int):=rfl
    have hxor:B1U a ^^^ 4294967295<2 ^ 32:=Nat.xor_lt_two_pow (by have:=B7p ha;omega) (by omega)
    rw [hm,C98 (by omega) (B7p ha),Nat.xor_comm,C72 (by omega)]
  · have h1:((i:Int)<(a.length:Int)):=by omega
    have h2:(0:Int)≤(i:Int):=by omega
    have hx:=ha a[i] (List.getElem_mem hi)
    have hc:=B7p (A77 ha i)
    simp only [B1t,A0 h1,A0 h2,cond_true,C3o hi]
    have hxor:B1U (a.take i) ^^^ a[i].toNat<2 ^ 32:=Nat.xor_lt_two_pow (by omega) (by omega)
    rw [show a[i]=((a[i].toNat:Nat):Int) by omega,F1Q (by omega),C98 hc (by omega)]
    rw [F0H _ _ (by omega)]
    simp only
    rw [show ((i:Int)+1)=((i+1:Nat):Int) by omega,C72 (by simp only [maxLen] at h;omega),D4X hi]
  · simp [B1t]
abbrev Req:=Int×ByteArray×Int
def E8j:Req×List Int×Bool×Unit:=((0,⟨#[]⟩,0),[],false,())
def X5(c:P0):Req×List Int×Bool×Unit:=
  if J1 c=false then E8j
  else if c.2.2.1=1 then ((1,c.1,(c.2.1.length:Int)),[],true,())
  else if c.2.2.1=2 then ((2,c.1,0),[],true,())
  else if c.2.2.1=3 then ((3,c.1,c.2.2.2),(c.2.1.take (min (c.2.2.2.toNat+24) c.2.1.length)).drop c.2.2.2.toNat,true,())
  else if c.2.2.1=4 then ((4,c.1,((B1U c.2.1 ^^^ 4294967295:Nat):Int)),[],true,())
  else E8j
theorem E2R{c:P0}(h:J1 c=true):c.2.1.length≤400∧1≤c.2.2.1∧c.2.2.1≤6∧0≤c.2.2.2∧c.2.2.2≤(c.2.1.length:Int):=by
  simp only [J1,Bool.and_eq_true,decide_eq_true_eq] at h
  omega
theorem D8W(c:P0):(X5 c).2.1.length≤c.2.1.length:=by
  unfold X5 E8j
  repeat' split
  all_goals simp
  omega
theorem D5u(c:P0)(h:c.1.size≤maxLen)(hb:Byt c.2.1):A6l c=some (X5 c):=by
  simp only [A6l,B5U,A6Z c h,C3q,A3,X5]
  cases hk:J1 c with
  | false=>rfl
  | true=>
    obtain ⟨h1,h2,h3,h4,h5⟩:=E2R hk
    simp only [Bool.not_true,cond_false,Bool.true_eq_false,if_false]
    cases ho:A7h c with
    | true=>
      simp only [A7h,Bool.or_eq_true,decide_eq_true_eq] at ho
      rw [if_neg (by omega),if_neg (by omega),if_neg (by omega),if_neg (by omega)]
      rfl
    | false=>
      simp only [A7h,Bool.or_eq_false_iff,decide_eq_false_iff_not] at ho
      simp only [cond_false,C2]
      by_cases e1:c.2.2.1=1
      · rw [A0 e1,if_pos e1];rfl
      rw [A4 e1,if_neg e1]
      by_cases e2:c.2.2.1=2
      · rw [A0 e2,if_pos e2];rfl
      rw [A4 e2,if_neg e2]
      by_cases e3:c.2.2.1=3
      · rw [A0 e3,if_pos e3,w64 (by omega) (by omega)]
        simp only [cond_true,cond_false]
        have hm:(bif decide ((c.2.1.length:Int)<c.2.2.2+24) then (c.2.1.length:Int) else c.2.2.2+24)=((min (c.2.2.2.toNat+24) c.2.1.length:Nat):Int):=by
          by_cases hc:(c.2.1.length:Int)<c.2.2.2+24
          · rw [A0 hc];simp only [cond_true];omega
          · rw [A4 hc];simp only [cond_false];omega
        rw [hm,A0 h4,A0 (by omega),A0 (by omega),Int.toNat_natCast]
        simp only [cond_true]
        rw [A2W _ (by simp;omega)]
      rw [A4 e3,if_neg e3]
      have e4:c.2.2.1=4:=by omega
      rw [if_pos e4]
      simp only [cond_false]
      rw [C9A _ hb (by simp only [maxLen];omega)]
theorem D5v(c:P0)(h:c.1.size≤maxLen)(hb:Byt c.2.1):A6y c=some (X5 c):=by
  simp only [A6y,B61,A6Y c h,A3,X5]
  cases hk:J1 c with
  | false=>rfl
  | true=>
    obtain ⟨h1,h2,h3,h4,h5⟩:=E2R hk
    simp only [Bool.not_true,cond_false,Bool.true_eq_false,if_false]
    by_cases e1:c.2.2.1=1
    · rw [A0 e1,if_pos e1];rfl
    rw [A4 e1,if_neg e1]
    by_cases e2:c.2.2.1=2
    · rw [A0 e2,if_pos e2];rfl
    rw [A4 e2,if_neg e2]
    by_cases e3:c.2.2.1=3
    · rw [A0 e3,if_pos e3,w64 (by omega) (by omega)]
      simp only [cond_true,cond_false]
      have hm:(bif decide (c.2.2.2+24>(c.2.1.length:Int)) then some ((c.2.1.length:Int),()) else some (c.2.2.2+24,()))=some (((min (c.2.2.2.toNat+24) c.2.1.length:Nat):Int),()):=by
        by_cases hc:c.2.2.2+24>(c.2.1.length:Int)
        · rw [A0 hc];simp only [cond_true];congr 2;omega
        · rw [A4 hc];simp only [cond_false];congr 2;omega
      rw [hm]
      simp only
      rw [A0 h4,A0 (by omega),A0 (by omega),Int.toNat_natCast]
      simp only [cond_true]
      rw [A0 (by simp;omega),A0 (by simp;omega)]
      simp
    rw [A4 e3,if_neg e3]
    by_cases e4:c.2.2.1=4
    · rw [A0 e4,if_pos e4]
      simp only [cond_true,cond_false]
      rw [C99 _ hb (by simp only [maxLen];omega)]
    · rw [A4 e4,if_neg e4];rfl
abbrev D8X:=Int×Int
def X6(r:D8X):Bool:=decide (100≤r.1∧r.1≤599)&&decide (-1≤r.2∧r.2≤1000000000)
theorem B6E(r:D8X):U5 r=some (X6 r,()):=by
  simp only [U5,C0W,Q6,A3,X6]
  cases decide (100≤r.1∧r.1≤599)<;>simp
theorem B6F(r:D8X):U3 r=some (X6 r,()):=by
  simp only [U3,C0A,L2,A3,X6]
  cases decide (100≤r.1∧r.1≤599)<;>simp
def far(c:P0)(off:Int):P0:=if 0≤off∧off≤(c.2.1.length:Int) then (if off=(c.2.1.length:Int) then (c.1,c.2.1,4,off) else (c.1,c.2.1,3,off)) else (c.1,c.2.1,6,c.2.2.2)
theorem E6H(c:P0)(off:Int):A9H c off=some (far c off,()):=by
  simp only [A9H,C0d,Q6,A3,far]
  by_cases h:0≤off∧off≤(c.2.1.length:Int)
  · rw [A0 h,if_pos h]
    by_cases h2:off=(c.2.1.length:Int)<;>simp [h2]
  · rw [A4 h,if_neg h];rfl
theorem E6I(c:P0)(off:Int):W9 c off=some (far c off,()):=by
  simp only [W9,A4H,L2,A3,far]
  by_cases h:0≤off∧off≤(c.2.1.length:Int)
  · rw [A0 h,if_pos h]
    by_cases h2:off=(c.2.1.length:Int)<;>simp [h2]
  · rw [A4 h,if_neg h];rfl
def A4w(step status:Int):Int:=
  if status=507 then (if step=2 then 6 else step)
  else if status=404 then (if step=1 then 6 else 1)
  else if status=409 then (if step=3 then 0 else if step=2 then 6 else 2)
  else if status=201 then (if step=1 then 0 else 6)
  else if status=204 then (if step=3 then 0 else 6)
  else if status=200 then (if step=2 then 0 else if step=4 then 5 else 6)
  else 6
theorem E2S(a b:Int):A70 a b=some (A4w a b,()):=by
  simp only [A70,B65,A4w]
  by_cases h1:b=507
  · by_cases h:a=2<;>simp [h1,h]
  by_cases h2:b=404
  · by_cases h:a=1<;>simp [h2,h]
  by_cases h3:b=409
  · by_cases h:a=3
    · simp [h3,h]
    · by_cases h':a=2<;>simp [h3,h,h']
  by_cases h4:b=201
  · by_cases h:a=1<;>simp [h4,h]
  by_cases h5:b=204
  · by_cases h:a=3<;>simp [h5,h]
  by_cases h6:b=200
  · by_cases h:a=2
    · simp [h6,h]
    · by_cases h':a=4<;>simp [h6,h,h']
  simp [h1,h2,h3,h4,h5,h6]
def hear(c:P0)(r:D8X):P0:=if A4w c.2.2.1 r.1=0 then far c r.2 else (c.1,c.2.1,A4w c.2.2.1 r.1,c.2.2.2)
theorem E2T(c:P0)(r:D8X):A71 c r=some (hear c r,()):=by
  simp only [A71,B66,E2S,E6H,A3,hear]
  by_cases h:A4w c.2.2.1 r.1=0<;>simp [h]
theorem E6J(c:P0)(r:D8X)(h:c.2.2.1=1∨c.2.2.1=2∨c.2.2.1=3∨c.2.2.1=4):A0Z c r=some (hear c r,()):=by
  have hc:c=(c.1,c.2.1,c.2.2.1,c.2.2.2):=rfl
  simp only [A0Z,A7Q,E6I,hear,A4w]
  by_cases h1:r.1=507
  · rcases h with h | h | h | h<;>simp [h1,h,A3]
    all_goals (rw [← h])
  by_cases h2:r.1=404
  · rcases h with h | h | h | h<;>simp [h2,h,A3]
  by_cases h3:r.1=409
  · rcases h with h | h | h | h<;>simp [h3,h,A3]
  by_cases h4:r.1=201
  · rcases h with h | h | h | h<;>simp [h4,h,A3]
  by_cases h5:r.1=204
  · rcases h with h | h | h | h<;>simp [h5,h,A3]
  by_cases h6:r.1=200
  · rcases h with h | h | h | h<;>simp [h6,h,A3]
  rcases h with h | h | h | h<;>simp [h1,h2,h3,h4,h5,h6,h,A3]
def A2X(c:P0)(r:D8X):P0:=if J1 c&&X6 r&&!A7h c then hear c r else c
theorem D2L(c:P0)(r:D8X)(h:c.1.size≤maxLen)(h2:c.2.1.length≤140737488355328):A4I c r=some (A2X c r,()):=by
  simp only [A4I,B3H,B1T _ h2,A6Z _ h,B6F,C3q,A3,A2X]
  cases hk:J1 c with
  | false=>simp
  | true=>
    cases X6 r with
    | false=>simp
    | true=>
      cases ho:A7h c with
      | true=>simp
      | false=>
        obtain ⟨_,h4,h5,_,_⟩:=E2R hk
        simp only [A7h,Bool.or_eq_false_iff,decide_eq_false_iff_not] at ho
        simp only [Bool.not_true,cond_false]
        rw [E6J c r (by omega)]
        simp
def E6K(us:List TUp)(id:ByteArray):Nat:=O9 (fun i=>!((rd kUp us (i:Int)).1.toList == id.toList)) 0 us.length
def F2c:TUp×Bool×Unit:=((⟨#[]⟩,0,[],false),false,())
def F2d(st:A8)(id:ByteArray):TUp×Bool×Unit:=if E6K st.2.2.2 id<st.2.2.2.length then (rd kUp st.2.2.2 (E6K st.2.2.2 id:Int),true,()) else F2c
theorem D8Y(us:List TUp)(id:ByteArray)(h:us.length≤maxLen):O4 us id=some (if E6K us id<us.length then (E6K us id:Int) else -1,()):=by
  simp only [O4,C3m]
  refine A3o (B0C us id) (fun i=>((i:Int),())) us.length (fun i=>(if i<us.length then (i:Int) else -1,())) (fun i=>!((rd kUp us (i:Int)).1.toList == id.toList)) (fun i hi=>?_) ?_
  · have h1:((i:Int)<(us.length:Int)):=by omega
    have h2:(0:Int)≤(i:Int):=by omega
    simp only [B0C,A0 h1,A0 h2,cond_true,if_pos hi]
    rw [w64 (by omega) (by simp only [maxLen] at h;omega)]
    cases ((rd kUp us (i:Int)).1.toList == id.toList)<;>simp
  · simp [B0C]
def F1R(w:A6)(i:Nat):TUp×Bool×Unit:=F2d w.1.1 (rd B2 w.2.1 (i:Int)).1
def beg(a b:List Int):Bool:=decide (a.length≤b.length)&&(List.range a.length).all fun i=>decide (rd (.int .u8) a (i:Int)=rd (.int .u8) b (i:Int))
theorem F1S{x y:Int}(hx:0≤x∧x<256)(hy:0≤y∧y<256)(h:UInt8.ofNat x.toNat=UInt8.ofNat y.toNat):x=y:=by
  have:=congrArg UInt8.toNat h
  simp only [UInt8.toNat_ofNat'] at this
  omega
def be(w:A6)(i:Nat):Bool:=!(F1R w i).2.1||(beg (F1R w i).1.2.2.1 (rd B2 w.2.1 (i:Int)).2.1&&decide ((F1R w i).1.2.1=(List.length (rd B2 w.2.1 (i:Int)).2.1:Int)))
theorem F0I{L:Int×Unit→Option ((Int×Unit)⊕(Unit⊕(Bool×Unit)))}{n:Nat}{go:Nat→Bool}(hs:∀ i:Nat,i<n→L ((i:Int),())=bif go i then some (.inl (((i+1:Nat):Int),())) else some (.inr (.inr (false,()))))
    (he:L ((n:Int),())=some (.inr (.inl ()))) (g:Unit→Option (Bool×Unit)) (b:Bool) (hg:g ()=some (b,())):C2 (B6 L (0,())) g=some (decide (O9 go 0 n=n)&&b,()):=by
  have h:=A3o L (fun i=>((i:Int),())) n (fun i=>if i=n then .inl () else .inr (false,())) go (fun i hi=>by
    rw [hs i hi]
    cases go i with
    | true=>rfl
    | false=>simp only [Bool.false_eq_true,if_false,cond_false];rw [if_neg (by omega)]) (by rw [he,if_pos rfl])
  have h':B6 L (0,())=_:=h
  rw [h']
  by_cases hn:O9 go 0 n=n
  · rw [if_pos hn,A0 hn];simp [C2,hg]
  · rw [if_neg hn,A4 hn];simp [C2]
theorem F0J{x y:Nat}(hx:x<9223372036854775808)(hy:y<9223372036854775808):bOr .i64 (x:Int) (y:Int)=((x ||| y:Nat):Int):=by
  have h:x ||| y<2 ^ 63:=Nat.or_lt_two_pow (by omega) (by omega)
  unfold bOr
  rw [BitVec.toNat_or,bits_nat (by simp only [IntKind.bits];omega),bits_nat (by simp only [IntKind.bits];omega)]
  exact C72 (by omega)
def V5(b:List Int)(at_:Nat):Nat→Nat
  | 0=>0
  | j+1=>(V5 b at_ j*256) ||| (b.getD (at_+j) 0).toNat
theorem D8Z{b:List Int}(hb:Byt b)(i:Nat):0≤b.getD i 0∧b.getD i 0<256:=by
  by_cases h:i<b.length
  · simp only [List.getD,List.getElem?_eq_getElem h,Option.getD_some]
    exact hb _ (List.getElem_mem h)
  · simp only [List.getD,List.getElem?_eq_none (show b.length≤i by omega),Option.getD_none]
    omega
theorem D5w{b:List Int}(hb:Byt b)(at_:Nat):∀ j,V5 b at_ j<2 ^ (8*j)
  | 0=>by simp [V5]
  | j+1=>by
    have h1:=D5w hb at_ j
    have h2:=D8Z hb (at_+j)
    have e:2 ^ (8*(j+1))=2 ^ (8*j)*256:=by rw [show 8*(j+1)=8*j+8 by omega,Nat.pow_add]
    refine Nat.or_lt_two_pow ?_ ?_
    · rw [e];exact Nat.mul_lt_mul_of_pos_right h1 (by omega)
    · have:1≤2 ^ (8*j):=Nat.one_le_two_pow
      rw [e];omega
theorem D8a{b:List Int}(hb:Byt b)(at_ j:Nat)(hj:j<7)(x:Int)(hx:x=b.getD (at_+j) 0):bOr .i64 (IntKind.i64.wrap (((V5 b at_ j:Nat):Int)*256)) (IntKind.i64.wrap x)=((V5 b at_ (j+1):Nat):Int):=by
  have h1:=D5w hb at_ j
  have h2:=D8Z hb (at_+j)
  have h3:2 ^ (8*j)≤2 ^ 48:=Nat.pow_le_pow_right (by omega) (by omega)
  subst hx
  rw [show ((V5 b at_ j:Nat):Int)*256=((V5 b at_ j*256:Nat):Int) by omega,C72 (by omega),show b.getD (at_+j) 0=(((b.getD (at_+j) 0).toNat:Nat):Int) by omega,C72 (by omega),F0J (by omega) (by omega)]
  simp only [V5,Int.toNat_natCast]
def A5p(b:List Int)(a:Int)(k:Nat):Int×Bool×Unit:=if 0≤a∧a≤(b.length:Int)-k then ((V5 b a.toNat k:Int),true,()) else (0,false,())
theorem D8b(b:List Int)(hb:Byt b)(h:b.length≤1048576)(a:Int)(k:Nat)(hk:1≤k∧k≤7):A5g b a (k:Int)=some (A5p b a k):=by
  simp only [A5g,C0X,Q6,A3,A5p]
  rw [A0 (show (1:Int)≤(k:Int)∧(k:Int)≤7 by omega),w64 (by omega) (by omega)]
  simp only [Bool.not_true,cond_false]
  by_cases h1:a<0
  · rw [A0 h1,if_neg (by omega)];rfl
  rw [A4 h1]
  by_cases h2:a>(b.length:Int)-k
  · rw [A0 h2,if_neg (by omega)];rfl
  rw [A4 h2,if_pos (by omega)]
  simp only [cond_false,C2]
  have key:=D8 (A4d (k:Int) a b) (fun j=>((V5 b a.toNat j:Int),(j:Int),())) k ((V5 b a.toNat k:Int),()) (fun j hj=>?_) ?_
  · have e:B6 (A4d (k:Int) a b) (0,0,())=_:=key
    rw [e]
  · have g1:(j:Int)<(k:Int):=by omega
    simp only [A4d,A0 g1,cond_true]
    rw [w64 (n:=a+(j:Int)) (by omega) (by omega)]
    have g2:0≤a+(j:Int):=by omega
    have g3:a+(j:Int)<(b.length:Int):=by omega
    rw [A0 g2,A0 g3]
    simp only [cond_true]
    rw [D8a hb a.toNat j (by omega) _ (by
      rw [show a+(j:Int)=((a.toNat+j:Nat):Int) by omega,C3o (by omega)]
      simp [List.getD,show a.toNat+j<b.length by omega]),show (j:Int)+1=((j+1:Nat):Int) by omega,C72 (by omega)]
  · simp [A4d]
theorem B6G(b:List Int)(hb:Byt b)(h:b.length≤1048576)(a:Int)(k:Nat)(hk:1≤k∧k≤7):A8b b a (k:Int)=some (A5p b a k):=by
  simp only [A8b,C0B,L2,A3,A5p]
  rw [A0 (show (1:Int)≤(k:Int)∧(k:Int)≤7 by omega),w64 (n:=(b.length:Int)-(k:Int)) (by omega) (by omega)]
  simp only [Bool.not_true,cond_false]
  by_cases h1:a<0
  · rw [A0 h1,if_neg (by omega)];rfl
  rw [A4 h1]
  by_cases h2:a>(b.length:Int)-k
  · rw [A0 h2,if_neg (by omega)];rfl
  rw [A4 h2,if_pos (by omega)]
  simp only [cond_false,C2]
  rw [w64 (n:=a+(k:Int)) (by omega) (by omega),A0 (show 0≤a by omega),A0 (show a≤a+(k:Int) by omega),A0 (show a+(k:Int)≤(b.length:Int) by omega)]
  simp only [cond_true]
  have hlen:((b.take (a+(k:Int)).toNat).drop a.toNat).length=k:=by simp;omega
  have key:=D8 (A48 b a (k:Int)) (fun j=>((V5 b a.toNat j:Int),(j:Int),())) k ((V5 b a.toNat k:Int),()) (fun j hj=>?_) ?_
  · have e:B6 (A48 b a (k:Int)) (0,0,())=_:=key
    rw [e]
  · have g1:(j:Int)<(k:Int):=by omega
    have g2:(0:Int)≤(j:Int):=by omega
    simp only [A48]
    rw [w64 (n:=a+(k:Int)) (by omega) (by omega)]
    simp only [hlen,A0 g1,A0 g2,cond_true]
    rw [D8a hb a.toNat j (by omega) _ (by
      rw [C3o (by rw [hlen];exact hj)]
      simp [List.getD,show a.toNat+j<b.length by omega]),show (j:Int)+1=((j+1:Nat):Int) by omega,C72 (by omega)]
  · simp only [A48]
    rw [w64 (n:=a+(k:Int)) (by omega) (by omega)]
    simp [hlen]
theorem A5q(xs:List Int):(strOf xs).size=xs.length:=strOfNums_size xs
theorem E8k(a b:ByteArray):(a++b).size=a.size+b.size:=ByteArray.size_append
theorem D8c(k:Int)(h:k<4611686018427387904):∃ s,D3 k=some (s,()):=by
  simp only [D3,B3c]
  by_cases h0:k≤0
  · rw [A0 h0];exact ⟨_,rfl⟩
  rw [A4 h0]
  obtain ⟨z,e,hz⟩:=A01 A99 (fun l=>l.1.toNat) (fun l=>0≤l.1∧(l.2.1.size:Int)+l.1≤k) (fun z=>(z.1.size:Int)≤k) (fun l hl=>by
    obtain ⟨n,out,u⟩:=l
    simp only at hl ⊢
    simp only [A99]
    by_cases hp:n>0
    · refine .inl ⟨(n.tdiv 10,strOf [IntKind.u8.wrap (IntKind.i64.wrap (48+n.tmod 10))]++out,()),?_,?_,?_⟩
      · rw [A0 hp]
        simp only [cond_true]
        rw [A4 (by rw [A5q];simp [IntKind.max,IntKind.signed,IntKind.bits];omega)]
        simp only [cond_false]
        rw [w64 (n:=n.tdiv 10) (by rw [Int.tdiv_eq_ediv_of_nonneg (by omega)];omega) (by rw [Int.tdiv_eq_ediv_of_nonneg (by omega)];omega)]
      · simp only
        rw [E8k,A5q,Int.tdiv_eq_ediv_of_nonneg (by omega)]
        simp only [List.length_singleton]
        omega
      · simp only
        rw [Int.tdiv_eq_ediv_of_nonneg (by omega)]
        omega
    · rw [A4 hp]
      exact .inr ⟨_,rfl,by simp only;omega⟩) (k,⟨#[]⟩,()) (by
      constructor
      · simp only;omega
      · show ((0:Nat):Int)+k≤k
        omega)
  rw [e]
  simp only [A3,cond_false]
  have h1:(⟨#[109]⟩:ByteArray).size=1:=rfl
  rw [A4 (by rw [h1];simp [IntKind.max,IntKind.signed,IntKind.bits];omega)]
  exact ⟨_,rfl⟩
noncomputable def mt(k:Int):ByteArray:=match D3 k with
  | some (s,_)=>s
  | none=>⟨#[]⟩
theorem A78(k:Int)(h:k<4611686018427387904):D3 k=some (mt k,()):=by
  obtain ⟨s,hs⟩:=D8c k h
  unfold mt
  rw [hs]
noncomputable def R7(m:Int)(n:Nat):List ByteArray:=(List.range n).map fun j=>mt (m+(j:Nat))
theorem C9B(a:List ByteArray)(m:Int)(h0:0≤m)(h:m+a.length<4611686018427387904):V9 a m=some (m+a.length,R7 m a.length,()):=by
  simp only [V9,A7W]
  have key:=D8 (A0u D3) (fun i=>(m+(i:Int),(i:Int),R7 m i++a.drop i,())) a.length (m+a.length,R7 m a.length,()) (fun i hi=>?_) ?_
  · simpa [R7] using key
  · have h1:((i:Int)<(a.length:Int)):=by omega
    have h2:(0:Int)≤(i:Int):=by omega
    have hl:(R7 m i++a.drop i).length=a.length:=by simp [R7];omega
    simp only [A0u,hl,A0 h1,A0 h2,cond_true]
    rw [A78 _ (by omega),w64 (by omega) (by omega),w64 (by omega) (by omega),Int.toNat_natCast]
    simp only [A3]
    have:(R7 m i++a.drop i).set i (mt (m+(i:Int)))=R7 m (i+1)++a.drop (i+1):=by
      rw [List.set_append_right _ _ (by simp [R7])]
      rw [show (R7 m i).length=i by simp [R7],Nat.sub_self,List.drop_eq_getElem_cons hi,List.set_cons_zero]
      simp [R7,List.range_succ]
    rw [this]
    simp only [Int.natCast_add,Int.natCast_one,Int.add_assoc]
  · simp [A0u,R7]
theorem C9C(n:Nat)(m:Int)(h0:0≤m)(h:m+n<4611686018427387904):W4 (R7 m n) m=some (m+n,()):=by
  simp only [W4,A7X]
  have hl:(R7 m n).length=n:=by simp [R7]
  have key:=D8 (A0w D3 (R7 m n)) (fun i=>(m+(i:Int),(i:Int),())) n (m+n,()) (fun i hi=>?_) ?_
  · simpa [R7] using key
  · have h1:((i:Int)<(n:Int)):=by omega
    have h2:(0:Int)≤(i:Int):=by omega
    simp only [A0w,hl,A0 h1,A0 h2,cond_true]
    have hr:rd .str (R7 m n) (i:Int)=mt (m+(i:Int)):=by
      rw [A3U (by rw [hl];exact hi)]
      simp [R7]
    rw [hr,A78 _ (by omega),w64 (by omega) (by omega),w64 (by omega) (by omega)]
    simp only [A3,beq_self_eq_true,Bool.not_true,cond_false,Int.natCast_add,Int.natCast_one,Int.add_assoc]
  · simp [A0w,hl]
theorem wrap_u8(x:Int):0≤IntKind.u8.wrap x∧IntKind.u8.wrap x<256:=by
  simp only [IntKind.wrap,IntKind.bits,IntKind.signed]
  simp
  omega
def P1(r:H7):Bool:=
  decide (0≤r.1∧r.1≤10000)&&decide (0≤r.2.1∧r.2.1≤199)&&idB r.2.2.2.1 &&
  (if r.2.2.1=1 then decide (0≤r.2.2.2.2.1∧r.2.2.2.2.1≤1000000000)&&decide ((List.length r.2.2.2.2.2:Int)=0)
   else if r.2.2.1=2 then decide (0≤r.2.2.2.2.1∧r.2.2.2.2.1≤1000000000)&&decide (1≤(List.length r.2.2.2.2.2:Int)∧(List.length r.2.2.2.2.2:Int)≤24)
   else if r.2.2.1=3∨r.2.2.1=4 then decide (r.2.2.2.2.1=0)&&decide ((List.length r.2.2.2.2.2:Int)=0) else false)
theorem E2U(r:H7)(h:r.2.2.2.1.size≤maxLen):B20 r=some (P1 r,()):=by
  simp only [B20,C3l,A9N _ h,Q6,A3,P1]
  cases decide (0≤r.1∧r.1≤10000)
  · rfl
  cases decide (0≤r.2.1∧r.2.1≤199)
  · rfl
  cases idB r.2.2.2.1
  · rfl
  simp only [Bool.not_true,cond_false,C2,Bool.true_and]
  by_cases h1:r.2.2.1=1
  · rw [A0 h1,if_pos h1]
    cases decide (0≤r.2.2.2.2.1∧r.2.2.2.2.1≤1000000000)<;>rfl
  rw [A4 h1,if_neg h1]
  by_cases h2:r.2.2.1=2
  · rw [A0 h2,if_pos h2]
    cases decide (0≤r.2.2.2.2.1∧r.2.2.2.2.1≤1000000000)<;>rfl
  rw [A4 h2,if_neg h2]
  by_cases h3:r.2.2.1=3
  · rw [A0 h3,if_pos (.inl h3)]
    cases decide (r.2.2.2.2.1=0)<;>rfl
  rw [A4 h3]
  by_cases h4:r.2.2.1=4
  · rw [A0 h4,if_pos (.inr h4)]
    cases decide (r.2.2.2.2.1=0)<;>rfl
  rw [A4 h4,if_neg (by omega)]
  rfl
theorem C9D(r:H7)(h:r.2.2.2.1.size≤maxLen):A5W r=some (P1 r,()):=by
  simp only [A5W,C3c,A1C,A9r,B3v _ h,L2,A3,P1]
  cases decide (0≤r.1∧r.1≤10000)
  · rfl
  cases decide (0≤r.2.1∧r.2.1≤199)
  · rfl
  by_cases hk:1≤r.2.2.1∧r.2.2.1≤4
  · rw [A0 hk]
    cases idB r.2.2.2.1
    · rfl
    simp only [Bool.not_true,cond_false,C2,Bool.true_and]
    by_cases h1:r.2.2.1=1
    · rw [A0 h1,if_pos h1]
      cases decide (0≤r.2.2.2.2.1∧r.2.2.2.2.1≤1000000000)<;>rfl
    rw [A4 h1,if_neg h1]
    by_cases h2:r.2.2.1=2
    · rw [A0 h2,if_pos h2]
      cases decide (0≤r.2.2.2.2.1∧r.2.2.2.2.1≤1000000000)<;>rfl
    rw [A4 h2,if_neg h2,if_pos (by omega)]
    cases decide (r.2.2.2.2.1=0)<;>rfl
  · rw [A4 hk,if_neg (by omega),if_neg (by omega),if_neg (by omega)]
    cases idB r.2.2.2.1<;>rfl
theorem A03{r:H7}(h:P1 r=true):0≤r.1∧r.1≤10000∧1≤r.2.2.1∧r.2.2.1≤4∧r.2.2.2.1.size≤8∧0≤r.2.2.2.2.1∧r.2.2.2.2.1≤1000000000∧List.length r.2.2.2.2.2≤24:=by
  simp only [P1,idB,Bool.and_eq_true,decide_eq_true_eq] at h
  obtain ⟨⟨⟨h1,h2⟩,h3,h4⟩,h5⟩:=h
  split at h5
  · simp only [Bool.and_eq_true,decide_eq_true_eq] at h5;omega
  · split at h5
    · simp only [Bool.and_eq_true,decide_eq_true_eq] at h5;omega
    · split at h5
      · simp only [Bool.and_eq_true,decide_eq_true_eq] at h5;omega
      · cases h5
theorem D5x{a b:List Int}(ha:Byt a)(hb:Byt b):Byt (a++b):=fun x hx=>(List.mem_append.1 hx).elim (ha x) (hb x)
theorem E56(n:Int)(k:Nat):Byt (big n k):=by
  intro x hx
  obtain ⟨j,_,rfl⟩:=List.mem_map.1 hx
  exact wrap_u8 _
theorem B0T(s:ByteArray):Byt (bytesOf s):=by
  intro x hx
  obtain ⟨b,_,rfl⟩:=List.mem_map.1 hx
  have:=b.toNat_lt
  omega
theorem A28:Byt []:=fun x hx=>by cases hx
theorem B25{a:List Int}(h:Byt a)(i:Nat):Byt (a.drop i):=fun x hx=>h x (List.mem_of_mem_drop hx)
def B4y(r:H7):List Int:=
  big (A02 r.1) 3++big (A02 r.2.1) 2++big (A02 r.2.2.1) 1++big (A02 (r.2.2.2.1.size:Int)) 1++bytesOf r.2.2.2.1++big (A02 r.2.2.2.2.1) 4++big (A02 (List.length r.2.2.2.2.2:Int)) 1++r.2.2.2.2.2
def F1T(b:List Int):Int:=((B1U b ^^^ 4294967295:Nat):Int)
def V8(r:H7):ByteArray:=strOf (B4y r++big (A02 (F1T (B4y r))) 4)
theorem B6H(r:H7):(B4y r).length=12+r.2.2.2.1.size+List.length r.2.2.2.2.2:=by
  simp only [B4y,List.length_append,J6,bytesOf_length]
  omega
theorem C9E(r:H7)(h:Byt r.2.2.2.2.2):Byt (B4y r):=by
  unfold B4y
  repeat' first | apply D5x | apply E56 | apply B0T | exact h
theorem C4y(r:H7)(h1:r.2.2.2.1.size≤10000000)(h2:List.length r.2.2.2.2.2≤10000000)(hb:Byt r.2.2.2.2.2):A3R r=some (V8 r,()):=by
  have hlen:=B6H r
  simp only [A3R,C0Z]
  rw [show (3:Int)=((3:Nat):Int) from rfl,A1g [] _ 3 (by omega) (by omega) (by simp)]
  simp only [A3,List.nil_append]
  rw [show (2:Int)=((2:Nat):Int) from rfl,A1g _ _ 2 (by omega) (by omega) (by simp [J6])]
  simp only
  rw [show (1:Int)=((1:Nat):Int) from rfl,A1g _ _ 1 (by omega) (by omega) (by simp [J6])]
  simp only
  rw [A1g _ _ 1 (by omega) (by omega) (by simp [J6])]
  simp only
  rw [A0 (by simp [J6];omega)]
  simp only [cond_true]
  rw [show (4:Int)=((4:Nat):Int) from rfl,A1g _ _ 4 (by omega) (by omega) (by simp [J6,bytesOf_length];omega)]
  simp only
  rw [A1g _ _ 1 (by omega) (by omega) (by simp [J6,bytesOf_length];omega)]
  simp only
  rw [A0 (by simp [J6,bytesOf_length];omega),A0 (by simp [J6,bytesOf_length];omega)]
  simp only [cond_true]
  have e:big (A02 r.1) 3++big (A02 r.2.1) 2++big (A02 r.2.2.1) 1++big (A02 (r.2.2.2.1.size:Int)) 1++bytesOf r.2.2.2.1++big (A02 r.2.2.2.2.1) 4++big (A02 (List.length r.2.2.2.2.2:Int)) 1++r.2.2.2.2.2=B4y r:=rfl
  rw [e,C99 _ (C9E r hb) (by rw [hlen];simp only [maxLen];omega)]
  simp only
  rw [A1g _ _ 4 (by omega) (by omega) (by rw [hlen];omega)]
  rfl
theorem D5y(n:Int):big n 1 = [IntKind.u8.wrap n]:=by
  simp [big,C96]
theorem A4x{n:Int}(h:0≤n):A02 n=n:=by unfold A02;rw [if_neg (by omega)]
theorem C4z(r:H7)(h1:r.2.2.2.1.size≤maxLen)(hb:Byt r.2.2.2.2.2):A3N r=some (if P1 r then V8 r else ⟨#[]⟩,()):=by
  simp only [A3N,C0D,C9D r h1]
  cases hr:P1 r with
  | false=>rfl
  | true=>
    have hbd:=A03 hr
    have hlen:=B6H r
    simp only [A3,Bool.not_true,cond_false]
    rw [show (3:Int)=((3:Nat):Int) from rfl,B0S [] _ 3 (by omega) (by simp)]
    simp only [List.nil_append]
    rw [show (2:Int)=((2:Nat):Int) from rfl,B0S _ _ 2 (by omega) (by simp [J6])]
    simp only
    rw [A0 (by simp [J6]),A0 (by simp [J6])]
    simp only [cond_true]
    rw [A0 (by simp [J6];omega)]
    simp only [cond_true]
    rw [show (4:Int)=((4:Nat):Int) from rfl,B0S _ _ 4 (by omega) (by simp [J6,bytesOf_length];omega)]
    simp only
    rw [A0 (by simp [J6,bytesOf_length];omega),A0 (by simp [J6,bytesOf_length];omega)]
    simp only [cond_true]
    rw [A0 (by simp [J6,bytesOf_length];omega),A0 (by simp [J6,bytesOf_length];omega)]
    simp only [cond_true]
    have e:big (A02 r.1) 3++big (A02 r.2.1) 2 ++ [IntKind.u8.wrap r.2.2.1,IntKind.u8.wrap (r.2.2.2.1.size:Int)]++bytesOf r.2.2.2.1++big (A02 r.2.2.2.2.1) 4 ++ [IntKind.u8.wrap (List.length r.2.2.2.2.2:Int)]++r.2.2.2.2.2=B4y r:=by
      unfold B4y
      rw [D5y,D5y,D5y,A4x (n:=r.2.2.1) (by omega),A4x (n:=(r.2.2.2.1.size:Int)) (by omega),A4x (n:=(List.length r.2.2.2.2.2:Int)) (by omega)]
      simp [List.append_assoc]
    rw [e,C9A _ (C9E r hb) (by rw [hlen];simp only [maxLen];omega)]
    simp only
    rw [B0S _ _ 4 (by omega) (by rw [hlen];omega)]
    rfl
def E1(b:List Int):Nat:=V5 b 6 1
def O2(b:List Int):Nat:=V5 b (11+E1 b) 1
def recAt(b:List Int):H7:=((V5 b 0 3:Int),(V5 b 3 2:Int),(V5 b 5 1:Int),strOf ((b.take (7+E1 b)).drop 7),(V5 b (7+E1 b) 4:Int),(b.take (12+E1 b+O2 b)).drop (12+E1 b))
def E57:H7×Bool×Unit:=((0,0,0,⟨#[]⟩,0,[]),false,())
def B3w(s:ByteArray):Bool:=decide (12+E1 (bytesOf s)+O2 (bytesOf s)≤s.size)&&P1 (recAt (bytesOf s))&&((V8 (recAt (bytesOf s))).toList == s.toList)
def F9(s:ByteArray):H7×Bool×Unit:=if B3w s=true then (recAt (bytesOf s),true,()) else E57
theorem A5r(b:List Int)(a k:Nat)(h:a+k≤b.length):A5p b (a:Int) k=((V5 b a k:Int),true,()):=by
  unfold A5p
  rw [if_pos (by omega),Int.toNat_natCast]
theorem C3s(b:List Int)(a k:Nat)(h:¬ a+k≤b.length):A5p b (a:Int) k=(0,false,()):=by
  unfold A5p
  rw [if_neg (by omega)]
theorem C88{b:List Int}(hb:Byt b)(a:Nat):V5 b a 1<256:=by
  have:=D5w hb a 1
  omega
theorem D4Y(b:List Int)(h:12+E1 b+O2 b≤b.length):(recAt b).2.2.2.1.size=E1 b∧List.length (recAt b).2.2.2.2.2=O2 b:=by
  simp only [recAt,A5q,List.length_drop,List.length_take]
  omega
theorem C3t{b:List Int}(hb:Byt b):Byt (recAt b).2.2.2.2.2:=B25 (A77 hb _) _
theorem A79(s:ByteArray)(hs:s.size≤1048576):K7 s=some (F9 s):=by
  have hbl:=bytesOf_length s
  have hb:=B0T s
  have hh:(bytesOf s).length≤1048576:=by omega
  have hsz:s.size=(bytesOf s).length:=hbl.symm
  simp only [F9,B3w,hsz]
  have hlen:decide ((bytesOf s).length≤9223372036854775807)=true:=A0 (by omega)
  simp only [K7,C0a,hsz,hlen,cond_true]
  clear hlen hsz
  generalize bytesOf s=b at hb hh ⊢
  clear hbl
  have g0:∀ (a:Int) (k:Nat) (k':Int),k' = (k:Int)→1≤k∧k≤7→A5g b a k' = some (A5p b a k):=fun a k k' e hk=>by rw [e];exact D8b b hb hh a k hk
  have q0:=g0 0 3 3 rfl (by omega)
  have q3:=g0 3 2 2 rfl (by omega)
  have q5:=g0 5 1 1 rfl (by omega)
  have q6:=g0 6 1 1 rfl (by omega)
  simp only [q0,q3,q5,q6]
  by_cases c1:7≤b.length
  · have e0:=A5r b 0 3 (by omega)
    have e3:=A5r b 3 2 (by omega)
    have e5:=A5r b 5 1 (by omega)
    have e6:=A5r b 6 1 (by omega)
    simp only [Int.cast_ofNat_Int] at e0 e3 e5 e6
    have hn:=C88 hb 6
    have hN:(V5 b 6 1:Int)=((E1 b:Nat):Int):=rfl
    have hn':E1 b<256:=hn
    simp only [e0,e3,e5,e6,A3,Bool.not_true,cond_false,hN]
    rw [w64 (n:=7+(E1 b:Int)) (by omega) (by omega),w64 (n:=11+(E1 b:Int)) (by omega) (by omega),w64 (n:=12+(E1 b:Int)) (by omega) (by omega)]
    by_cases c2:7+E1 b≤b.length
    · rw [A4 (show ¬ 7+(E1 b:Int)>(b.length:Int) by omega)]
      simp only [cond_false,C2]
      rw [A0 (show 7≤7+(E1 b:Int) by omega),A0 (show 7+(E1 b:Int)≤(b.length:Int) by omega)]
      simp only [cond_true]
      have q7:=g0 (7+(E1 b:Int)) 4 4 rfl (by omega)
      have q11:=g0 (11+(E1 b:Int)) 1 1 rfl (by omega)
      simp only [q7,q11]
      by_cases c3:12+E1 b≤b.length
      · have e7:=A5r b (7+E1 b) 4 (by omega)
        have e11:=A5r b (11+E1 b) 1 (by omega)
        simp only [Int.natCast_add,Int.cast_ofNat_Int] at e7 e11
        have hm:O2 b<256:=C88 hb _
        have hM:(V5 b (11+E1 b) 1:Int)=((O2 b:Nat):Int):=rfl
        simp only [e7,e11,Bool.not_true,cond_false,hM]
        rw [w64 (n:=12+(E1 b:Int)+(O2 b:Int)) (by omega) (by omega)]
        by_cases c4:12+E1 b+O2 b≤b.length
        · rw [A4 (show ¬ 12+(E1 b:Int)+(O2 b:Int)>(b.length:Int) by omega),A0 (show 0≤12+(E1 b:Int) by omega),A0 (show 12+(E1 b:Int)≤12+(E1 b:Int)+(O2 b:Int) by omega),A0 (show 12+(E1 b:Int)+(O2 b:Int)≤(b.length:Int) by omega)]
          simp only [cond_true,cond_false]
          rw [A0 (by simp;omega),A0 (by simp;omega)]
          have t1:(7+(E1 b:Int)).toNat=7+E1 b:=by omega
          have t2:(12+(E1 b:Int)+(O2 b:Int)).toNat=12+E1 b+O2 b:=by omega
          have t3:(12+(E1 b:Int)).toNat=12+E1 b:=by omega
          simp only [cond_true,List.nil_append,t1,t2,t3]
          have hr:(((V5 b 0 3:Nat):Int),((V5 b 3 2:Nat):Int),((V5 b 5 1:Nat):Int),strOf ((b.take (7+E1 b)).drop 7),((V5 b (7+E1 b) 4:Nat):Int),(b.take (12+E1 b+O2 b)).drop (12+E1 b))=recAt b:=rfl
          obtain ⟨l1,l2⟩:=D4Y b c4
          rw [hr,E2U _ (by rw [l1];simp only [maxLen];omega),C4y _ (by rw [l1];omega) (by rw [l2];omega) (C3t hb)]
          rw [A0 c4]
          simp only [Bool.true_and]
          cases P1 (recAt b)
          · rfl
          · cases hp:((V8 (recAt b)).toList == s.toList)
            · rfl
            · rfl
        · rw [A0 (show 12+(E1 b:Int)+(O2 b:Int)>(b.length:Int) by omega),A4 c4]
          rfl
      · have e11:=C3s b (11+E1 b) 1 (by omega)
        simp only [Int.natCast_add,Int.cast_ofNat_Int] at e11
        simp only [e11]
        rw [A4 (show ¬ 12+E1 b+O2 b≤b.length by omega)]
        cases (A5p b (7+(E1 b:Int)) 4).2.1<;>rfl
    · rw [A0 (show 7+(E1 b:Int)>(b.length:Int) by omega),A4 (show ¬ 12+E1 b+O2 b≤b.length by omega)]
      rfl
  · have e6:=C3s b 6 1 (by omega)
    simp only [Int.cast_ofNat_Int] at e6
    rw [A4 (show ¬ 12+E1 b+O2 b≤b.length by omega)]
    simp only [e6,A3]
    cases (A5p b 0 3).2.1<;>cases (A5p b 3 2).2.1<;>cases (A5p b 5 1).2.1<;>rfl
theorem A0c{b:List Int}(hb:Byt b)(hh:b.length≤1048576)(a k:Nat)(k':Int)(e:k' = (k:Int))(hk:1≤k∧k≤7)(h:a+k≤b.length):E0 (b,(a:Int),false) k' = some ((V5 b a k:Int),(b,((a+k:Nat):Int),false),()):=by
  subst e
  simp only [E0,P6,B6G b hb hh _ k hk,A5r b a k h,A3,C2,Bool.not_true,cond_false]
  rw [w64 (by omega) (by omega)]
  rfl
theorem A8N{b:List Int}(hb:Byt b)(hh:b.length≤1048576)(a k:Nat)(k':Int)(e:k' = (k:Int))(hk:1≤k∧k≤7)(h:¬ a+k≤b.length):E0 (b,(a:Int),false) k' = some (0,(b,(a:Int),true),()):=by
  subst e
  simp only [E0,P6,B6G b hb hh _ k hk,C3s b a k h,A3,C2,Bool.not_false,cond_false,cond_true]
theorem F0K{b:List Int}(hb:Byt b)(hh:b.length≤1048576)(a:Int)(k:Nat)(k':Int)(e:k' = (k:Int))(hk:1≤k∧k≤7):E0 (b,a,true) k' = some (0,(b,a,true),()):=by
  subst e
  simp only [E0,P6,B6G b hb hh _ k hk,A3,C2,cond_true]
theorem E8l(b:List Int)(a n:Int):H5 (b,a,true) n=some ([],(b,a,true),()):=by
  simp only [H5,S4,cond_true,C2]
theorem C3u{b:List Int}(hh:b.length≤1048576)(a n:Nat)(h:a+n≤b.length):H5 (b,(a:Int),false) (n:Int)=some ((b.take (a+n)).drop a,(b,((a+n:Nat):Int),false),()):=by
  simp only [H5,S4,cond_false]
  rw [w64 (n:=(b.length:Int)-(a:Int)) (by omega) (by omega),A4 (by omega),w64 (n:=(a:Int)+(n:Int)) (by omega) (by omega),w64 (n:=(a:Int)+(n:Int)-(n:Int)) (by omega) (by omega)]
  simp only [cond_false,C2]
  rw [A0 (by omega),A0 (by omega),A0 (by omega)]
  simp only [cond_true]
  rw [A2W _ (by simp;omega),show ((a:Int)+(n:Int)).toNat=a+n by omega,show ((a:Int)+(n:Int)-(n:Int)).toNat=a by omega]
  rfl
theorem C9F{b:List Int}(hh:b.length≤1048576)(a n:Nat)(ha:a≤b.length)(h:¬ a+n≤b.length):H5 (b,(a:Int),false) (n:Int)=some ([],(b,(a:Int),true),()):=by
  simp only [H5,S4,cond_false]
  rw [w64 (n:=(b.length:Int)-(a:Int)) (by omega) (by omega),A0 (by omega)]
  rfl
theorem B6I(s:ByteArray)(hs:s.size≤1048576):A0I s=some (F9 s):=by
  have hbl:=bytesOf_length s
  have hb:=B0T s
  have hh:(bytesOf s).length≤1048576:=by omega
  have hsz:s.size=(bytesOf s).length:=hbl.symm
  simp only [F9,B3w,hsz]
  have hlen:decide ((bytesOf s).length≤9223372036854775807)=true:=A0 (by omega)
  simp only [A0I,C0E,hsz,hlen,cond_true]
  clear hlen hsz
  generalize bytesOf s=b at hb hh ⊢
  clear hbl
  have nb:∀ (a:Int) (k:Nat) (k':Int),k' = (k:Int)→1≤k∧k≤7→E0 (b,a,true) k' = some (0,(b,a,true),()):=fun a k k' e hk=>F0K hb hh a k k' e hk
  have nb1:∀ a:Int,E0 (b,a,true) 1=some (0,(b,a,true),()):=fun a=>nb a 1 1 rfl (by omega)
  have nb2:∀ a:Int,E0 (b,a,true) 2=some (0,(b,a,true),()):=fun a=>nb a 2 2 rfl (by omega)
  have nb4:∀ a:Int,E0 (b,a,true) 4=some (0,(b,a,true),()):=fun a=>nb a 4 4 rfl (by omega)
  have tb:=E8l b
  have z0:((0:Int),false)=(((0:Nat):Int),false):=rfl
  rw [z0]
  by_cases c4:12+E1 b+O2 b≤b.length
  · have hn':E1 b<256:=C88 hb _
    have hm':O2 b<256:=C88 hb _
    have hN:(V5 b 6 1:Int)=((E1 b:Nat):Int):=rfl
    have hM:(V5 b (11+E1 b) 1:Int)=((O2 b:Nat):Int):=rfl
    rw [A0c hb hh 0 3 3 rfl (by omega) (by omega)]
    simp only [A3]
    rw [A0c hb hh (0+3) 2 2 rfl (by omega) (by omega)]
    simp only
    rw [A0c hb hh (0+3+2) 1 1 rfl (by omega) (by omega)]
    simp only
    rw [A0c hb hh (0+3+2+1) 1 1 rfl (by omega) (by omega)]
    simp only [Nat.zero_add,Nat.reduceAdd,hN]
    rw [C3u hh 7 (E1 b) (by omega)]
    simp only
    rw [A0c hb hh (7+E1 b) 4 4 rfl (by omega) (by omega)]
    simp only
    rw [A0c hb hh (7+E1 b+4) 1 1 rfl (by omega) (by omega)]
    simp only
    rw [show 7+E1 b+4=11+E1 b by omega,hM,show 11+E1 b+1=12+E1 b by omega,C3u hh (12+E1 b) (O2 b) (by omega)]
    simp only [cond_false]
    have hr:(((V5 b 0 3:Nat):Int),((V5 b 3 2:Nat):Int),((V5 b 5 1:Nat):Int),strOf ((b.take (7+E1 b)).drop 7),((V5 b (7+E1 b) 4:Nat):Int),(b.take (12+E1 b+O2 b)).drop (12+E1 b))=recAt b:=rfl
    obtain ⟨l1,l2⟩:=D4Y b c4
    rw [hr,C9D _ (by rw [l1];simp only [maxLen];omega),C4z _ (by rw [l1];simp only [maxLen];omega) (C3t hb)]
    rw [A0 c4]
    simp only [Bool.true_and]
    cases P1 (recAt b)
    · rfl
    · cases hp:((V8 (recAt b)).toList == s.toList)
      · simp [hp];rfl
      · simp [hp]
  · rw [A4 c4]
    have fin:(if (false&&P1 (recAt b)&&((V8 (recAt b)).toList == s.toList))=true then (recAt b,true,()) else E57)=E57:=by simp
    rw [fin]
    rcases Nat.lt_or_ge b.length (0+3) with d3 | d3
    · rw [A8N hb hh 0 3 3 rfl (by omega) (by omega)]
      simp only [A3,nb1,nb2,nb4,tb]
      rfl
    rw [A0c hb hh 0 3 3 rfl (by omega) d3]
    simp only [A3]
    rcases Nat.lt_or_ge b.length (0+3+2) with d5 | d5
    · rw [A8N hb hh (0+3) 2 2 rfl (by omega) (by omega)]
      simp only [nb1,nb2,nb4,tb]
      rfl
    rw [A0c hb hh (0+3) 2 2 rfl (by omega) d5]
    simp only
    rcases Nat.lt_or_ge b.length (0+3+2+1) with d6 | d6
    · rw [A8N hb hh (0+3+2) 1 1 rfl (by omega) (by omega)]
      simp only [nb1,nb2,nb4,tb]
      rfl
    rw [A0c hb hh (0+3+2) 1 1 rfl (by omega) d6]
    simp only
    rcases Nat.lt_or_ge b.length (0+3+2+1+1) with d7 | d7
    · rw [A8N hb hh (0+3+2+1) 1 1 rfl (by omega) (by omega)]
      simp only [nb1,nb2,nb4,tb]
      rfl
    rw [A0c hb hh (0+3+2+1) 1 1 rfl (by omega) d7]
    have hN:(V5 b 6 1:Int)=((E1 b:Nat):Int):=rfl
    have hM:(V5 b (11+E1 b) 1:Int)=((O2 b:Nat):Int):=rfl
    simp only [Nat.zero_add,Nat.reduceAdd,hN]
    rcases Nat.lt_or_ge b.length (7+E1 b) with e7 | e7
    · rw [C9F hh 7 (E1 b) (by omega) (by omega)]
      simp only [nb1,nb2,nb4,tb]
      rfl
    rw [C3u hh 7 (E1 b) e7]
    simp only
    rcases Nat.lt_or_ge b.length (7+E1 b+4) with e11 | e11
    · rw [A8N hb hh (7+E1 b) 4 4 rfl (by omega) (by omega)]
      simp only [nb1,nb2,nb4,tb]
      rfl
    rw [A0c hb hh (7+E1 b) 4 4 rfl (by omega) e11]
    simp only
    rcases Nat.lt_or_ge b.length (7+E1 b+4+1) with e12 | e12
    · rw [A8N hb hh (7+E1 b+4) 1 1 rfl (by omega) (by omega)]
      simp only [nb1,nb2,nb4,tb]
      rfl
    rw [A0c hb hh (7+E1 b+4) 1 1 rfl (by omega) e12]
    simp only
    rw [show 7+E1 b+4=11+E1 b by omega,hM,show 11+E1 b+1=12+E1 b by omega,C9F hh (12+E1 b) (O2 b) (by omega) c4]
    rfl
theorem A8O:∀ x:List UInt8,Op.bytesLess x x=false
  | []=>rfl
  | a::x=>by
    have h:¬ a<a:=UInt8.lt_irrefl a
    simp [Op.bytesLess,A8O x,h]
theorem C1Z:∀ {x y z:List UInt8},Op.bytesLess x y=true→Op.bytesLess y z=true→Op.bytesLess x z=true
  | _,[],_,h,_=>by cases ‹List UInt8›<;>simp [Op.bytesLess] at h
  | _,_::_,[],_,h=>by simp [Op.bytesLess] at h
  | [],_::_,_::_,_,_=>rfl
  | a::x,b::y,c::z,h1,h2=>by
    simp only [Op.bytesLess,Bool.or_eq_true,Bool.and_eq_true,decide_eq_true_eq,beq_iff_eq] at h1 h2 ⊢
    rcases h1 with h1 | ⟨rfl,h1⟩
    · rcases h2 with h2 | ⟨rfl,h2⟩
      · exact .inl (UInt8.lt_trans h1 h2)
      · exact .inl h1
    · rcases h2 with h2 | ⟨rfl,h2⟩
      · exact .inl h2
      · exact .inr ⟨rfl,C1Z h1 h2⟩
theorem D8d:∀ {x y:List UInt8},Op.bytesLess x y=false→Op.bytesLess y x=false→x=y
  | [],[],_,_=>rfl
  | [],_::_,h,_=>by simp [Op.bytesLess] at h
  | _::_,[],_,h=>by simp [Op.bytesLess] at h
  | a::x,b::y,h1,h2=>by
    simp only [Op.bytesLess,Bool.or_eq_false_iff,decide_eq_false_iff_not,Bool.and_eq_false_iff,beq_eq_false_iff_ne] at h1 h2
    have hab:a=b:=by
      apply UInt8.le_antisymm
      · exact UInt8.not_lt.1 h2.1
      · exact UInt8.not_lt.1 h1.1
    subst hab
    exact congrArg (a::·) (D8d (by simpa using h1.2) (by simpa using h2.2))
theorem E8m{x y:List UInt8}(h:Op.bytesLess x y=true):Op.bytesLess y x=false:=by
  cases e:Op.bytesLess y x with
  | false=>rfl
  | true=>have:=C1Z h e;rw [A8O] at this;cases this
def Ord(us:List TUp):Prop:=us.Pairwise fun a b=>Op.bytesLess a.1.toList b.1.toList=true
theorem D5z{us:List TUp}(h:Ord us){i j:Nat}(hij:i<j)(hj:j<us.length):Op.bytesLess (us[i]'(by omega)).1.toList us[j].1.toList=true:=List.pairwise_iff_getElem.1 h i j (by omega) hj hij
def B5(us:List TUp)(id:ByteArray):Nat:=O9 (fun i=>Op.bytesLess (rd kUp us (i:Int)).1.toList id.toList) 0 us.length
def I3(us:List TUp)(id:ByteArray):Bool:=decide (B5 us id<us.length)&&((rd kUp us (B5 us id:Int)).1.toList == id.toList)
theorem B0U(go:Nat→Bool):∀ k i j,i≤j→j<O9 go i k→go j=true
  | 0,i,j,h1,h2=>by simp only [O9] at h2;omega
  | k+1,i,j,h1,h2=>by
    simp only [O9] at h2
    split at h2
    · rename_i hg
      by_cases e:j=i
      · rw [e];exact hg
      · exact B0U go k (i+1) j (by omega) h2
    · omega
theorem B0V(go:Nat→Bool)(n p:Nat)(hp:p≤n)(h1:∀ j,j<p→go j=true)(h2:p<n→go p=false):O9 go 0 n=p:=by
  have hl:=C3p go n 0
  rcases Nat.lt_trichotomy (O9 go 0 n) p with h | h | h
  · have:=B3u go n 0 (by omega)
    rw [h1 _ h] at this;cases this
  · exact h
  · have:=B0U go n 0 p (by omega) h
    rw [h2 (by omega)] at this;cases this
theorem A7A(us:List TUp)(id:ByteArray):B5 us id≤us.length:=by have:=C3p (fun i=>Op.bytesLess (rd kUp us (i:Int)).1.toList id.toList) us.length 0;unfold B5;omega
theorem B6J{us:List TUp}{id:ByteArray}{j:Nat}(hj:j<B5 us id):Op.bytesLess (us[j]'(by have:=A7A us id;omega)).1.toList id.toList=true:=by
  have:=B0U _ us.length 0 j (by omega) hj
  rwa [C4 (k:=kUp) (xs:=us) (by have:=A7A us id;omega)] at this
theorem C1a{us:List TUp}{id:ByteArray}(h:B5 us id<us.length):Op.bytesLess us[B5 us id].1.toList id.toList=false:=by
  have:=B3u (fun i=>Op.bytesLess (rd kUp us (i:Int)).1.toList id.toList) us.length 0 (by unfold B5 at h;omega)
  have h2:Op.bytesLess (rd kUp us (B5 us id:Int)).1.toList id.toList=false:=this
  rwa [C4 (k:=kUp) (xs:=us) h] at h2
theorem E8n{us:List TUp}(ho:Ord us){id:ByteArray}{j:Nat}(hj:B5 us id≤j)(hl:j<us.length):Op.bytesLess us[j].1.toList id.toList=false:=by
  rcases Nat.eq_or_lt_of_le hj with e | h
  · subst e;exact C1a hl
  · cases e:Op.bytesLess us[j].1.toList id.toList with
    | false=>rfl
    | true=>
      have:=C1Z (D5z ho h hl) e
      rw [C1a (by omega)] at this
      cases this
theorem L1{us:List TUp}{id:ByteArray}:I3 us id=true↔∃ h:B5 us id<us.length,us[B5 us id].1.toList=id.toList:=by
  unfold I3
  constructor
  · intro h
    simp only [Bool.and_eq_true,decide_eq_true_eq,beq_iff_eq] at h
    refine ⟨h.1,?_⟩
    have h2:=h.2
    rwa [C4 (k:=kUp) (xs:=us) h.1] at h2
  · rintro ⟨h,e⟩
    simp only [Bool.and_eq_true,decide_eq_true_eq,beq_iff_eq]
    refine ⟨h,?_⟩
    rw [C4 (k:=kUp) (xs:=us) h]
    exact e
theorem C1b{us:List TUp}(ho:Ord us){id:ByteArray}(hn:I3 us id=false){j:Nat}(hj:B5 us id≤j)(hl:j<us.length):Op.bytesLess id.toList us[j].1.toList=true:=by
  cases e:Op.bytesLess id.toList us[j].1.toList with
  | true=>rfl
  | false=>
    have h1:=D8d (E8n ho hj hl) e
    exfalso
    rcases Nat.eq_or_lt_of_le hj with e2 | h
    · subst e2
      have:=L1.2 ⟨hl,h1⟩
      rw [hn] at this;cases this
    · have h2:=D5z ho h hl
      rw [h1,C1a (by omega)] at h2
      cases h2
theorem C9G{us:List TUp}(ho:Ord us){id:ByteArray}(h:I3 us id=true):E6K us id=B5 us id:=by
  obtain ⟨hl,e⟩:=L1.1 h
  refine B0V _ us.length _ (A7A us id) (fun j hj=>?_) (fun _=>?_)
  · rw [C4 (k:=kUp) (xs:=us) (by omega)]
    have h1:=B6J hj
    cases e2:((us[j]'(by omega)).1.toList == id.toList) with
    | false=>rfl
    | true=>
      rw [eq_of_beq e2,A8O] at h1
      cases h1
  · rw [C4 (k:=kUp) (xs:=us) hl,e]
    simp
theorem C9H{us:List TUp}(ho:Ord us){id:ByteArray}(h:I3 us id=false):E6K us id=us.length:=by
  refine B0V _ us.length _ (Nat.le_refl _) (fun j hj=>?_) (fun h=>by omega)
  rw [C4 (k:=kUp) (xs:=us) hj]
  cases e2:(us[j].1.toList == id.toList) with
  | false=>rfl
  | true=>
    exfalso
    have e3:=eq_of_beq e2
    by_cases hp:j<B5 us id
    · have h1:=B6J hp
      rw [e3,A8O] at h1
      cases h1
    · have h1:=C1b ho h (show B5 us id≤j by omega) hj
      rw [e3,A8O] at h1
      cases h1
theorem D4Z(us:List TUp)(id:ByteArray)(h:us.length≤maxLen):A1G us id=some ((B5 us id:Int),I3 us id,()):=by
  simp only [A1G,C1N]
  have e:=A3o (A8d us id) (fun i=>((i:Int),())) us.length (fun i=>((i:Int),())) (fun i=>Op.bytesLess (rd kUp us (i:Int)).1.toList id.toList) (fun i hi=>?_) ?_
  · have e':B6 (A8d us id) (0,())=some ((B5 us id:Int),()):=e
    rw [e']
    simp only [A3]
    have hle:=A7A us id
    unfold I3
    by_cases hl:B5 us id<us.length
    · rw [A0 (show (B5 us id:Int)<(us.length:Int) by omega),A0 (show (0:Int)≤(B5 us id:Int) by omega),A0 hl]
      simp
    · rw [A4 (show ¬ (B5 us id:Int)<(us.length:Int) by omega),A4 hl]
      simp
  · have h1:((i:Int)<(us.length:Int)):=by omega
    have h2:(0:Int)≤(i:Int):=by omega
    simp only [A8d,A0 h1,A0 h2,cond_true]
    rw [w64 (by omega) (by simp only [maxLen] at h;omega)]
    cases Op.bytesLess (rd kUp us (i:Int)).1.toList id.toList<;>simp
  · simp [A8d]
theorem C0i(us:List TUp)(h:us.length≤1048576)(hd:∀ u∈us,List.length u.2.2.1≤2000000000):K8 us=some (us,()):=by
  simp only [K8,A4e]
  have key:=D8 (A23 us) (fun i=>((i:Int),us.take i,())) us.length (us,()) (fun i hi=>?_) ?_
  · simpa using key
  · have h1:((i:Int)<(us.length:Int)):=by omega
    have h2:(0:Int)≤(i:Int):=by omega
    have hu:List.length (rd kUp us (i:Int)).2.2.1≤2000000000:=by
      rw [C4 (k:=kUp) (xs:=us) hi]
      exact hd _ (List.getElem_mem hi)
    have e:((rd kUp us (i:Int)).1,(rd kUp us (i:Int)).2.1,[]++(rd kUp us (i:Int)).2.2.1,(rd kUp us (i:Int)).2.2.2)=us[i]:=by
      rw [C4 (k:=kUp) (xs:=us) hi]
      rfl
    simp only [A23,A0 h1,A0 h2,cond_true,e]
    rw [A0 (by simp;omega),A0 (by simp;omega),A0 (by simp;omega),A0 (by simp;omega),w64 (by omega) (by omega)]
    simp only [cond_true]
    rw [List.take_succ_eq_append_getElem hi]
    rfl
  · simp [A23]
theorem E2V(us:List TUp)(u:TUp)(ho:Ord us)(h:us.length≤1048576)(hd:∀ u∈us,List.length u.2.2.1≤2000000000) :
    ∃ k,k≤us.length∧N2 us u=some (us.take k++u::us.drop k,())∧(I3 us u.1=false→k=B5 us u.1):=by
  simp only [N2,Z6,C0i us h hd,A3]
  rw [A0 (by simp;omega),A0 (by simp;omega)]
  simp only [cond_true]
  have hst:IntKind.i64.wrap (((us ++ [u]).length:Int)-1)=(us.length:Int):=by
    rw [w64 (by simp only [List.length_append,List.length_singleton];omega) (by simp only [List.length_append,List.length_singleton];omega)]
    simp
  rw [hst]
  obtain ⟨z,e,k,hz1,hz2,hz3⟩:=A01 (V7 u) (fun l=>l.1.toNat)
    (fun l=>∃ (k:Nat) (c:TUp),l.1=(k:Int)∧k≤us.length∧l.2.1=us.take k++c::us.drop k∧(I3 us u.1=false→B5 us u.1≤k))
    (fun z=>∃ k:Nat,k≤us.length∧(I3 us u.1=false→k=B5 us u.1)∧∃ c,z=((k:Int),us.take k++c::us.drop k,())) (fun l hl=>by
      obtain ⟨l1,l2,l3⟩:=l
      obtain ⟨k,c,h1,h2,h3,h4⟩:=hl
      simp only at h1 h3
      subst h1;subst h3
      simp only [V7]
      by_cases hk:k=0
      · subst hk
        refine .inr ⟨_,by rw [A4 (by omega)];rfl,0,by omega,fun q=>?_,c,rfl⟩
        have:=h4 q;omega
      · obtain ⟨k,rfl⟩:∃ k',k=k'+1:=⟨k-1,by omega⟩
        have hlen:(us.take (k+1)++c::us.drop (k+1)).length=us.length+1:=by simp;omega
        have ew:IntKind.i64.wrap (((k+1:Nat):Int)-1)=(k:Int):=by rw [w64 (by omega) (by omega)];omega
        have hget:rd (.pair .str (.pair (.int .i64) (.pair (.rs 5 (.int .u8)) .bool))) (us.take (k+1)++c::us.drop (k+1)) (k:Int)=us[k]'(by omega):=by
          rw [C4 (k:=.pair .str (.pair (.int .i64) (.pair (.rs 5 (.int .u8)) .bool))) (xs:=us.take (k+1)++c::us.drop (k+1)) (by rw [hlen];omega)]
          rw [List.getElem_append_left (by simp;omega),List.getElem_take]
        rw [A0 (show ((k+1:Nat):Int)>0 by omega),ew,hlen,A0 (show (0:Int)≤(k:Int) by omega),A0 (show (k:Int)<((us.length+1:Nat):Int) by omega),hget]
        simp only [cond_true]
        have hlen2:(k:Int)+1=((k+1:Nat):Int):=by omega
        cases hc:(!(Op.bytesLess (us[k]'(by omega)).1.toList u.1.toList||((us[k]'(by omega)).1.toList == u.1.toList))) with
        | false=>
          refine Or.inr ⟨(((k+1:Nat):Int),us.take (k+1)++c::us.drop (k+1),()),rfl,k+1,h2,fun q=>?_,c,rfl⟩
          have h5:=h4 q
          by_cases hkp:B5 us u.1≤k
          · have h6:=C1b ho q hkp (by omega)
            simp only [Bool.not_eq_false',Bool.or_eq_true,beq_iff_eq] at hc
            rcases hc with hc | hc
            · rw [E8m h6] at hc;cases hc
            · rw [hc,A8O] at h6;cases h6
          · omega
        | true=>
          refine Or.inl ⟨((k:Int),us.take k++(us[k]'(by omega))::us.drop k,()),?_,⟨k,us[k]'(by omega),rfl,by omega,rfl,fun q=>?_⟩,by simp only;omega⟩
          · simp only [cond_true,C2]
            rw [A0 (show (0:Int)≤((k+1:Nat):Int) by omega),A0 (show ((k+1:Nat):Int)<((us.length+1:Nat):Int) by omega)]
            simp only [cond_true,A3,Int.toNat_natCast]
            have e1:(us.take (k+1)++c::us.drop (k+1)).set (k+1) (us[k]'(by omega))=us.take k++(us[k]'(by omega))::us.drop k:=by
              rw [List.set_append_right _ _ (by simp;omega)]
              rw [show (us.take (k+1)).length=k+1 by simp;omega,Nat.sub_self,List.set_cons_zero,List.take_succ_eq_append_getElem (by omega),List.append_assoc,List.drop_eq_getElem_cons (i:=k) (by omega)]
              rfl
            rw [e1]
          · have h5:=h4 q
            by_cases hkp:k<B5 us u.1
            · have h6:=B6J hkp
              rw [h6] at hc
              simp at hc
            · omega) ((us.length:Int),us ++ [u],()) ⟨us.length,u,rfl,Nat.le_refl _,by simp,fun _=>A7A us u.1⟩
  obtain ⟨c,rfl⟩:=hz3
  rw [e]
  simp only
  have hlen:(us.take k++c::us.drop k).length=us.length+1:=by simp;omega
  rw [A0 (by omega),A0 (by rw [hlen];omega)]
  simp only [cond_true,Int.toNat_natCast]
  refine ⟨k,hz1,?_,hz2⟩
  rw [List.set_append_right _ _ (by simp;omega),show (us.take k).length=k by simp;omega,Nat.sub_self,List.set_cons_zero]
def C0j(r:H7):Prop:=P1 r=true∧Byt r.2.2.2.2.2
def UpG(u:TUp):Prop:=(List.length u.2.2.1:Int)≤u.2.1∧u.2.1≤1000000000∧u.1.size≤8∧Byt u.2.2.1
def Ups(us:List TUp):Prop:=Ord us∧us.length≤10∧∀ u∈us,UpG u
theorem B0W:Ups []:=⟨List.Pairwise.nil,by simp,fun u hu=>by cases hu⟩
theorem B3x{us:List TUp}(h:Ups us):∀ u∈us,List.length u.2.2.1≤2000000000:=fun u hu=>by have h1:=(h.2.2 u hu).1;have h2:=(h.2.2 u hu).2.1;omega
def N6(us:List TUp)(r:H7):Option (List TUp):=
  let p:=B5 us r.2.2.2.1
  let u:=rd kUp us (p:Int)
  if r.2.2.1=1 then (if I3 us r.2.2.2.1=true∨10≤us.length then none else some (us.take p++(r.2.2.2.1,r.2.2.2.2.1,[],false)::us.drop p))
  else if I3 us r.2.2.2.1=false then none
  else if r.2.2.1=2 then (if u.2.2.2=true∨r.2.2.2.2.1≠(List.length u.2.2.1:Int)∨(List.length u.2.2.1:Int)+(List.length r.2.2.2.2.2:Int)>u.2.1 then none else some (us.set p (u.1,u.2.1,u.2.2.1++r.2.2.2.2.2,u.2.2.2)))
  else if r.2.2.1=3 then (if u.2.2.2=true∨(List.length u.2.2.1:Int)≠u.2.1 then none else some (us.set p (u.1,u.2.1,u.2.2.1,true)))
  else if r.2.2.1=4 then some (us.take p++us.drop (p+1))
  else none
def B4M(us:List TUp)(r:H7):List TUp×Bool×Unit:=match N6 us r with
  | some us'=>(us',true,())
  | none=>([],false,())
theorem D4a(us:List TUp)(r:H7)(h:Ups us)(h2:List.length r.2.2.2.2.2≤1048576):A6k us r=some (B4M us r):=by
  have hl:=h.2.1
  have hp:=A7A us r.2.2.2.1
  simp only [A6k,C8s,D4Z us _ (show us.length≤maxLen by simp only [maxLen];omega),A3,B4M,N6]
  by_cases k1:r.2.2.1=1
  · rw [A0 k1,if_pos k1]
    simp only [cond_true]
    cases hh:I3 us r.2.2.2.1 with
    | true=>simp [C2]
    | false=>
      by_cases h10:10≤us.length
      · rw [A0 (show (us.length:Int)≥10 by omega),if_pos (.inr h10)]
        rfl
      · rw [A4 (show ¬ (us.length:Int)≥10 by omega),if_neg (by simp;omega)]
        simp only [cond_false,C2,K0,E53]
        rw [A0 (by omega),A0 (by omega),A0 (by simp),A0 (by simp;omega)]
        simp [A3]
  rw [A4 k1,if_neg k1]
  simp only [cond_false]
  cases hh:I3 us r.2.2.2.1 with
  | false=>simp
  | true=>
    obtain ⟨hlt,hid⟩:=L1.1 hh
    have hu:(List.length us[B5 us r.2.2.2.1].2.2.1:Int)≤us[B5 us r.2.2.2.1].2.1∧us[B5 us r.2.2.2.1].2.1≤1000000000:=⟨(h.2.2 _ (List.getElem_mem hlt)).1,(h.2.2 _ (List.getElem_mem hlt)).2.1⟩
    have hrd:rd kUp us (B5 us r.2.2.2.1:Int)=us[B5 us r.2.2.2.1]:=C4 (k:=kUp) (xs:=us) hlt
    simp only [Bool.not_true,cond_false,Bool.true_eq_false,if_false]
    rw [A0 (by omega),A0 (by omega)]
    simp only [cond_true,Int.toNat_natCast,hrd]
    generalize us[B5 us r.2.2.2.1]=u at hu hid ⊢
    by_cases k2:r.2.2.1=2
    · rw [A0 k2,if_pos k2]
      simp only [cond_true]
      cases hd:u.2.2.2 with
      | true=>simp [C2]
      | false=>
        by_cases hn:r.2.2.2.2.1=(List.length u.2.2.1:Int)
        · rw [A0 hn,w64 (by omega) (by omega)]
          by_cases hw:(List.length u.2.2.1:Int)+(List.length r.2.2.2.2.2:Int)>u.2.1
          · rw [A0 hw,if_pos (.inr (.inr hw))]
            rfl
          · rw [A4 hw,if_neg (by simp [hn];omega)]
            simp only [Bool.not_true,cond_false,C2]
            rw [A0 (by omega),A0 (by omega)]
            rfl
        · rw [A4 hn,if_pos (.inr (.inl hn))]
          rfl
    rw [A4 k2,if_neg k2]
    by_cases k3:r.2.2.1=3
    · rw [A0 k3,if_pos k3]
      simp only [cond_true,cond_false]
      cases hd:u.2.2.2 with
      | true=>simp
      | false=>
        by_cases hn:(List.length u.2.2.1:Int)=u.2.1
        · rw [A0 hn,if_neg (by simp [hn])]
          rfl
        · rw [A4 hn,if_pos (.inr hn)]
          rfl
    rw [A4 k3,if_neg k3]
    by_cases k4:r.2.2.1=4
    · rw [A0 k4,if_pos k4,w64 (n:=(B5 us r.2.2.2.1:Int)+1) (by omega) (by omega)]
      simp only [cond_true,cond_false,K2,B4I]
      rw [A0 (by omega),A0 (by omega),A0 (by omega)]
      simp only [cond_true,Int.toNat_natCast]
      rw [show ((B5 us r.2.2.2.1:Int)+1).toNat=B5 us r.2.2.2.1+1 by omega]
    rw [A4 k4,if_neg k4]
    rfl
theorem D8e(us:List TUp)(r:H7)(h:Ups us)(h2:List.length r.2.2.2.2.2≤1048576):∃ x,N3 us r=some (x,(B4M us r).2.1,())∧((B4M us r).2.1=true→x=(B4M us r).1):=by
  have hl:=h.2.1
  have hp:=A7A us r.2.2.2.1
  have hat:=D8Y us r.2.2.2.1 (show us.length≤maxLen by simp only [maxLen];omega)
  have hcp:=C0i us (by omega) (B3x h)
  obtain ⟨k,hk,hmk,hmk2⟩:=E2V us (r.2.2.2.1,r.2.2.2.2.1,[],false) h.1 (by omega) (B3x h)
  simp only [N3,A5i,hat,hcp,hmk,A3,B4M,N6]
  by_cases k1:r.2.2.1=1
  · rw [A0 k1,if_pos k1]
    simp only [cond_true]
    cases hh:I3 us r.2.2.2.1 with
    | true=>
      obtain ⟨hlt,hid⟩:=L1.1 hh
      rw [C9G h.1 hh,if_pos hlt,A4 (by omega)]
      simp
    | false=>
      have hk2:=hmk2 hh
      simp only at hk2
      rw [C9H h.1 hh,if_neg (Nat.lt_irrefl _),A0 (by omega)]
      simp only [cond_true]
      by_cases h10:10≤us.length
      · rw [A4 (by omega),if_pos (.inr h10)]
        simp
      · rw [A0 (by omega),if_neg (by simp;omega),hk2]
        simp
  rw [A4 k1,if_neg k1]
  simp only [cond_false]
  cases hh:I3 us r.2.2.2.1 with
  | false=>
    rw [C9H h.1 hh,if_neg (Nat.lt_irrefl _),A0 (by omega)]
    simp
  | true=>
    obtain ⟨hlt,hid⟩:=L1.1 hh
    have hu:(List.length us[B5 us r.2.2.2.1].2.2.1:Int)≤us[B5 us r.2.2.2.1].2.1∧us[B5 us r.2.2.2.1].2.1≤1000000000:=⟨(h.2.2 _ (List.getElem_mem hlt)).1,(h.2.2 _ (List.getElem_mem hlt)).2.1⟩
    have hrd:rd kUp us (B5 us r.2.2.2.1:Int)=us[B5 us r.2.2.2.1]:=C4 (k:=kUp) (xs:=us) hlt
    rw [C9G h.1 hh,if_pos hlt,A4 (by omega)]
    simp only [cond_false,Bool.true_eq_false,if_false]
    rw [A0 (by omega),A0 (by omega)]
    simp only [cond_true,Int.toNat_natCast,hrd]
    generalize us[B5 us r.2.2.2.1]=u at hu hid ⊢
    by_cases k2:r.2.2.1=2
    · rw [A0 k2,if_pos k2]
      simp only [cond_true]
      cases hd:u.2.2.2 with
      | true=>simp [C2]
      | false=>
        by_cases hn:r.2.2.2.2.1=(List.length u.2.2.1:Int)
        · rw [A0 hn,hn,w64 (by omega) (by omega)]
          by_cases hw:(List.length u.2.2.1:Int)+(List.length r.2.2.2.2.2:Int)>u.2.1
          · rw [A0 hw,if_pos (.inr (.inr hw))]
            exact ⟨_,rfl,fun e=>by cases e⟩
          · rw [A4 hw,if_neg (by simp;omega)]
            simp only [Bool.not_true,cond_false,C2]
            rw [A0 (by omega),A0 (by omega)]
            exact ⟨_,rfl,fun _=>rfl⟩
        · rw [A4 hn,if_pos (.inr (.inl hn))]
          exact ⟨_,rfl,fun e=>by cases e⟩
    rw [A4 k2,if_neg k2]
    by_cases k3:r.2.2.1=3
    · rw [A0 k3,if_pos k3]
      simp only [cond_true,cond_false]
      cases hd:u.2.2.2 with
      | true=>simp
      | false=>
        by_cases hn:(List.length u.2.2.1:Int)=u.2.1
        · rw [A0 hn,if_neg (by simp [hn])]
          exact ⟨_,rfl,fun _=>rfl⟩
        · rw [A4 hn,if_pos (.inr hn)]
          exact ⟨_,rfl,fun e=>by cases e⟩
    rw [A4 k3,if_neg k3]
    by_cases k4:r.2.2.1=4
    · rw [A0 k4,if_pos k4,w64 (n:=(B5 us r.2.2.2.1:Int)+1) (by omega) (by omega)]
      simp only [cond_true,cond_false]
      rw [A0 (by omega),A0 (by omega),A0 (by omega),A0 (by omega)]
      simp only [cond_true]
      rw [show ((B5 us r.2.2.2.1:Int)+1).toNat=B5 us r.2.2.2.1+1 by omega,A0 (by omega)]
      simp only [cond_true,List.take_length]
      exact ⟨_,rfl,fun _=>rfl⟩
    rw [A4 k4,if_neg k4]
    exact ⟨_,rfl,fun e=>by cases e⟩
theorem E58{us:List TUp}(h:Ord us)(p:Nat)(hp:p<us.length)(u:TUp)(hu:u.1=us[p].1):Ord (us.set p u):=by
  refine List.pairwise_iff_getElem.2 fun i j hi hj hij=>?_
  simp only [List.length_set] at hi hj
  have hk:∀ q (hq:q<us.length),((us.set p u)[q]'(by simpa using hq)).1=us[q].1:=fun q hq=>by
    rw [List.getElem_set]
    split
    · rename_i e;subst e;exact hu
    · rfl
  rw [hk i hi,hk j hj]
  exact D5z h hij hj
theorem B6K{us us':List TUp}{r:H7}(h:Ups us)(hr':C0j r)(e:N6 us r=some us'):Ups us':=by
  have hr:=hr'.1
  have hp:=A7A us r.2.2.2.1
  have hb:=A03 hr
  simp only [N6] at e
  split at e
  · split at e
    · cases e
    rename_i hc
    injection e with e
    subst e
    have hnh:I3 us r.2.2.2.1=false:=by cases q:I3 us r.2.2.2.1;rfl;exact absurd (.inl q) hc
    refine ⟨?_,by simp;omega,fun u hu=>?_⟩
    · show List.Pairwise _ _
      rw [List.pairwise_append]
      refine ⟨h.1.sublist (List.take_sublist _ _),List.pairwise_cons.2 ⟨fun b hb=>?_,h.1.sublist (List.drop_sublist _ _)⟩,fun a ha b hb=>?_⟩
      · obtain ⟨j,hj,rfl⟩:=List.getElem_of_mem hb
        rw [List.getElem_drop]
        exact C1b h.1 hnh (by omega) _
      · obtain ⟨j,hj,rfl⟩:=List.getElem_of_mem ha
        rw [List.length_take] at hj
        rw [List.getElem_take]
        have h1:=B6J (us:=us) (id:=r.2.2.2.1) (j:=j) (by omega)
        rcases List.mem_cons.1 hb with rfl | hb
        · exact h1
        · obtain ⟨q,hq,rfl⟩:=List.getElem_of_mem hb
          rw [List.getElem_drop]
          rw [List.length_drop] at hq
          exact C1Z h1 (C1b h.1 hnh (by omega) (by omega))
    · rcases List.mem_append.1 hu with hu | hu
      · exact h.2.2 u (List.mem_of_mem_take hu)
      · rcases List.mem_cons.1 hu with rfl | hu
        · exact ⟨by simp only [List.length_nil];omega,by simp only;omega,hb.2.2.2.2.1,A28⟩
        · exact h.2.2 u (List.mem_of_mem_drop hu)
  split at e
  · cases e
  rename_i _ hh
  have hh:I3 us r.2.2.2.1=true:=by cases q:I3 us r.2.2.2.1;exact absurd q hh;rfl
  obtain ⟨hlt,hid⟩:=L1.1 hh
  have hrd:rd kUp us (B5 us r.2.2.2.1:Int)=us[B5 us r.2.2.2.1]:=C4 (k:=kUp) (xs:=us) hlt
  have hu0:=h.2.2 _ (List.getElem_mem hlt)
  simp only [hrd] at e
  split at e
  · split at e
    · cases e
    rename_i hc
    injection e with e
    subst e
    refine ⟨E58 h.1 _ hlt _ rfl,by simp;exact h.2.1,fun u hu=>?_⟩
    rcases List.mem_or_eq_of_mem_set hu with hu | rfl
    · exact h.2.2 u hu
    · refine ⟨?_,hu0.2.1,hu0.2.2.1,D5x hu0.2.2.2 hr'.2⟩
      simp only [List.length_append]
      have:¬ ((List.length us[B5 us r.2.2.2.1].2.2.1:Int)+(List.length r.2.2.2.2.2:Int)>us[B5 us r.2.2.2.1].2.1):=fun q=>hc (.inr (.inr q))
      omega
  split at e
  · split at e
    · cases e
    injection e with e
    subst e
    refine ⟨E58 h.1 _ hlt _ rfl,by simp;exact h.2.1,fun u hu=>?_⟩
    rcases List.mem_or_eq_of_mem_set hu with hu | rfl
    · exact h.2.2 u hu
    · exact hu0
  split at e
  · injection e with e
    subst e
    refine ⟨?_,by have:=h.2.1;simp only [List.length_append,List.length_take,List.length_drop];omega,fun u hu=>?_⟩
    · show List.Pairwise _ _
      rw [List.pairwise_append]
      refine ⟨h.1.sublist (List.take_sublist _ _),h.1.sublist (List.drop_sublist _ _),fun a ha b hb=>?_⟩
      obtain ⟨j,hj,rfl⟩:=List.getElem_of_mem ha
      obtain ⟨q,hq,rfl⟩:=List.getElem_of_mem hb
      rw [List.length_take] at hj
      rw [List.length_drop] at hq
      rw [List.getElem_take,List.getElem_drop]
      exact D5z h.1 (by omega) (by omega)
    · rcases List.mem_append.1 hu with hu | hu
      · exact h.2.2 u (List.mem_of_mem_take hu)
      · exact h.2.2 u (List.mem_of_mem_drop hu)
  · cases e
def T0:List TUp→List H7→Option (List TUp)
  | us,[]=>some us
  | us,r::l=>match N6 us r with
    | some us'=>T0 us' l
    | none=>none
def P7(l:List H7):List TUp×Bool×Unit:=match T0 [] l with
  | some us=>(us,true,())
  | none=>([],false,())
theorem A7B:∀ {l:List H7} {us us':List TUp},Ups us→(∀ r∈l,C0j r)→T0 us l=some us'→Ups us'
  | [],us,us',h,_,e=>by simp only [T0,Option.some.injEq] at e;subst e;exact h
  | r::l,us,us',h,hr,e=>by
    simp only [T0] at e
    split at e
    · rename_i us1 e1
      exact A7B (B6K h (hr r (by simp)) e1) (fun x hx=>hr x (by simp [hx])) e
    · cases e
theorem D4b{α:Type}(f:α→Option (α⊕((List TUp×Unit)⊕(List TUp×Bool×Unit))))(s:Nat→List TUp→α)(l:List H7)(hr:∀ r∈l,C0j r)
    (hs:∀ (i:Nat) (hi:i<l.length) (us:List TUp),Ups us→f (s i us)=match N6 us l[i] with
      | some us'=>some (.inl (s (i+1) us'))
      | none=>some (.inr (.inr ([],false,()))))
    (he:∀ us,f (s l.length us)=some (.inr (.inl (us,())))):C2 (B6 f (s 0 [])) (fun m=>some (m.1,true,()))=some (P7 l):=by
  have key:∀ k i us,i+k=l.length→Ups us→C2 (B6 f (s i us)) (fun m=>some (m.1,true,()))=some (match T0 us (l.drop i) with
      | some us'=>(us',true,())
      | none=>([],false,())):=by
    intro k
    induction k with
    | zero=>
      intro i us hi hu
      obtain rfl:i=l.length:=by omega
      rw [Q8,he]
      simp [T0,C2]
    | succ k ih=>
      intro i us hi hu
      have hlt:i<l.length:=by omega
      rw [Q8,hs i hlt us hu,List.drop_eq_getElem_cons hlt]
      simp only [T0]
      cases e:N6 us l[i] with
      | none=>rfl
      | some us'=>exact ih (i+1) us' (by omega) (B6K hu (hr _ (List.getElem_mem hlt)) e)
  exact key l.length 0 [] (by omega) B0W
theorem B8Q(l:List H7)(hl:l.length≤maxLen)(hr:∀ r∈l,C0j r):A0K l=some (P7 l):=by
  simp only [A0K,B3B]
  refine D4b (A4A A6k l) (fun i us=>((i:Int),us,())) l hr (fun i hi us hu=>?_) (fun us=>by simp [A4A])
  have h1:((i:Int)<(l.length:Int)):=by omega
  have h2:(0:Int)≤(i:Int):=by omega
  have hb:=A03 (hr _ (List.getElem_mem hi)).1
  simp only [A4A,A0 h1,A0 h2,cond_true]
  rw [C4 (k:=A7q) (xs:=l) hi,D4a us _ hu (by omega),w64 (by omega) (by simp only [maxLen] at hl;omega)]
  simp only [A3,B4M]
  cases N6 us l[i]<;>rfl
theorem A2Y(l:List H7)(hl:l.length≤maxLen)(hr:∀ r∈l,C0j r):M7 l=some (P7 l):=by
  simp only [M7,A3S]
  refine D4b (X1 N3 l) (fun i us=>(us,(i:Int),())) l hr (fun i hi us hu=>?_) (fun us=>by simp [X1])
  have h1:((i:Int)<(l.length:Int)):=by omega
  have h2:(0:Int)≤(i:Int):=by omega
  have hb:=A03 (hr _ (List.getElem_mem hi)).1
  obtain ⟨x,hx,hx2⟩:=D8e us l[i] hu (by omega)
  simp only [X1,A0 h1,A0 h2,cond_true]
  rw [C4 (k:=A7q) (xs:=l) hi,hx,w64 (by omega) (by simp only [maxLen] at hl;omega)]
  simp only [A3,B4M] at hx2 ⊢
  cases e:N6 us l[i] with
  | none=>rfl
  | some us'=>
    rw [e] at hx2
    rw [hx2 rfl]
    rfl
def A5s(l:List ByteArray):Prop:=l.length≤1048576∧∀ s∈l,s.size≤1048576
theorem A6a{l:List ByteArray}(h:A5s l){i:Nat}(hi:i<l.length):(rd .str l (i:Int)).size≤1048576:=by
  rw [A3U hi]
  exact h.2 _ (List.getElem_mem hi)
theorem C50{s:ByteArray}(h:(F9 s).2.1=true):C0j (F9 s).1:=by
  unfold F9 at h ⊢
  split at h
  · rename_i hg
    rw [if_pos hg]
    simp only [B3w,Bool.and_eq_true] at hg
    exact ⟨hg.1.2,C3t (B0T s)⟩
  · cases h
theorem E6L(d:D6)(h:A5s d.1)(l:Int×Int×List H7×Unit)(h0:0≤l.2.1):A49 A0I d l=R1 K7 d l:=by
  simp only [A49,R1]
  by_cases hi:l.2.1<(d.1.length:Int)
  · obtain ⟨i,hn⟩:∃ i:Nat,l.2.1=(i:Int):=⟨l.2.1.toNat,by omega⟩
    rw [hn] at hi ⊢
    rw [A79 _ (A6a h (by omega)),B6I _ (A6a h (by omega))]
  · rw [A4 hi]
    rfl
theorem E59(d:D6)(h:A5s d.1):∃ l,X0 d=some (l,())∧A0J d=some (l,())∧l.length≤d.1.length∧∀ r∈l,C0j r:=by
  have hl:=h.1
  obtain ⟨z,e,hz1,hz2⟩:=A01 (R1 K7 d) (fun l=>((d.1.length:Int)-l.2.1).toNat) (fun l=>0≤l.2.1∧(List.length l.2.2.1:Int)=l.2.1∧l.2.1≤(d.1.length:Int)∧∀ r∈l.2.2.1,C0j r)
    (fun z=>List.length z.1≤d.1.length∧∀ r∈z.1,C0j r) (fun l hl=>by
      obtain ⟨h0,h1,h2,h3⟩:=hl
      simp only [R1]
      by_cases hi:l.2.1<(d.1.length:Int)
      · obtain ⟨i,hn⟩:∃ i:Nat,l.2.1=(i:Int):=⟨l.2.1.toNat,by omega⟩
        rw [A0 hi,A0 h0]
        simp only [cond_true]
        rw [hn] at hi h0 h1 h2 ⊢
        rw [A79 _ (A6a h (by omega))]
        simp only [A3]
        have hg:=@C50 (rd .str d.1 (i:Int))
        generalize F9 (rd .str d.1 (i:Int))=g at hg ⊢
        have fin:List.length l.2.2.1≤d.1.length∧∀ r∈l.2.2.1,C0j r:=⟨by omega,h3⟩
        cases hk:g.2.1 with
        | false=>exact .inr ⟨_,rfl,fin⟩
        | true=>
          simp only [Bool.not_true,cond_false]
          by_cases e1:g.1.2.1=(i:Int)
          · rw [A0 e1]
            by_cases e2:g.1.1<l.1
            · rw [A0 e2];exact .inr ⟨_,rfl,fin⟩
            · rw [A4 e2]
              simp only [Bool.not_true,cond_false]
              rw [A0 (by simp;omega),A0 (by simp;omega),w64 (by omega) (by omega)]
              refine .inl ⟨_,rfl,⟨by simp only;omega,by simp;omega,by simp only;omega,fun r hr=>?_⟩,by simp only;omega⟩
              rcases List.mem_append.1 hr with hr | hr
              · exact h3 r hr
              · rw [List.mem_singleton.1 hr];exact hg hk
          · rw [A4 e1];exact .inr ⟨_,rfl,fin⟩
      · rw [A4 hi]
        exact .inr ⟨_,rfl,by simp only;omega,h3⟩) (0,0,[],()) ⟨by simp,by simp,by simp,fun r hr=>by cases hr⟩
  refine ⟨z.1,e,?_,hz1,hz2⟩
  simp only [A0J,B3A]
  rw [B0R (g:=R1 K7 d) (fun l=>0≤l.2.1) (fun l h0=>E6L d h l h0) (fun l y h0 e=>?_) (by simp)]
  · exact e
  · simp only [A49] at e
    by_cases hi:l.2.1<(d.1.length:Int)
    · obtain ⟨i,hn⟩:∃ i:Nat,l.2.1=(i:Int):=⟨l.2.1.toNat,by omega⟩
      rw [A0 hi,A0 h0] at e
      simp only [cond_true] at e
      rw [hn] at hi h0 e
      rw [B6I _ (A6a h (by omega))] at e
      simp only [A3] at e
      rw [w64 (n:=(i:Int)+1) (by omega) (by omega)] at e
      generalize F9 (rd .str d.1 (i:Int))=g at e
      cases hk:g.2.1<;>simp only [hk,Bool.not_true,Bool.not_false,cond_true,cond_false] at e
      · cases e
      · revert e
        cases decide (g.1.2.1=(i:Int))<;>cases decide (g.1.1<l.1)<;>simp only [Bool.not_true,Bool.not_false,cond_true,cond_false]
        · intro e;cases e
        · intro e;cases e
        · cases decide (List.length l.2.2.1+List.length [g.1]≤9223372036854775807)<;>cases decide ((List.length l.2.2.1+List.length [g.1])*72≤140737488355328)<;>intro e
          · cases e
          · cases e
          · cases e
          · simp only [cond_true] at e
            injection e with e;injection e with e;subst e
            simp only;omega
        · intro e;cases e
    · rw [A4 hi] at e
      cases e
theorem C3v:A1E=S2:=rfl
theorem B6L(d:D6)(h:d.1.length≤1048576):∃ b,S2 d=some (b,())∧(b=true→d.1.length=d.2.length∧d.1.length≤200):=by
  simp only [S2,B3g]
  by_cases h1:(d.1.length:Int)=(d.2.length:Int)
  · rw [A0 h1]
    by_cases h2:(d.1.length:Int)>200
    · rw [A0 h2]
      exact ⟨_,rfl,fun e=>by cases e⟩
    · rw [A4 h2]
      simp only [Bool.not_true,cond_false,C2]
      refine ⟨_,C4x (A0Q d) d.1.length (by simp only [maxLen];omega) (fun i=>!decide (((rd .str d.1 (i:Int)).size:Int)>64)&&!decide (((rd .str d.2 (i:Int)).size:Int)>64)) (fun i hi=>?_) (by simp [A0Q]),fun _=>by omega⟩
      have g1:((i:Int)<(d.1.length:Int)):=by omega
      have g2:(0:Int)≤(i:Int):=by omega
      have g3:((i:Int)<(d.2.length:Int)):=by omega
      simp only [A0Q,A0 g1,A0 g2,A0 g3,cond_true]
      cases decide (((rd .str d.1 (i:Int)).size:Int)>64)<;>cases decide (((rd .str d.2 (i:Int)).size:Int)>64)<;>rfl
  · rw [A4 h1]
    exact ⟨_,rfl,fun e=>by cases e⟩
def A6b(a b:TUp):Bool:=(a.1.toList == b.1.toList)&&decide (a.2.1=b.2.1)&&(a.2.2.2 == b.2.2.2)&&((strOf a.2.2.1).toList == (strOf b.2.2.1).toList)
def A0d(a b:List TUp):Bool:=decide (a.length=b.length)&&(List.range a.length).all fun i=>A6b (rd kUp a (i:Int)) (rd kUp b (i:Int))
theorem D8f(a b:TUp):A8g a b=some (A6b a b,()):=by
  simp only [A8g,C0F,A60,B10,A3,A6b]
  cases (a.1.toList == b.1.toList)<;>cases decide (a.2.1=b.2.1)<;>cases (a.2.2.2 == b.2.2.2)<;>rfl
theorem E6M(a b:List TUp)(h:a.length≤maxLen):C3 a b ()=some (A0d a b,()):=by
  simp only [C3,F2,A0d]
  by_cases hl:a.length=b.length
  · rw [A0 (show (a.length:Int)=(b.length:Int) by omega),A0 hl]
    simp only [Bool.not_true,cond_false,Bool.true_and]
    refine C4x _ a.length h (fun i=>A6b (rd kUp a (i:Int)) (rd kUp b (i:Int))) (fun i hi=>?_) (by simp [E5])
    have g1:((i:Int)<(a.length:Int)):=by omega
    have g2:(0:Int)≤(i:Int):=by omega
    have g3:((i:Int)<(b.length:Int)):=by omega
    simp only [E5,A0 g1,A0 g2,A0 g3,cond_true,D8f,A3]
    cases A6b (rd kUp a (i:Int)) (rd kUp b (i:Int))<;>rfl
  · rw [A4 (show ¬ (a.length:Int)=(b.length:Int) by omega),A4 hl]
    rfl
theorem D4c(a b:List TUp)(h:a.length≤maxLen):A1Y a b=some (A0d a b,()):=by
  simp only [A1Y,A9D,A0d]
  by_cases hl:a.length=b.length
  · rw [A0 (show (a.length:Int)=(b.length:Int) by omega),A0 hl]
    simp only [Bool.not_true,cond_false,Bool.true_and]
    refine C4x _ a.length h (fun i=>A6b (rd kUp a (i:Int)) (rd kUp b (i:Int))) (fun i hi=>?_) (by simp [A5j])
    have g1:((i:Int)<(a.length:Int)):=by omega
    have g2:(0:Int)≤(i:Int):=by omega
    have g3:((i:Int)<(b.length:Int)):=by omega
    simp only [A5j,A0 g1,A0 g2,A0 g3,cond_true,A6b]
    cases ((rd kUp a (i:Int)).1.toList == (rd kUp b (i:Int)).1.toList)<;>cases decide ((rd kUp a (i:Int)).2.1=(rd kUp b (i:Int)).2.1)<;>cases ((rd kUp a (i:Int)).2.2.2 == (rd kUp b (i:Int)).2.2.2)<;>cases ((strOf (rd kUp a (i:Int)).2.2.1).toList == (strOf (rd kUp b (i:Int)).2.2.1).toList)<;>rfl
  · rw [A4 (show ¬ (a.length:Int)=(b.length:Int) by omega),A4 hl]
    rfl
def B26(e:Int)(s:ByteArray):Bool:=(F9 s).2.1&&decide ((F9 s).1.1≥e)
def A4y(t:Int)(s:ByteArray):Int:=bif (F9 s).2.1 then (bif decide ((F9 s).1.1>t) then (F9 s).1.1 else t) else t
def A4z(l:List ByteArray):Int:=l.foldl A4y (-1)
theorem C3w(e:Int):∀ (l:List ByteArray) (t:Int),decide (l.foldl A4y t<e)=(decide (t<e)&&l.all fun s=>!B26 e s)
  | [],t=>(Bool.and_true _).symm
  | s::l,t=>by
    rw [List.foldl_cons,C3w e l,List.all_cons]
    unfold A4y B26
    cases (F9 s).2.1 with
    | false=>simp
    | true=>
      simp only [cond_true,Bool.true_and]
      by_cases h1:(F9 s).1.1>t
      · rw [A0 h1]
        by_cases h2:(F9 s).1.1≥e
        · rw [A0 h2]
          simp only [cond_true]
          rw [A4 (show ¬ (F9 s).1.1<e by omega)]
          simp
        · rw [A4 h2]
          simp only [cond_true]
          rw [A0 (show (F9 s).1.1<e by omega),A0 (show t<e by omega)]
          simp
      · rw [A4 h1]
        simp only [cond_false]
        by_cases h3:t<e
        · rw [A0 h3,A4 (show ¬ (F9 s).1.1≥e by omega)]
          simp
        · rw [A4 h3]
          simp
theorem C1c(l:List ByteArray)(h:A5s l):A1H l=some (A4z l,()):=by
  have hl:=h.1
  simp only [A1H,B5Q]
  have key:=D8 (A5y A0I l) (fun i=>((l.take i).foldl A4y (-1),(i:Int),())) l.length (A4z l,()) (fun i hi=>?_) ?_
  · simpa using key
  · have g1:((i:Int)<(l.length:Int)):=by omega
    have g2:(0:Int)≤(i:Int):=by omega
    simp only [A5y,A0 g1,A0 g2,cond_true]
    rw [B6I _ (A6a h hi),w64 (by omega) (by omega)]
    simp only [A3]
    have e:(l.take (i+1)).foldl A4y (-1)=A4y ((l.take i).foldl A4y (-1)) (rd .str l (i:Int)):=by
      rw [List.take_succ_eq_append_getElem hi,List.foldl_append,A3U hi]
      rfl
    rw [e]
    unfold A4y
    cases (F9 (rd .str l (i:Int))).2.1<;>rfl
  · simp [A5y,A4z]
theorem C9I(go:Nat→Bool)(n:Nat):decide (O9 go 0 n=n)=(List.range n).all go:=by
  rw [Bool.eq_iff_iff]
  simp only [decide_eq_true_eq,List.all_eq_true,List.mem_range]
  constructor
  · intro h j hj
    exact B0U go n 0 j (by omega) (by omega)
  · intro h
    exact B0V go n n (Nat.le_refl _) h (fun h=>by omega)
theorem D4d(st:A8)(h:A5s st.1.1)(n:Nat)(hn:n≤st.1.1.length):B6 (A0o K7 st) ((n:Int),())=some ((st.1.1.drop n).all fun s=>!B26 st.2.1 s,()):=by
  have hl:=h.1
  have key:=A3o (A0o K7 st) (fun j=>(((n+j:Nat):Int),())) (st.1.1.length-n) (fun j=>(decide (j=st.1.1.length-n),())) (fun j=>!B26 st.2.1 (rd .str st.1.1 ((n+j:Nat):Int))) (fun j hj=>?_) ?_
  · have e:B6 (A0o K7 st) ((n:Int),())=_:=key
    rw [e,C9I]
    congr 2
    rw [Bool.eq_iff_iff]
    simp only [List.all_eq_true,List.mem_range]
    constructor
    · intro h2 s hs
      obtain ⟨j,hj,rfl⟩:=List.getElem_of_mem hs
      rw [List.length_drop] at hj
      have:=h2 j hj
      rw [A3U (by omega)] at this
      rw [List.getElem_drop]
      exact this
    · intro h2 j hj
      rw [A3U (by omega)]
      refine h2 _ ?_
      rw [List.mem_iff_getElem]
      exact ⟨j,by rw [List.length_drop];omega,by rw [List.getElem_drop]⟩
  · have g1:(((n+j:Nat):Int)<(st.1.1.length:Int)):=by omega
    have g2:(0:Int)≤((n+j:Nat):Int):=by omega
    simp only [A0o,A0 g1,A0 g2,cond_true]
    rw [A79 _ (A6a h (by omega)),w64 (by omega) (by omega)]
    simp only [A3,B26]
    rw [A4 (show ¬ j=st.1.1.length-n by omega)]
    have e2:n+(j+1)=(n+j)+1:=by omega
    simp only [e2,Int.natCast_succ]
    cases (F9 (rd .str st.1.1 ((n+j:Nat):Int))).2.1<;>cases decide ((F9 (rd .str st.1.1 ((n+j:Nat):Int))).1.1≥st.2.1)<;>rfl
  · have g1:¬ (((n+(st.1.1.length-n):Nat):Int)<(st.1.1.length:Int)):=by omega
    simp only [A0o,A4 g1,cond_false]
    simp
def C9J(st:A8):Prop:=0≤st.2.1∧st.2.1≤10000∧st.1.1.length=st.1.2.length∧st.1.1.length≤200∧(0≤st.2.2.1∧st.2.2.1≤(st.1.1.length:Int))∧∃ us,Ups us∧A0d us st.2.2.2=true
theorem C9K(st:A8)(h:A5s st.1.1):∃ b,G2 st=some (b,())∧A1I st=some (b,())∧(b=true→C9J st):=by
  have hl:=h.1
  obtain ⟨bd,hd,hdt⟩:=B6L st.1 hl
  obtain ⟨l,hs,hi,hll,hrg⟩:=E59 st.1 h
  have hfs:=A2Y l (by simp only [maxLen];omega) hrg
  have hfi:=B8Q l (by simp only [maxLen];omega) hrg
  have hups:(P7 l).2.1=true→Ups (P7 l).1:=by
    intro e
    unfold P7 at e ⊢
    split
    · rename_i us' e1
      exact A7B B0W hrg e1
    · rename_i e1
      rw [e1] at e;cases e
  simp only [G2,B0D,A1I,B5R,C3v,hd,hs,hi,hfs,hfi,A1C,A9r,Q6,L2,A3]
  cases bd with
  | false=>
    by_cases he:0≤st.2.1∧st.2.1≤10000
    · rw [A0 he]
      exact ⟨_,rfl,rfl,fun e=>by cases e⟩
    · rw [A4 he]
      exact ⟨_,rfl,rfl,fun e=>by cases e⟩
  | true=>
    cases he':decide (0≤st.2.1∧st.2.1≤10000) with
    | false=>exact ⟨_,rfl,rfl,fun e=>by cases e⟩
    | true=>
      have he:=of_decide_eq_true he'
      have hd2:=hdt rfl
      simp only [Bool.not_true,cond_false,C2]
      generalize hf:P7 l=fr at hups
      cases hk:fr.2.1 with
      | false=>exact ⟨_,rfl,rfl,fun e=>by cases e⟩
      | true=>
        have hu:=hups hk
        have hul:=hu.2.1
        rw [D4c _ _ (show fr.1.length≤maxLen by simp only [maxLen];omega),E6M _ _ (show fr.1.length≤maxLen by simp only [maxLen];omega)]
        simp only [Bool.not_true,cond_false]
        cases hn':decide (st.2.2.1=(List.length l:Int)) with
        | false=>
          cases A0d fr.1 st.2.2.2<;>exact ⟨_,rfl,rfl,fun e=>by cases e⟩
        | true=>
          have hn:=of_decide_eq_true hn'
          cases hsm:A0d fr.1 st.2.2.2 with
          | false=>exact ⟨_,rfl,rfl,fun e=>by cases e⟩
          | true=>
            have hg:C9J st:=⟨he.1,he.2,hd2.1,hd2.2,by omega,fr.1,hu,hsm⟩
            simp only [Bool.not_true,cond_false]
            rw [hn,D4d st h l.length hll,A0 (show (0:Int)≤(List.length l:Int) by omega),A0 (show (List.length l:Int)≤(st.1.1.length:Int) by omega),Int.toNat_natCast,List.take_length]
            simp only [cond_true]
            have hdr:A5s (st.1.1.drop l.length):=⟨by rw [List.length_drop];omega,fun s hs=>h.2 s (List.mem_of_mem_drop hs)⟩
            rw [C1c _ hdr]
            have htop:decide (st.2.1>A4z (st.1.1.drop l.length))=((st.1.1.drop l.length).all fun s=>!B26 st.2.1 s):=by
              have:=C3w st.2.1 (st.1.1.drop l.length) (-1)
              rw [A0 (show (-1:Int)<st.2.1 by omega),Bool.true_and] at this
              exact this
            simp only [htop]
            by_cases hl0:(List.length l:Int)>0
            · rw [A0 hl0,w64 (n:=(List.length l:Int)-1) (by omega) (by omega),A0 (show (0:Int)≤(List.length l:Int)-1 by omega),A0 (show (List.length l:Int)-1<(List.length l:Int) by omega)]
              simp only [cond_true]
              have hlt:decide (st.2.1<(rd A7q l ((List.length l:Int)-1)).1)=decide ((rd A7q l ((List.length l:Int)-1)).1>st.2.1):=rfl
              rw [hlt]
              cases decide ((rd A7q l ((List.length l:Int)-1)).1>st.2.1) with
              | true=>exact ⟨_,rfl,rfl,fun e=>by cases e⟩
              | false=>exact ⟨_,rfl,rfl,fun _=>hg⟩
            · rw [A4 hl0]
              exact ⟨_,rfl,rfl,fun _=>hg⟩
theorem D8g(x:C0):B5S U3 x=Z7 U5 x:=by
  have e:U3=U5:=by funext r;rw [B6F,B6E]
  rw [e]
  rfl
theorem F0L(x:C0)(h:x.2.length≤1048576):∃ z,B6 (Z7 U5 x) (0,())=some z∧(z=.inl ()∨z=.inr (false,())):=by
  have key:=A3o (Z7 U5 x) (fun i=>((i:Int),())) x.2.length (fun i=>if i<x.2.length then .inr (false,()) else .inl ()) (fun i=>X6 (rd A9 x.2 (i:Int)).2) (fun i hi=>?_) ?_
  · refine ⟨_,key,?_⟩
    split
    · exact .inr rfl
    · exact .inl rfl
  · have g1:((i:Int)<(x.2.length:Int)):=by omega
    have g2:(0:Int)≤(i:Int):=by omega
    simp only [Z7,A0 g1,A0 g2,cond_true,B6E,A3,if_pos hi]
    rw [w64 (by omega) (by omega)]
    cases X6 (rd A9 x.2 (i:Int)).2<;>rfl
  · simp [Z7]
theorem C51(x:C0)(h:A5s x.1.1.1)(h2:x.2.length≤1048576):∃ b,A4g x=some (b,())∧A4B x=some (b,())∧(b=true→G2 x.1=some (true,())∧C9J x.1∧x.2.length≤200):=by
  obtain ⟨z,hz,hz2⟩:=F0L x h2
  obtain ⟨b,hs,hi,hg⟩:=C9K x.1 h
  simp only [A4g,B3j,A4B,B3C,D8g,hz,hs,hi]
  rcases hz2 with rfl | rfl
  · by_cases hl:(x.2.length:Int)≤200
    · rw [A0 hl]
      exact ⟨b,rfl,rfl,fun e=>⟨by rw [e],hg e,by omega⟩⟩
    · rw [A4 hl]
      exact ⟨_,rfl,rfl,fun e=>by cases e⟩
  · exact ⟨_,rfl,rfl,fun e=>by cases e⟩
theorem D60{N:Nat}{e:Nat}{l:List ByteArray}(hN:N≤1048576)(h:Sm N (.sl e .str) l):A5s l:=⟨by have:l.length≤N:=h.1;omega,fun s hs=>by have:s.size≤N:=h.2 s hs;omega⟩
theorem C9L{k:K}{b:List k.T}{i:Nat}(h:i<b.length)(u:k.T):rd k (b.set i u) (i:Int)=u:=by
  rw [C4 (xs:=b.set i u) (by simpa using h)]
  simp
def MH{T:Type}(mark:Int→Option (Int×T×Unit))(held:T→Int→Option (Int×Unit))(n:Nat):Prop:=
  ∀ m:Int,0≤m→m+n<4611686018427387904→∃ m' y,mark m=some (m',y,())∧m≤m'∧m'≤m+n∧held y m=some (m',())
def cost{T:Type}(c:T→Nat)(a:List T):Nat:=(a.map c).sum
theorem E6N{T:Type}(c:T→Nat){a:List T}{i:Nat}(h:i<a.length):cost c (a.drop i)=c a[i]+cost c (a.drop (i+1)):=by
  rw [List.drop_eq_getElem_cons h]
  simp only [cost,List.map_cons,List.sum_cons]
theorem B7q{T:Type}(Lm:Int×Int×List T×Unit→Option ((Int×Int×List T×Unit)⊕(Int×List T×Unit)))(Lh:List T→Int×Int×Unit→Option ((Int×Int×Unit)⊕(Int×Unit)))(c:T→Nat)(a:List T)(hn:a.length≤1048576)
    (hs:∀ (i:Nat) (hi:i<a.length) (m:Int),0≤m→m+c a[i]<4611686018427387904→∃ m' u,m≤m'∧m'≤m+c a[i]∧(∀ (b:List T) (hb:b.length=a.length),b[i]'(by omega)=a[i]→Lm (m,(i:Int),b,())=some (.inl (m',(i:Int)+1,b.set i u,())))∧
      ∀ (b:List T) (hb:b.length=a.length),b[i]'(by omega)=u→Lh b (m,(i:Int),())=some (.inl (m',(i:Int)+1,())))
    (he:∀ m (b:List T),b.length=a.length→Lm (m,(a.length:Int),b,())=some (.inr (m,b,()))) (hf:∀ m (b:List T),b.length=a.length→Lh b (m,(a.length:Int),())=some (.inr (m,()))) :
    MH (fun m=>B6 Lm (m,0,a,())) (fun y m=>B6 (Lh y) (m,0,())) (cost c a):=by
  have key:∀ k i,i+k=a.length→∀ m:Int,0≤m→m+cost c (a.drop i)<4611686018427387904→∃ m' us,us.length=k∧m≤m'∧m'≤m+cost c (a.drop i)∧
      (∀ pre:List T,pre.length=i→B6 Lm (m,(i:Int),pre++a.drop i,())=some (m',pre++us,()))∧∀ pre:List T,pre.length=i→B6 (Lh (pre++us)) (m,(i:Int),())=some (m',()):=by
    intro k
    induction k with
    | zero=>
      intro i hi m h0 h1
      obtain rfl:i=a.length:=by omega
      refine ⟨m,[],rfl,Int.le_refl _,by omega,fun pre hp=>?_,fun pre hp=>?_⟩
      · rw [Q8,he _ _ (by simp [hp])]
        simp
      · rw [Q8,hf _ _ (by simp [hp])]
    | succ k ih=>
      intro i hi m h0 h1
      have hlt:i<a.length:=by omega
      rw [E6N c hlt] at h1 ⊢
      obtain ⟨m1,u,g1,g2,g3,g4⟩:=hs i hlt m h0 (by omega)
      obtain ⟨m',us,h2,h3,h4,h5,h6⟩:=ih (i+1) (by omega) m1 (by omega) (by omega)
      have e1:(i:Int)+1=((i+1:Nat):Int):=by omega
      rw [e1] at g3 g4
      refine ⟨m',u::us,by simp [h2],by omega,by omega,fun pre hp=>?_,fun pre hp=>?_⟩
      · have hl:(pre++a.drop i).length=a.length:=by simp [hp];omega
        have hg:(pre++a.drop i)[i]'(by omega)=a[i]:=by
          rw [List.getElem_append_right (by omega)]
          simp [hp]
        rw [Q8,g3 _ hl hg]
        have hset:(pre++a.drop i).set i u=(pre ++ [u])++a.drop (i+1):=by
          rw [List.set_append_right _ _ (by omega),hp,Nat.sub_self,List.drop_eq_getElem_cons hlt,List.set_cons_zero]
          simp
        rw [hset]
        have:=h5 (pre ++ [u]) (by simp [hp])
        simp only [List.append_assoc,List.singleton_append] at this
        simpa using this
      · have hl:(pre++u::us).length=a.length:=by simp [hp,h2];omega
        have hg:(pre++u::us)[i]'(by omega)=u:=by
          rw [List.getElem_append_right (by omega)]
          simp [hp]
        rw [Q8,g4 _ hl hg]
        have:=h6 (pre ++ [u]) (by simp [hp])
        simp only [List.append_assoc,List.singleton_append] at this
        exact this
  intro m h0 h1
  obtain ⟨m',us,h2,h3,h4,h5,h6⟩:=key a.length 0 (by omega) m h0 (by simpa using h1)
  exact ⟨m',us,by simpa using h5 [] rfl,h3,by simpa using h4,by simpa using h6 [] rfl⟩
theorem C9M(a:List Int):MH (I8 a) I9 a.length:=fun m h0 h1=>⟨_,_,D5m a m h0 (by omega),by omega,Int.le_refl _,D5n a.length m h0 (by omega)⟩
theorem C9N(a:List ByteArray):MH (V9 a) W4 a.length:=fun m h0 h1=>⟨_,_,C9B a m h0 h1,by omega,Int.le_refl _,C9C a.length m h0 h1⟩
theorem D8h(a:List B7)(h:a.length≤1048576):MH (A0l a) A0n (cost (fun _=>3) a):=by
  refine B7q A36 A3C (fun _=>3) a h (fun i hi m h0 h1=>?_) (fun m b hb=>by simp [A36,hb]) (fun m b hb=>by simp [A3C,hb])
  have w1:IntKind.i64.wrap (m+1)=m+1:=w64 (by omega) (by omega)
  have w2:IntKind.i64.wrap (m+1+1)=m+1+1:=w64 (by omega) (by omega)
  have w3:IntKind.i64.wrap (m+1+1+1)=m+1+1+1:=w64 (by omega) (by omega)
  have wi:IntKind.i64.wrap ((i:Int)+1)=(i:Int)+1:=w64 (by omega) (by omega)
  have g1:(0:Int)≤(i:Int):=by omega
  refine ⟨m+1+1+1,(m,m+1,m+1+1),by omega,by omega,fun b hb e=>?_,fun b hb e=>?_⟩
  · have hib:i<b.length:=by omega
    have g2:(i:Int)<(b.length:Int):=by omega
    simp only [A36,A3,List.length_set,A0 g1,A0 g2,cond_true,Int.toNat_natCast,w1,w2,w3,wi,List.set_set,C9L (k:=A9) hib]
  · have g2:(i:Int)<(b.length:Int):=by omega
    have hr:rd A9 b (i:Int)=(m,m+1,m+1+1):=by rw [C4 (k:=A9) (xs:=b) (by omega)];exact e
    simp only [A3C,A3,A0 g1,A0 g2,cond_true,w1,w2,w3,wi,hr]
    simp
theorem F1U(a:List TUp)(h:a.length≤1048576):MH (B07 a) B09 (cost (fun u=>List.length u.2.2.1+3) a):=by
  refine B7q (A6H I8 D3) (A6M I9 D3) (fun u=>List.length u.2.2.1+3) a h (fun i hi m h0 h1=>?_) (fun m b hb=>by simp [A6H,hb]) (fun m b hb=>by simp [A6M,hb])
  obtain ⟨m1,d,e1,b1,b2,e2⟩:=C9M a[i].2.2.1 (m+1+1) (by omega) (by omega)
  have w1:IntKind.i64.wrap (m+1)=m+1:=w64 (by omega) (by omega)
  have w2:IntKind.i64.wrap (m+1+1)=m+1+1:=w64 (by omega) (by omega)
  have w3:IntKind.i64.wrap (m1+1)=m1+1:=w64 (by omega) (by omega)
  have wi:IntKind.i64.wrap ((i:Int)+1)=(i:Int)+1:=w64 (by omega) (by omega)
  have g1:(0:Int)≤(i:Int):=by omega
  have ht:=A78 m (by omega)
  refine ⟨m1+1,(mt m,m+1,d,decide (m1.tmod 3=0)),by omega,by omega,fun b hb e=>?_,fun b hb e=>?_⟩
  · have hib:i<b.length:=by omega
    have g2:(i:Int)<(b.length:Int):=by omega
    have hr:rd kUp b (i:Int)=a[i]:=by rw [C4 (k:=kUp) (xs:=b) (by omega)];exact e
    simp only [A6H,A3,ht,List.length_set,A0 g1,A0 g2,cond_true,Int.toNat_natCast,w1,w2,w3,wi,List.set_set,C9L (k:=kUp) hib,hr,e1]
  · have g2:(i:Int)<(b.length:Int):=by omega
    have hr:rd kUp b (i:Int)=(mt m,m+1,d,decide (m1.tmod 3=0)):=by rw [C4 (k:=kUp) (xs:=b) (by omega)];exact e
    simp only [A6M,A3,ht,A0 g1,A0 g2,cond_true,w1,w2,w3,wi,hr,e2]
    rw [A4 (show ¬ m1<0 by omega)]
    simp
def E5A(d:D6):Nat:=d.1.length+d.2.length
def C9O(s:A8):Nat:=E5A s.1+cost (fun u:TUp=>List.length u.2.2.1+3) s.2.2.2
def B7r(s:C0):Nat:=C9O s.1+cost (fun _:B7=>3) s.2
theorem F0M(d:D6):MH (A4V d) A4Y (E5A d):=by
  intro m h0 h1
  unfold E5A at *
  obtain ⟨m1,y1,e1,a1,b1,f1⟩:=C9N d.1 m h0 (by omega)
  obtain ⟨m2,y2,e2,a2,b2,f2⟩:=C9N d.2 m1 (by omega) (by omega)
  refine ⟨m2,(y1,y2),?_,by omega,by omega,?_⟩
  · simp only [A4V,B3d,e1,e2,A3]
  · simp only [A4Y,B3e,f1,f2,A3]
    rw [A4 (show ¬ m1<0 by omega),A4 (show ¬ m2<0 by omega)]
    rfl
theorem E8o(s:A8)(h:s.2.2.2.length≤1048576)(m:Int)(h0:0≤m)(h1:m+C9O s<4611686018427387904) :
    ∃ m' y1 y2,A2N s m=some (m',(y1,s.2.1,s.2.2.1,y2),())∧m≤m'∧m'≤m+C9O s∧∀ a b,A2P (y1,a,b,y2) m=some (m',()):=by
  unfold C9O at *
  obtain ⟨m1,y1,e1,a1,b1,f1⟩:=F0M s.1 m h0 (by omega)
  obtain ⟨m2,y2,e2,a2,b2,f2⟩:=F1U s.2.2.2 h m1 (by omega) (by omega)
  refine ⟨m2,y1,y2,?_,by omega,by omega,fun a b=>?_⟩
  · simp only [A2N,B1K,e1,e2,A3]
  · simp only [A2P,B1N,f1,f2,A3]
    rw [A4 (show ¬ m1<0 by omega),A4 (show ¬ m2<0 by omega)]
    rfl
theorem E6O(s:C0)(h:s.1.2.2.2.length≤1048576)(h':s.2.length≤1048576)(m:Int)(h0:0≤m)(h1:m+B7r s<4611686018427387904) :
    ∃ m' y1 y2 y3,A1T s m=some (m',((y1,s.1.2.1,s.1.2.2.1,y2),y3),())∧m≤m'∧m'≤m+B7r s∧∀ a b,A1U ((y1,a,b,y2),y3) m=some (m',()):=by
  unfold B7r at *
  obtain ⟨m1,y1,y2,e1,a1,b1,f1⟩:=E8o s.1 h m h0 (by omega)
  obtain ⟨m2,y3,e2,a2,b2,f2⟩:=D8h s.2 h' m1 (by omega) (by omega)
  refine ⟨m2,y1,y2,y3,?_,by omega,by omega,fun a b=>?_⟩
  · simp only [A1T,A9A,e1,e2,A3]
  · simp only [A1U,A9B,f1,f2,A3]
    rw [A4 (show ¬ m1<0 by omega),A4 (show ¬ m2<0 by omega)]
    rfl
theorem B0X{T:Type}(c:T→Nat)(n:Nat):∀ (a:List T),(∀ x∈a,c x≤n)→cost c a≤a.length*n
  | [],_=>by simp [cost]
  | x::a,h=>by
    have h1:=B0X c n a (fun y hy=>h y (by simp [hy]))
    have h2:=h x (by simp)
    simp only [cost,List.map_cons,List.sum_cons,List.length_cons] at h1 ⊢
    rw [Nat.add_mul]
    omega
theorem D61(a:List Bool)(h:a.length≤1048576)(m:Int)(h0:0≤m)(h1:m+a.length<4611686018427387904):∃ y,Q5 a m=some (m+(a.length:Int),y,()):=by
  obtain ⟨z,e,hz⟩:=A01 W0 (fun l=>((a.length:Int)-l.2.1).toNat) (fun l=>0≤l.2.1∧l.2.1≤(a.length:Int)∧List.length l.2.2.1=a.length∧l.1=m+l.2.1) (fun z=>z.1=m+(a.length:Int)) (fun l hl=>by
    obtain ⟨g0,g1,g2,g3⟩:=hl
    obtain ⟨l1,l2,l3,u⟩:=l
    simp only at g0 g1 g2 g3
    simp only [W0,g2]
    by_cases hi:l2<(a.length:Int)
    · rw [A0 hi,A0 g0,w64 (n:=l1+1) (by omega) (by omega),w64 (n:=l2+1) (by omega) (by omega)]
      exact .inl ⟨_,rfl,⟨by simp only;omega,by simp only;omega,by simp [g2],by simp only;omega⟩,by simp only;omega⟩
    · rw [A4 hi]
      exact .inr ⟨_,rfl,by simp only;omega⟩) (m,0,a,()) ⟨by simp,by simp,rfl,by simp⟩
  refine ⟨z.2.1,?_⟩
  have e':Q5 a m=some z:=e
  rw [e']
  obtain ⟨z1,z2,z3⟩:=z
  simp only at hz
  rw [hz]
theorem C3x(a:List ByteArray)(h:a.length≤1048576):G1 a=some (a,()):=by
  simp only [G1,S1]
  have e:(bif decide (([]:List ByteArray).length+a.length≤9223372036854775807) then bif decide ((([]:List ByteArray).length+a.length)*16≤140737488355328) then some (([]++a),()) else none else none)=some (a,()):=by
    rw [A0 (by simp;omega),A0 (by simp;omega)]
    simp
  rw [e]
  cases a with
  | nil=>simp [B6D]
  | cons x xs=>simp
theorem D4e(a:List B7)(h:a.length≤1048576):E2 a=some (a,()):=by
  simp only [E2,M6]
  have e:(bif decide (([]:List B7).length+a.length≤9223372036854775807) then bif decide ((([]:List B7).length+a.length)*24≤140737488355328) then some (([]++a),()) else none else none)=some (a,()):=by
    rw [A0 (by simp;omega),A0 (by simp;omega)]
    simp
  rw [e]
  cases a with
  | nil=>simp [B6D]
  | cons x xs=>simp
def A2Z(d:D6):Prop:=A5s d.1∧A5s d.2
def A7b(s:A8):Prop:=A2Z s.1∧List.length s.2.2.2≤1048576∧∀ u∈s.2.2.2,List.length u.2.2.1≤2000000000
def D4f(s:C0):Prop:=A7b s.1∧List.length s.2≤1048576
theorem B1V(d:D6)(h:A2Z d):S6 d=some (d,()):=by
  simp only [S6,B3G,C3x _ h.1.1,C3x _ h.2.1,A3]
theorem Y6(d:D6)(h:A2Z d):T6 d=some (d,()):=by
  have h1:=h.1.1
  have h2:=h.2.1
  simp only [T6,B5x]
  rw [A0 (by simp;omega),A0 (by simp;omega),A0 (by simp;omega),A0 (by simp;omega)]
  simp
theorem D8i(u:TUp)(h:List.length u.2.2.1≤2000000000):A5Z u=some (u,()):=by
  simp only [A5Z,C0H,A2W _ (show List.length u.2.2.1≤140737488355328 by omega),A3]
theorem C9P(s:A8)(h:A7b s):A2D s=some (s,()):=by
  simp only [A2D,B12,B1V _ h.1,A3]
  have hl:=h.2.1
  have key:=D8 (A2v A5Z s) (fun i=>((i:Int),s.2.1,s.2.2.1,s.1.1,s.1.2,s.2.2.2.take i,())) s.2.2.2.length (s,()) (fun i hi=>?_) ?_
  · simpa using key
  · have g1:((i:Int)<(s.2.2.2.length:Int)):=by omega
    have g2:(0:Int)≤(i:Int):=by omega
    simp only [A2v,A0 g1,A0 g2,cond_true]
    rw [C4 (k:=kUp) (xs:=s.2.2.2) hi,D8i _ (h.2.2 _ (List.getElem_mem hi))]
    simp only [A3]
    rw [A0 (by simp;omega),A0 (by simp;omega),w64 (by omega) (by omega),List.take_succ_eq_append_getElem hi]
    rfl
  · simp [A2v]
theorem A1h(s:A8)(h:A7b s):L4 s=some (s,()):=by
  simp only [L4,B0I,Y6 _ h.1,C0i _ h.2.1 h.2.2,A3]
theorem C73(s:C0)(h:D4f s):A1J s=some (s,()):=by
  simp only [A1J,A8j,C9P _ h.1,D4e _ h.2,A3]
theorem C74(s:C0)(h:D4f s):A6w s=some (s,()):=by
  have h2:=h.2
  simp only [A6w,B5y,A1h _ h.1,A3]
  rw [A0 (by simp;omega),A0 (by simp;omega)]
  simp
theorem E2W(d:D6)(h:A2Z d):A2F d=some ((d.1,d.1),()):=by
  simp only [A2F,B14,C3x _ h.1.1,A3]
theorem E2X(d:D6)(h:A2Z d):A2S d=some ((d.1,d.1),()):=by
  have h1:=h.1.1
  simp only [A2S,B1P]
  rw [A0 (by simp;omega),A0 (by simp;omega)]
  simp
theorem A6c(d:D6)(h:A5s d.1):A4m d=some (A4z d.1,()):=by
  have hl:=h.1
  simp only [A4m,B3q]
  have key:=D8 (A4l K7 d) (fun i=>((d.1.take i).foldl A4y (-1),(i:Int),())) d.1.length (A4z d.1,()) (fun i hi=>?_) ?_
  · simpa using key
  · have g1:((i:Int)<(d.1.length:Int)):=by omega
    have g2:(0:Int)≤(i:Int):=by omega
    simp only [A4l,A0 g1,A0 g2,cond_true]
    rw [A79 _ (A6a h hi),w64 (by omega) (by omega)]
    simp only [A3]
    have e:(d.1.take (i+1)).foldl A4y (-1)=A4y ((d.1.take i).foldl A4y (-1)) (rd .str d.1 (i:Int)):=by
      rw [List.take_succ_eq_append_getElem hi,List.foldl_append,A3U hi]
      rfl
    rw [e]
    generalize (d.1.take i).foldl A4y (-1)=t
    unfold A4y
    cases (F9 (rd .str d.1 (i:Int))).2.1
    · rfl
    · cases decide ((F9 (rd .str d.1 (i:Int))).1.1>t)<;>rfl
  · simp [A4l,A4z]
theorem D2M(d:D6)(h:A5s d.1):A4K d=some (A4z d.1,()):=by
  simp only [A4K,B3J,C1c _ h,A3]
theorem D62(s:ByteArray):(F9 s).1.1≤10000:=by
  unfold F9
  split
  · rename_i h
    simp only [B3w,Bool.and_eq_true] at h
    exact (A03 h.1.2).2.1
  · simp [E57]
theorem C89(l:List ByteArray):-1≤A4z l∧A4z l≤10000:=by
  unfold A4z
  have:∀ (l:List ByteArray) (t:Int),-1≤t∧t≤10000→-1≤l.foldl A4y t∧l.foldl A4y t≤10000:=by
    intro l
    induction l with
    | nil=>exact fun t h=>h
    | cons s l ih=>
      intro t h
      refine ih _ ?_
      have h2:=D62 s
      unfold A4y
      cases (F9 s).2.1 with
      | false=>exact h
      | true=>
        by_cases h3:(F9 s).1.1>t
        · rw [A0 h3];simp only [cond_true];omega
        · rw [A4 h3];exact h
  exact this l (-1) (by omega)
theorem C1d{l:List ByteArray}(h:A5s l)(i:Nat){s:ByteArray}(hs:s.size≤1048576):A5s (l.set i s):=⟨by rw [List.length_set];exact h.1,fun x hx=>(List.mem_or_eq_of_mem_set hx).elim (h.2 x) (fun e=>by rw [e];exact hs)⟩
theorem F0N(d:D6)(k:List Bool)(h:A2Z d):∃ d',A0S d k=some (d',())∧A1z d k=some (d',())∧A2Z d':=by
  obtain ⟨b,hb,hb2⟩:=B6L d h.1.1
  have hl:=h.1.1
  simp only [A0S,A8B,A1z,B3K,Y6 d h,B1V d h,C3v,hb,A3]
  cases b with
  | false=>exact ⟨d,rfl,rfl,h⟩
  | true=>
    have hlen:=(hb2 rfl).1
    simp only [Bool.not_true,cond_false]
    have step:∀ l:Int×List ByteArray×List ByteArray×Unit,0≤l.1∧l.2.1.length=d.1.length∧l.2.2.1.length=d.1.length∧A5s l.2.1∧A5s l.2.2.1→
        (∃ y:Int×List ByteArray×List ByteArray×Unit,I6 k l=some (.inl y)∧(0≤y.1∧y.2.1.length=d.1.length∧y.2.2.1.length=d.1.length∧A5s y.2.1∧A5s y.2.2.1)∧((d.1.length:Int)-y.1).toNat<((d.1.length:Int)-l.1).toNat)∨
        ∃ z,I6 k l=some (.inr z)∧A2Z z.1:=by
      intro l ⟨h0,h1,h2,h3,h4⟩
      simp only [I6,h1,h2]
      by_cases hi:l.1<(d.1.length:Int)
      · obtain ⟨i,hn⟩:∃ i:Nat,l.1=(i:Int):=⟨l.1.toNat,by omega⟩
        rw [hn] at hi h0 ⊢
        have s1:=A6a h3 (i:=i) (by omega)
        have s2:=A6a h4 (i:=i) (by omega)
        rw [A0 hi,A0 h0,w64 (by omega) (by omega)]
        simp only [cond_true,Int.toNat_natCast]
        refine .inl ?_
        by_cases hk:(i:Int)<(k.length:Int)
        · rw [A0 hk]
          simp only [cond_true,A3]
          cases rd .bool k (i:Int) with
          | true=>exact ⟨_,rfl,⟨by simp only;omega,h1,by simp [h2],h3,C1d h4 i s1⟩,by simp only;omega⟩
          | false=>exact ⟨_,rfl,⟨by simp only;omega,by simp [h1],h2,C1d h3 i s2,h4⟩,by simp only;omega⟩
        · rw [A4 hk]
          simp only [cond_false,A3]
          exact ⟨_,rfl,⟨by simp only;omega,by simp [h1],h2,C1d h3 i s2,h4⟩,by simp only;omega⟩
      · rw [A4 hi]
        exact .inr ⟨_,rfl,h3,h4⟩
    have h0:0≤(0:Int)∧d.1.length=d.1.length∧d.2.length=d.1.length∧A5s d.1∧A5s d.2:=⟨by omega,rfl,hlen.symm,h.1,h.2⟩
    obtain ⟨z,e,hz⟩:=A01 (I6 k) (fun l=>((d.1.length:Int)-l.1).toNat) _ (fun z=>A2Z z.1) step (0,d.1,d.2,()) h0
    refine ⟨z.1,e,?_,hz⟩
    rw [B0R (g:=I6 k) (fun l=>0≤l.1∧l.2.1.length=d.1.length∧l.2.2.1.length=d.1.length∧A5s l.2.1∧A5s l.2.2.1) (fun l hl=>?_) (fun l y hl ey=>?_) h0]
    · exact e
    · simp only [A4L,I6,hl.2.1]
    · have e3:A4L (d,()) k l=I6 k l:=by simp only [A4L,I6,hl.2.1]
      rw [e3] at ey
      rcases step l hl with ⟨y',e1,e2,_⟩ | ⟨z',e1,_⟩
      · rw [e1] at ey;injection ey with ey;injection ey with ey;subst ey;exact e2
      · rw [e1] at ey;injection ey with ey;cases ey
theorem F0O(d:D6)(h:A2Z d):∃ st b,E8 d=some (st,b,())∧Y3 d=some (st,b,())∧A2Z st.1∧Ups st.2.2.2:=by
  have hl:=h.1.1
  obtain ⟨bd,hd,hdt⟩:=B6L d hl
  obtain ⟨l,hs,hi,hll,hrg⟩:=E59 d h.1
  have hfs:=A2Y l (by simp only [maxLen];omega) hrg
  have hfi:=B8Q l (by simp only [maxLen];omega) hrg
  have htop:=C89 d.1
  have h00:A2Z ([],[]):=⟨⟨by simp,fun s hs=>by cases hs⟩,⟨by simp,fun s hs=>by cases hs⟩⟩
  have hups:(P7 l).2.1=true→Ups (P7 l).1:=by
    intro e
    unfold P7 at e ⊢
    split
    · rename_i us' e1
      exact A7B B0W hrg e1
    · rename_i e1
      rw [e1] at e;cases e
  simp only [E8,O5,Y3,B16,C3v,hd,hs,hi,hfs,hfi,A6c d h.1,D2M d h.1,Y6 d h,B1V d h,A3]
  cases bd with
  | false=>exact ⟨_,_,rfl,rfl,h00,B0W⟩
  | true=>
    simp only [Bool.not_true,cond_false]
    generalize P7 l=fr at hups
    cases hk:fr.2.1 with
    | false=>exact ⟨_,_,rfl,rfl,h00,B0W⟩
    | true=>
      rw [w64 (n:=A4z d.1+1) (by omega) (by omega)]
      cases decide (A4z d.1+1>10000) with
      | true=>exact ⟨_,_,rfl,rfl,h00,B0W⟩
      | false=>exact ⟨_,_,rfl,rfl,h,hups hk⟩
def C1e(op:Int):Int:=if op=1 then 1000000000 else if op=3 then 1000000000 else if op=4 then 4294967295 else 0
def A3V(r:V6):Bool:=decide (1≤r.1∧r.1≤6)&&idB r.2.1&&decide (0≤r.2.2∧r.2.2≤C1e r.1)
theorem C9Q(r:V6)(h:r.2.1.size≤maxLen):A5k r=some (A3V r,()):=by
  simp only [A5k,C3n,Q6,A9N _ h,A3,A3V,B0F,B5w,C1e]
  cases decide (1≤r.1∧r.1≤6)
  · rfl
  cases idB r.2.1
  · rfl
  simp only [Bool.not_true,cond_false,C2,Bool.true_and]
  have hz:decide (0≤r.2.2∧r.2.2≤0)=decide (r.2.2=0):=by
    by_cases h0:r.2.2=0
    · rw [A0 h0,A0 (by omega)]
    · rw [A4 h0,A4 (by omega)]
  by_cases h1:r.1=1
  · simp [h1]
  by_cases h3:r.1=3
  · simp [h3]
  by_cases h4:r.1=4
  · simp [h4]
  simp [h1,h3,h4]
  rw [Bool.eq_iff_iff]
  simp
  omega
theorem C9R(r:V6)(h:r.2.1.size≤maxLen):A3f r=some (A3V r,()):=by
  simp only [A3f,C3d,L2,B3v _ h,A3,A3V,A2u,A7L,C1e]
  by_cases h1:r.1=1
  · simp [h1];cases idB r.2.1<;>simp
  by_cases h3:r.1=3
  · simp [h3];cases idB r.2.1<;>simp
  by_cases h4:r.1=4
  · simp [h4];cases idB r.2.1<;>simp
  simp only [A4 h1,A4 h3,A4 h4,if_neg h1,if_neg h3,if_neg h4,cond_false]
  cases decide (1≤r.1∧r.1≤6)<;>cases idB r.2.1<;>simp
def D4g(n:Nat)(h:B7):Bool:=X6 h.2&&decide (0≤h.1∧h.1≤(n:Int)-1)
def A1i(n:Nat)(l:List B7):Bool:=(List.range l.length).all fun i=>D4g n (rd A9 l (i:Int))
theorem C1f(w:A6)(l:List B7)(h:l.length≤maxLen)(hc:w.2.1.length≤1048576):A9E w l=some (A1i w.2.1.length l,()):=by
  simp only [A9E,C0b,A1i]
  refine C4x _ l.length h (fun i=>D4g w.2.1.length (rd A9 l (i:Int))) (fun i hi=>?_) (by simp [B3l])
  have g1:((i:Int)<(l.length:Int)):=by omega
  have g2:(0:Int)≤(i:Int):=by omega
  simp only [B3l,A0 g1,A0 g2,cond_true,Q6,B6E,A3,D4g]
  rw [w64 (n:=(w.2.1.length:Int)-1) (by omega) (by omega)]
  cases decide (0≤(rd A9 l (i:Int)).1∧(rd A9 l (i:Int)).1≤(w.2.1.length:Int)-1)<;>cases X6 (rd A9 l (i:Int)).2<;>rfl
theorem D8j(w:A6)(l:List B7)(h:l.length≤maxLen)(hc:w.2.1.length≤1048576):A8h w l=some (A1i w.2.1.length l,()):=by
  simp only [A8h,C0G,A1i]
  refine C4x _ l.length h (fun i=>D4g w.2.1.length (rd A9 l (i:Int))) (fun i hi=>?_) (by simp [B3E])
  have g1:((i:Int)<(l.length:Int)):=by omega
  have g2:(0:Int)≤(i:Int):=by omega
  simp only [B3E,A0 g1,A0 g2,cond_true,L2,B6F,A3,D4g]
  rw [w64 (n:=(w.2.1.length:Int)-1) (by omega) (by omega)]
  cases decide (0≤(rd A9 l (i:Int)).1∧(rd A9 l (i:Int)).1≤(w.2.1.length:Int)-1)<;>cases X6 (rd A9 l (i:Int)).2<;>rfl
def E6P(w:A6):Prop:=w.2.1.length≤1048576∧∀ c∈w.2.1,c.1.size≤maxLen
theorem C52(w:A6)(h:E6P w)(i:Nat)(hi:i<w.2.1.length):∃ z,B6 (U1 ((i:Int),()) w) (0,())=some z∧(z=.inl ((i:Int)+1,())∨z=.inr (.inr (false,()))):=by
  have hl:=h.1
  refine A01 (U1 ((i:Int),()) w) (fun l=>((i:Int)-l.1).toNat) (fun l=>0≤l.1) (fun z=>z=.inl ((i:Int)+1,())∨z=.inr (.inr (false,()))) (fun l h0=>?_) (0,()) (by simp)
  simp only [U1]
  by_cases hj:l.1<(i:Int)
  · rw [A0 hj,A0 h0,A0 (show l.1<(w.2.1.length:Int) by omega),A0 (show (0:Int)≤(i:Int) by omega),A0 (show (i:Int)<(w.2.1.length:Int) by omega)]
    simp only [cond_true]
    rw [w64 (n:=l.1+1) (by omega) (by omega)]
    cases ((rd B2 w.2.1 l.1).1.toList == (rd B2 w.2.1 (i:Int)).1.toList)
    · exact .inl ⟨_,rfl,by simp only;omega,by simp only;omega⟩
    · exact .inr ⟨_,rfl,.inr rfl⟩
  · rw [A4 hj,w64 (n:=(i:Int)+1) (by omega) (by omega)]
    exact .inr ⟨_,rfl,.inl rfl⟩
theorem D8k(w:A6)(h:E6P w)(i:Nat)(hi:i<w.2.1.length):B6 (A2r w ((i:Int),())) (0,())=B6 (U1 ((i:Int),()) w) (0,()):=by
  have hl:=h.1
  have hlen:((w.2.1.take i).drop 0).length=i:=by simp;omega
  refine B0R (fun l=>0≤l.1) (fun l h0=>?_) (fun l y h0 e=>?_) (by simp)
  · simp only [A2r,U1,Int.toNat_natCast,hlen]
    by_cases hj:l.1<(i:Int)
    · obtain ⟨j,hn⟩:∃ j:Nat,l.1=(j:Int):=⟨l.1.toNat,by omega⟩
      rw [hn] at hj h0 ⊢
      rw [A0 hj,A0 h0,A0 (show (j:Int)<(w.2.1.length:Int) by omega),A0 (show (0:Int)≤(i:Int) by omega),A0 (show (i:Int)<(w.2.1.length:Int) by omega)]
      simp only [cond_true]
      have e:rd B2 ((w.2.1.take i).drop 0) (j:Int)=rd B2 w.2.1 (j:Int):=by
        rw [C4 (k:=B2) (xs:=(w.2.1.take i).drop 0) (by rw [hlen];omega),C4 (k:=B2) (xs:=w.2.1) (by omega)]
        simp
      rw [e]
    · rw [A4 hj]
      rfl
  · simp only [A2r,Int.toNat_natCast,hlen] at e
    by_cases hj:l.1<(i:Int)
    · rw [A0 hj,A0 h0] at e
      simp only [cond_true] at e
      rw [w64 (n:=l.1+1) (by omega) (by omega)] at e
      revert e
      cases ((rd B2 ((w.2.1.take i).drop 0) l.1).1.toList == (rd B2 w.2.1 (i:Int)).1.toList)
      · intro e
        simp only [cond_false] at e
        injection e with e;injection e with e;subst e
        simp only;omega
      · intro e
        simp only [cond_true] at e
        injection e with e;cases e
    · rw [A4 hj] at e
      simp only [cond_false] at e
      injection e with e;cases e
theorem C1g(w:A6)(h:E6P w)(l:Int×Unit)(h0:0≤l.1) :
    A2s L0 w l=J0 H6 w l∧((∃ y,J0 H6 w l=some (.inl y)∧y.1=l.1+1∧l.1<(w.2.1.length:Int))∨J0 H6 w l=some (.inr (.inl ()))∨J0 H6 w l=some (.inr (.inr (false,())))):=by
  have hl:=h.1
  simp only [A2s,J0]
  by_cases hi:l.1<(w.2.1.length:Int)
  · obtain ⟨i,hn⟩:∃ i:Nat,l.1=(i:Int):=⟨l.1.toNat,by omega⟩
    obtain ⟨l1,u⟩:=l
    simp only at hn hi h0
    subst hn
    have hi':i<w.2.1.length:=by omega
    have hsz:(rd B2 w.2.1 (i:Int)).1.size≤maxLen:=by
      rw [C4 (k:=B2) (xs:=w.2.1) hi']
      exact h.2 _ (List.getElem_mem hi')
    simp only
    rw [A0 hi,A0 h0,A6Z _ hsz,A6Y _ hsz,A0 (show (i:Int)≤(w.2.1.length:Int) by omega),D8k w h i hi']
    simp only [cond_true,A3]
    cases J1 (rd B2 w.2.1 (i:Int)) with
    | false=>exact ⟨trivial,.inr (.inr rfl)⟩
    | true=>
      obtain ⟨z,e,hz⟩:=C52 w h i hi'
      simp only [Bool.not_true,cond_false]
      refine ⟨trivial,?_⟩
      rw [e]
      rcases hz with rfl | rfl
      · exact .inl ⟨_,rfl,rfl,hi⟩
      · exact .inr (.inr rfl)
  · rw [A4 hi]
    exact ⟨rfl,.inr (.inl rfl)⟩
theorem C9S(w:A6)(h:E6P w):∃ b,U7 w=some (b,())∧A2C w=some (b,())∧(b=true→w.2.1.length≤6∧w.2.2.1.length=w.2.1.length∧w.2.2.2.2.2.length=w.2.1.length):=by
  have hl:=h.1
  have e1:B6 (A2s L0 w) (0,())=B6 (J0 H6 w) (0,()):=by
    refine B0R (fun l=>0≤l.1) (fun l h0=>(C1g w h l h0).1) (fun l y h0 e=>?_) (by simp)
    rw [(C1g w h l h0).1] at e
    rcases (C1g w h l h0).2 with ⟨y',e2,e3,_⟩ | e2 | e2
    · rw [e2] at e;injection e with e;injection e with e;subst e;omega
    · rw [e2] at e;injection e with e;cases e
    · rw [e2] at e;injection e with e;cases e
  obtain ⟨z,e2,hz⟩:=A01 (J0 H6 w) (fun l=>((w.2.1.length:Int)-l.1).toNat) (fun l=>0≤l.1) (fun z=>z=.inl ()∨z=.inr (false,())) (fun l h0=>by
    rcases (C1g w h l h0).2 with ⟨y',e2,e3,e4⟩ | e2 | e2
    · exact .inl ⟨y',e2,by omega,by omega⟩
    · exact .inr ⟨_,e2,.inl rfl⟩
    · exact .inr ⟨_,e2,.inr rfl⟩) (0,()) (by simp)
  simp only [U7,A4i,A2C,B11,e1,e2]
  rcases hz with rfl | rfl
  · simp only [C2]
    by_cases h1:(w.2.1.length:Int)≤6
    · rw [A0 h1]
      by_cases h2:(w.2.2.1.length:Int)=(w.2.1.length:Int)
      · rw [A0 h2]
        refine ⟨_,rfl,rfl,fun e=>?_⟩
        have e3:=of_decide_eq_true e
        omega
      · rw [A4 h2]
        exact ⟨_,rfl,rfl,fun e=>by cases e⟩
    · rw [A4 h1]
      exact ⟨_,rfl,rfl,fun e=>by cases e⟩
  · exact ⟨_,rfl,rfl,fun e=>by cases e⟩
def C53(n:Nat)(a:D7):Bool:=A3V a.2.1&&decide (0≤a.1∧a.1≤(n:Int)-1)
def F1s(w:A6):Prop:=A5s w.1.1.1.1∧w.1.2.length≤1048576∧E6P w∧(w.2.2.2.1.length≤1048576∧∀ a∈w.2.2.2.1,a.2.1.2.1.size≤maxLen)∧w.2.2.2.2.1.length≤1048576
theorem E2Y(w:A6)(h:F1s w):∃ b,A0A w=some (b,())∧A3g w=some (b,()):=by
  obtain ⟨h1,h2,h3,⟨h4,h4'⟩,h5⟩:=h
  have hc:=h3.1
  obtain ⟨bs,es,ei,_⟩:=C51 w.1 h1 h2
  obtain ⟨bc,cs,ci,_⟩:=C9S w h3
  have ht:=C1f w w.2.2.2.2.1 (by simp only [maxLen];omega) hc
  have ht':=D8j w w.2.2.2.2.1 (by simp only [maxLen];omega) hc
  have hh:=C1f w w.1.2 (by simp only [maxLen];omega) hc
  have hh':=D8j w w.1.2 (by simp only [maxLen];omega) hc
  have hloop:=C4x (Y5 A5k E4 w) w.2.2.2.1.length (by simp only [maxLen];omega) (fun i=>C53 w.2.1.length (rd B9 w.2.2.2.1 (i:Int))) (fun i hi=>by
    have g1:((i:Int)<(w.2.2.2.1.length:Int)):=by omega
    have g2:(0:Int)≤(i:Int):=by omega
    have hsz:(rd B9 w.2.2.2.1 (i:Int)).2.1.2.1.size≤maxLen:=by
      rw [C4 (k:=B9) (xs:=w.2.2.2.1) hi]
      exact h4' _ (List.getElem_mem hi)
    simp only [Y5,A0 g1,A0 g2,cond_true,Q6,C9Q _ hsz,A3,C53]
    rw [w64 (n:=(w.2.1.length:Int)-1) (by omega) (by omega)]
    cases decide (0≤(rd B9 w.2.2.2.1 (i:Int)).1∧(rd B9 w.2.2.2.1 (i:Int)).1≤(w.2.1.length:Int)-1)<;>cases A3V (rd B9 w.2.2.2.1 (i:Int)).2.1<;>rfl) (by simp [Y5])
  have istep:∀ i:Nat,i<w.2.2.2.1.length→A62 A3f C8 w ((i:Int),())=bif C53 w.2.1.length (rd B9 w.2.2.2.1 (i:Int)) then some (.inl (((i+1:Nat):Int),())) else some (.inr (.inr (false,()))):=fun i hi=>by
    have g1:((i:Int)<(w.2.2.2.1.length:Int)):=by omega
    have g2:(0:Int)≤(i:Int):=by omega
    have hsz:(rd B9 w.2.2.2.1 (i:Int)).2.1.2.1.size≤maxLen:=by
      rw [C4 (k:=B9) (xs:=w.2.2.2.1) hi]
      exact h4' _ (List.getElem_mem hi)
    have e1:((i+1:Nat):Int)=(i:Int)+1:=by omega
    simp only [A62,A0 g1,A0 g2,cond_true,L2,C9R _ hsz,A3,C53,e1]
    rw [w64 (n:=(w.2.1.length:Int)-1) (by omega) (by omega),w64 (n:=(i:Int)+1) (by omega) (by omega)]
    cases decide (0≤(rd B9 w.2.2.2.1 (i:Int)).1∧(rd B9 w.2.2.2.1 (i:Int)).1≤(w.2.1.length:Int)-1)<;>cases A3V (rd B9 w.2.2.2.1 (i:Int)).2.1<;>rfl
  simp only [A0A,B0H,A3g,B5T,es,ei,cs,ci,ht,ht',hh,hh',hloop,A3]
  have hirest:(bif A1i w.2.1.length w.2.2.2.2.1 then bif A1i w.2.1.length w.1.2 then some (bs,()) else some (false,()) else some (false,()))=some (A1i w.2.1.length w.2.2.2.2.1&&A1i w.2.1.length w.1.2&&bs,()):=by
    cases A1i w.2.1.length w.2.2.2.2.1<;>cases A1i w.2.1.length w.1.2<;>rfl
  have hi:=F0I istep (by simp [A62]) (fun _=>(bif A1i w.2.1.length w.2.2.2.2.1 then bif A1i w.2.1.length w.1.2 then some (bs,()) else some (false,()) else some (false,()))) _ hirest
  rw [C9I] at hi
  generalize ((List.range w.2.2.2.1.length).all fun i=>C53 w.2.1.length (rd B9 w.2.2.2.1 (i:Int)))=ba at hi ⊢
  cases bc with
  | false=>
    cases bs<;>exact ⟨_,rfl,rfl⟩
  | true=>
    simp only [Bool.not_true,cond_false]
    cases decide ((w.2.2.2.1.length:Int)>60) with
    | true=>cases bs<;>exact ⟨_,rfl,rfl⟩
    | false=>
      cases decide ((w.2.2.2.2.1.length:Int)>60) with
      | true=>cases bs<;>exact ⟨_,rfl,rfl⟩
      | false=>
        simp only [cond_false]
        have e0:∀ g:Unit→Option (Bool×Unit),C2 (some (.inl ():Unit⊕(Bool×Unit))) g=g ():=fun g=>rfl
        simp only [e0]
        refine ⟨_,?_,hi⟩
        cases bs<;>cases A1i w.2.1.length w.2.2.2.2.1<;>cases A1i w.2.1.length w.1.2<;>simp [C2]
theorem E8p(a:List Bool)(h:a.length≤1048576):MH (Q5 a) A6P (cost (fun _=>1) a):=by
  refine B7q W0 A3F (fun _=>1) a h (fun i hi m h0 h1=>?_) (fun m b hb=>by simp [W0,hb]) (fun m b hb=>by simp [A3F,hb])
  have w1:IntKind.i64.wrap (m+1)=m+1:=w64 (by omega) (by omega)
  have wi:IntKind.i64.wrap ((i:Int)+1)=(i:Int)+1:=w64 (by omega) (by omega)
  have g1:(0:Int)≤(i:Int):=by omega
  refine ⟨m+1,decide (m.tmod 3=0),by omega,by omega,fun b hb e=>?_,fun b hb e=>?_⟩
  · have g2:(i:Int)<(b.length:Int):=by omega
    simp only [W0,A0 g1,A0 g2,cond_true,Int.toNat_natCast,w1,wi]
  · have g2:(i:Int)<(b.length:Int):=by omega
    have hr:rd .bool b (i:Int)=decide (m.tmod 3=0):=by rw [E54 (by omega)];exact e
    simp only [A3F,A0 g1,A0 g2,cond_true,w1,wi,hr]
    simp
theorem F0P(a:List Int)(h:a.length≤1048576):MH (A81 a) A84 (cost (fun _=>1) a):=by
  refine B7q A4X A4a (fun _=>1) a h (fun i hi m h0 h1=>?_) (fun m b hb=>by simp [A4X,hb]) (fun m b hb=>by simp [A4a,hb])
  have w1:IntKind.i64.wrap (m+1)=m+1:=w64 (by omega) (by omega)
  have wi:IntKind.i64.wrap ((i:Int)+1)=(i:Int)+1:=w64 (by omega) (by omega)
  have g1:(0:Int)≤(i:Int):=by omega
  refine ⟨m+1,m,by omega,by omega,fun b hb e=>?_,fun b hb e=>?_⟩
  · have g2:(i:Int)<(b.length:Int):=by omega
    simp only [A4X,A0 g1,A0 g2,cond_true,Int.toNat_natCast,w1,wi]
  · have g2:(i:Int)<(b.length:Int):=by omega
    have hr:rd (.int .i64) b (i:Int)=m:=by rw [C3o (by omega)];exact e
    simp only [A4a,A0 g1,A0 g2,cond_true,w1,wi,hr]
    simp
theorem E2Z(a:List B1)(h:a.length≤1048576):MH (A38 a) A3E (cost (fun u=>List.length u.2.1+3) a):=by
  refine B7q (A0v I8 D3) (A0x I9 D3) (fun u=>List.length u.2.1+3) a h (fun i hi m h0 h1=>?_) (fun m b hb=>by simp [A0v,hb]) (fun m b hb=>by simp [A0x,hb])
  obtain ⟨m1,d,e1,b1,b2,e2⟩:=C9M a[i].2.1 (m+1) (by omega) (by omega)
  have w1:IntKind.i64.wrap (m+1)=m+1:=w64 (by omega) (by omega)
  have w2:IntKind.i64.wrap (m1+1)=m1+1:=w64 (by omega) (by omega)
  have w3:IntKind.i64.wrap (m1+1+1)=m1+1+1:=w64 (by omega) (by omega)
  have wi:IntKind.i64.wrap ((i:Int)+1)=(i:Int)+1:=w64 (by omega) (by omega)
  have g1:(0:Int)≤(i:Int):=by omega
  have ht:=A78 m (by omega)
  refine ⟨m1+1+1,(mt m,d,m1,m1+1),by omega,by omega,fun b hb e=>?_,fun b hb e=>?_⟩
  · have hib:i<b.length:=by omega
    have g2:(i:Int)<(b.length:Int):=by omega
    have hr:rd B2 b (i:Int)=a[i]:=by rw [C4 (k:=B2) (xs:=b) (by omega)];exact e
    simp only [A0v,A3,ht,List.length_set,A0 g1,A0 g2,cond_true,Int.toNat_natCast,w1,w2,w3,wi,List.set_set,C9L (k:=B2) hib,hr,e1]
  · have g2:(i:Int)<(b.length:Int):=by omega
    have hr:rd B2 b (i:Int)=(mt m,d,m1,m1+1):=by rw [C4 (k:=B2) (xs:=b) (by omega)];exact e
    simp only [A0x,A3,ht,A0 g1,A0 g2,cond_true,w1,w2,w3,wi,hr,e2]
    rw [A4 (show ¬ m1<0 by omega)]
    simp
theorem E8q(a:List D7)(h:a.length≤1048576):MH (A6K a) A6R (cost (fun u=>List.length u.2.2+4) a):=by
  refine B7q (A39 I8 D3) (A3G I9 D3) (fun u=>List.length u.2.2+4) a h (fun i hi m h0 h1=>?_) (fun m b hb=>by simp [A39,hb]) (fun m b hb=>by simp [A3G,hb])
  obtain ⟨m1,d,e1,b1,b2,e2⟩:=C9M a[i].2.2 (m+1+1+1+1) (by omega) (by omega)
  have w1:IntKind.i64.wrap (m+1)=m+1:=w64 (by omega) (by omega)
  have w2:IntKind.i64.wrap (m+1+1)=m+1+1:=w64 (by omega) (by omega)
  have w3:IntKind.i64.wrap (m+1+1+1)=m+1+1+1:=w64 (by omega) (by omega)
  have w4:IntKind.i64.wrap (m+1+1+1+1)=m+1+1+1+1:=w64 (by omega) (by omega)
  have wi:IntKind.i64.wrap ((i:Int)+1)=(i:Int)+1:=w64 (by omega) (by omega)
  have g1:(0:Int)≤(i:Int):=by omega
  have ht:=A78 (m+1+1) (by omega)
  refine ⟨m1,(m,(m+1,mt (m+1+1),m+1+1+1),d),by omega,by omega,fun b hb e=>?_,fun b hb e=>?_⟩
  · have hib:i<b.length:=by omega
    have g2:(i:Int)<(b.length:Int):=by omega
    have hr:rd B9 b (i:Int)=a[i]:=by rw [C4 (k:=B9) (xs:=b) (by omega)];exact e
    simp only [A39,A3,List.length_set,A0 g1,A0 g2,cond_true,Int.toNat_natCast,w1,w2,w3,w4,wi,List.set_set,C9L (k:=B9) hib,hr,ht,e1]
  · have g2:(i:Int)<(b.length:Int):=by omega
    have hr:rd B9 b (i:Int)=(m,(m+1,mt (m+1+1),m+1+1+1),d):=by rw [C4 (k:=B9) (xs:=b) (by omega)];exact e
    simp only [A3G,A3,A0 g1,A0 g2,cond_true,w1,w2,w3,w4,wi,hr,ht,e2]
    rw [A4 (show ¬ m1<0 by omega)]
    simp
def C9T(w:A6):Nat:=B7r w.1+cost (fun u:B1=>List.length u.2.1+3) w.2.1+cost (fun _:Bool=>1) w.2.2.1+cost (fun u:D7=>List.length u.2.2+4) w.2.2.2.1+cost (fun _:B7=>3) w.2.2.2.2.1+cost (fun _:Int=>1) w.2.2.2.2.2
def F1t(w:A6):Prop:=w.1.1.2.2.2.length≤1048576∧w.1.2.length≤1048576∧w.2.1.length≤1048576∧w.2.2.1.length≤1048576∧w.2.2.2.1.length≤1048576∧w.2.2.2.2.1.length≤1048576∧w.2.2.2.2.2.length≤1048576
theorem D8l(w:A6)(h:F1t w)(m:Int)(h0:0≤m)(h1:m+C9T w<4611686018427387904) :
    ∃ m' y1 y2 y3 y4,A2O w m=some (m',(((y1,w.1.1.2.1,w.1.1.2.2.1,y2),y3),y4),())∧m≤m'∧m'≤m+C9T w∧∀ a b,A2Q (((y1,a,b,y2),y3),y4) m=some (m',()):=by
  obtain ⟨l1,l2,l3,l4,l5,l6,l7⟩:=h
  unfold C9T at *
  obtain ⟨m1,y1,y2,y3,e1,a1,b1,f1⟩:=E6O w.1 l1 l2 m h0 (by omega)
  obtain ⟨m2,z2,e2,a2,b2,f2⟩:=E2Z w.2.1 l3 m1 (by omega) (by omega)
  obtain ⟨m3,z3,e3,a3,b3,f3⟩:=E8p w.2.2.1 l4 m2 (by omega) (by omega)
  obtain ⟨m4,z4,e4,a4,b4,f4⟩:=E8q w.2.2.2.1 l5 m3 (by omega) (by omega)
  obtain ⟨m5,z5,e5,a5,b5,f5⟩:=D8h w.2.2.2.2.1 l6 m4 (by omega) (by omega)
  obtain ⟨m6,z6,e6,a6,b6,f6⟩:=F0P w.2.2.2.2.2 l7 m5 (by omega) (by omega)
  refine ⟨m6,y1,y2,y3,(z2,z3,z4,z5,z6),?_,by omega,by omega,fun a b=>?_⟩
  · simp only [A2O,B1L,e1,e2,e3,e4,e5,e6,A3]
  · simp only [A2Q,B1O,f1,f2,f3,f4,f5,f6,A3]
    rw [A4 (show ¬ m1<0 by omega),A4 (show ¬ m2<0 by omega),A4 (show ¬ m3<0 by omega),A4 (show ¬ m4<0 by omega),A4 (show ¬ m5<0 by omega),A4 (show ¬ m6<0 by omega)]
    rfl
theorem F0Q{N e1 e2:Nat}{d:D6}(hN:N≤1048576)(h:Sm N (.pair (.sl e1 .str) (.sl e2 .str)) d):A2Z d:=⟨D60 hN (Sm.l h),D60 hN (Sm.r h)⟩
theorem E8r{N:Nat}{s:A8}(hN:N≤1048576)(h:Sm N B7f s):A7b s:=⟨F0Q hN (Sm.l h),by
    have h1:List.length s.2.2.2≤N:=(Sm.r (Sm.r (Sm.r h))).1
    omega,fun u hu=>by
    have h1:Sm N kUp u:=(Sm.r (Sm.r (Sm.r h))).2 u hu
    have h2:List.length u.2.2.1≤N:=(Sm.l (Sm.r (Sm.r h1))).1
    omega⟩
theorem E5B{N:Nat}{s:C0}(hN:N≤1048576)(h:Sm N B1s s):D4f s:=⟨E8r hN (Sm.l h),by
    have h1:List.length s.2≤N:=(Sm.r h).1
    omega⟩
theorem E6Q{a b:List Int}(ha:Byt a)(hb:Byt b)(h:(strOf a).toList=(strOf b).toList):a=b:=by
  rw [ByteArray.toList_eq,ByteArray.toList_eq] at h
  have h2:(a.map fun n=>UInt8.ofNat n.toNat)=b.map fun n=>UInt8.ofNat n.toNat:=h
  have hl:a.length=b.length:=by simpa using congrArg List.length h2
  refine List.ext_getElem hl fun i h1 h3=>?_
  have h4:=congrArg (fun l=>l[i]?) h2
  simp only [List.getElem?_map,List.getElem?_eq_getElem h1,List.getElem?_eq_getElem h3,Option.map_some,Option.some.injEq] at h4
  exact F1S (ha _ (List.getElem_mem h1)) (hb _ (List.getElem_mem h3)) h4
theorem E5C{a b:ByteArray}(h:a.toList=b.toList):a=b:=by
  rw [ByteArray.toList_eq,ByteArray.toList_eq] at h
  obtain ⟨⟨a⟩⟩:=a
  obtain ⟨⟨b⟩⟩:=b
  have h:a=b:=h
  rw [h]
theorem E6R{a b:TUp}(ha:Byt a.2.2.1)(hb:Byt b.2.2.1)(h:A6b a b=true):a=b:=by
  simp only [A6b,Bool.and_eq_true,beq_iff_eq,decide_eq_true_eq] at h
  obtain ⟨⟨⟨h1,h2⟩,h3⟩,h4⟩:=h
  obtain ⟨a1,a2,a3,a4⟩:=a
  obtain ⟨b1,b2,b3,b4⟩:=b
  simp only at h1 h2 h3 h4 ha hb
  rw [E5C h1,h2,h3,E6Q ha hb h4]
theorem E2a{a b:List TUp}(ha:∀ u∈a,Byt u.2.2.1)(hb:∀ u∈b,Byt u.2.2.1)(h:A0d a b=true):a=b:=by
  simp only [A0d,Bool.and_eq_true,decide_eq_true_eq,List.all_eq_true,List.mem_range] at h
  refine List.ext_getElem h.1 fun i h1 h3=>?_
  have h4:=h.2 i h1
  rw [C4 (k:=kUp) (xs:=a) h1,C4 (k:=kUp) (xs:=b) h3] at h4
  exact E6R (ha _ (List.getElem_mem h1)) (hb _ (List.getElem_mem h3)) h4
def wrote(st:A8)(r:H7)(us:List TUp):A8:=((st.1.1.set st.2.2.1.toNat (V8 r),st.1.2),st.2.1,st.2.2.1+1,us)
theorem B3y(st:A8)(a b kind:Int)(id:ByteArray)(n:Int)(data:List Int)(hU:Ups st.2.2.2)(hr:P1 (st.2.1,st.2.2.1,kind,id,n,data)=true)(hb:Byt data)(h0:0≤st.2.2.1)(h1:st.2.2.1<(st.1.1.length:Int))(hl:st.1.1.length≤1048576)
    (us:List TUp) (hf:N6 st.2.2.2 (st.2.1,st.2.2.1,kind,id,n,data)=some us):F5 st (a,b,kind,id,n,data)=some (wrote st (st.2.1,st.2.2.1,kind,id,n,data) us,()):=by
  have hbd:=A03 hr
  simp only at hbd
  simp only [F5,A4j]
  rw [C4y (st.2.1,st.2.2.1,kind,id,n,data) (by simp only;omega) (by simp only;omega) hb,A0 h0,A0 h1]
  simp only [A3,cond_true]
  obtain ⟨x,hx,hx2⟩:=D8e st.2.2.2 (st.2.1,st.2.2.1,kind,id,n,data) hU (by simp only;omega)
  have hI:B4M st.2.2.2 (st.2.1,st.2.2.1,kind,id,n,data)=(us,true,()):=by unfold B4M;rw [hf]
  rw [hI] at hx hx2
  rw [hx,hx2 rfl,w64 (by omega) (by omega)]
  rfl
theorem B3z(st:A8)(kind:Int)(id:ByteArray)(n:Int)(data:List Int)(hU:Ups st.2.2.2)(hr:P1 (st.2.1,st.2.2.1,kind,id,n,data)=true)(hb:Byt data)(h0:0≤st.2.2.1)(h1:st.2.2.1<(st.1.1.length:Int))(hl:st.1.1.length≤1048576)
    (us:List TUp) (hf:N6 st.2.2.2 (st.2.1,st.2.2.1,kind,id,n,data)=some us):C9 st kind id n data=some (wrote st (st.2.1,st.2.2.1,kind,id,n,data) us,()):=by
  have hbd:=A03 hr
  simp only at hbd
  simp only [C9,A0p]
  rw [C4z (st.2.1,st.2.2.1,kind,id,n,data) (by simp only [maxLen];omega) hb,if_pos hr,A0 h0,A0 h1]
  simp only [A3,cond_true]
  have hI:B4M st.2.2.2 (st.2.1,st.2.2.1,kind,id,n,data)=(us,true,()):=by unfold B4M;rw [hf]
  rw [D4a st.2.2.2 (st.2.1,st.2.2.1,kind,id,n,data) hU (by simp only;omega),hI,w64 (by omega) (by omega)]
  rfl
theorem D8m{r:H7}(h:P1 r=true):(V8 r).size≤1000:=by
  have hb:=A03 h
  unfold V8
  rw [A5q,List.length_append,B6H,J6]
  omega
theorem E2b{st:A8}(h:A2Z st.1){r:H7}(hr:P1 r=true)(us:List TUp):A2Z (wrote st r us).1:=⟨C1d h.1 _ (by have:=D8m hr;omega),h.2⟩
theorem A8P(us:List TUp)(id:ByteArray)(h:us.length≤maxLen):G3 us id=some (if I3 us id=true then (B5 us id:Int) else -1):=by
  simp only [G3,D4Z us id h,A3]
  cases I3 us id<;>rfl
end Go.Proofs.YtpdcljonclhhpaaGreat.Ev
