/- What the plain functions of the program and of the reference answer: laws of plain data. -/
import Derived.Test.YtpdcljonclhhpaaGreatPu
import Derived.Laws.Strings
set_option linter.unusedVariables false
set_option linter.unusedSimpArgs false
namespace Go.Proofs.YtpdcljonclhhpaaGreat.Ev
theorem w64{n:Int}(h0:-9223372036854775808≤n)(h1:n<9223372036854775808):IntKind.i64.wrap n=n:=by
  simp only [IntKind.wrap,IntKind.bits,IntKind.signed,Bool.true_and]
  simp
  split<;>omega
theorem A0C{α β:Type}(f:α→Option (α⊕β))(μ:α→Nat)(I:α→Prop)(Q:β→Prop)
    (h:∀ x,I x→(∃ y,f x=some (.inl y)∧I y∧μ y<μ x)∨∃ z,f x=some (.inr z)∧Q z):∀ x,I x→∃ z,B8 f x=some z∧Q z:=by
  intro x
  generalize hn:μ x=n
  induction n using Nat.strongRecOn generalizing x with
  | ind n ih=>
    intro hx
    rw [V0]
    rcases h x hx with ⟨y,e,hy,hl⟩ | ⟨z,e,hz⟩
    · rw [e];exact ih (μ y) (by omega) y rfl hy
    · rw [e];exact ⟨z,rfl,hz⟩
theorem D7{α β:Type}(f:α→Option (α⊕β))(s:Nat→α)(n:Nat)(z:β)(h:∀ i,i<n→f (s i)=some (.inl (s (i+1))))(he:f (s n)=some (.inr z)):B8 f (s 0)=some z:=by
  have key:∀ k i,i+k=n→B8 f (s i)=some z:=by
    intro k
    induction k with
    | zero=>intro i hi;rw [V0,show i=n by omega,he]
    | succ k ih=>intro i hi;rw [V0,h i (by omega)];exact ih (i+1) (by omega)
  exact key n 0 (by omega)
theorem D4d{α β:Type}(f:α→Option (α⊕β))(s:Nat→α)(n:Nat)(z:Nat→β)(go:Nat→Bool)(h:∀ i,i<n→f (s i)=if go i then some (.inl (s (i+1))) else some (.inr (z i)))(he:f (s n)=some (.inr (z n))) :
    ∃ i,i≤n∧(∀ j,j<i→go j=true)∧(i<n→go i=false)∧B8 f (s 0)=some (z i):=by
  have key:∀ k i,i+k=n→(∀ j,j<i→go j=true)→∃ i',i'≤n∧(∀ j,j<i'→go j=true)∧(i'<n→go i' = false)∧B8 f (s i)=some (z i'):=by
    intro k
    induction k with
    | zero=>
      intro i hi hg
      obtain rfl:i=n:=by omega
      exact ⟨i,Nat.le_refl _,hg,fun h=>absurd h (by omega),by rw [V0,he]⟩
    | succ k ih=>
      intro i hi hg
      cases hgo:go i with
      | true=>
        obtain ⟨i',h1,h2,h3,h4⟩:=ih (i+1) (by omega) (fun j hj=>by
          by_cases h:j<i
          · exact hg j h
          · rw [show j=i by omega];exact hgo)
        refine ⟨i',h1,h2,h3,?_⟩
        rw [V0,h i (by omega),if_pos hgo]
        exact h4
      | false=>
        refine ⟨i,by omega,hg,fun _=>hgo,?_⟩
        rw [V0,h i (by omega),hgo]
        rfl
  exact key n 0 (by omega) (fun j hj=>by omega)
theorem E3N(s:ByteArray)(i:Int):0≤bt s i:=by unfold bt;omega
theorem E3O(s:ByteArray)(i:Int):bt s i<256:=by
  have:=(s.data.toList.getD i.toNat 0).toNat_lt
  unfold bt;omega
theorem E2s(s:ByteArray)(i:Int):IntKind.i64.wrap (bt s i)=bt s i:=w64 (by have:=E3N s i;omega) (by have:=E3O s i;omega)
theorem C8{k:K}{xs:List k.T}{i:Nat}(h:i<xs.length):rd k xs (i:Int)=xs[i]:=by
  unfold rd
  rw [Int.toNat_natCast]
  simp [List.getD,h]
theorem B1q{κ:IntKind}{xs:List Int}{i:Nat}(h:i<xs.length):rd (.int κ) xs (i:Int)=xs[i]:=C8 (k:=.int κ) h
theorem A5K{xs:List ByteArray}{i:Nat}(h:i<xs.length):rd .str xs (i:Int)=xs[i]:=C8 (k:=.str) h
def Byt(a:List Int):Prop:=∀ x∈a,0≤x∧x<256
theorem pe{α β:Type}(p:α×β):(p.1,p.2)=p:=rfl
theorem A0{p:Prop} [Decidable p] (h:p):decide p=true:=decide_eq_true h
theorem A3{p:Prop} [Decidable p] (h:¬ p):decide p=false:=decide_eq_false h
def Sm(N:Nat):(k:K)→k.T→Prop
  | .int _,_=>True
  | .bool,_=>True
  | .fnc _,_=>True
  | .str,s=>s.size≤N
  | .sl _ k,xs=>xs.length≤N∧∀ x∈xs,Sm N k x
  | .rs _ k,xs=>xs.length≤N∧∀ x∈xs,Sm N k x
  | .pair a b,x=>Sm N a x.1∧Sm N b x.2
theorem Sm.l{N:Nat}{a b:K}{x:(K.pair a b).T}(h:Sm N (.pair a b) x):Sm N a x.1:=h.1
theorem Sm.r{N:Nat}{a b:K}{x:(K.pair a b).T}(h:Sm N (.pair a b) x):Sm N b x.2:=h.2
theorem B3o{α β:Type}{f g:α→Option (α⊕β)}(I:α→Prop)(h:∀ x,I x→f x=g x)(hI:∀ x y,I x→f x=some (.inl y)→I y):∀ n x,I x→A6V f n x=A6V g n x
  | 0,_,_=>rfl
  | n+1,x,hx=>by
    simp only [A6V,← h x hx]
    cases e:f x with
    | none=>rfl
    | some v=>
      cases v with
      | inl y=>exact B3o I h hI n y (hI x y hx e)
      | inr z=>rfl
theorem A8t{α β:Type}{f g:α→Option (α⊕β)}(I:α→Prop)(h:∀ x,I x→f x=g x)(hI:∀ x y,I x→f x=some (.inl y)→I y){x:α}(hx:I x):B8 f x=B8 g x:=by
  cases e:B8 g x with
  | some z=>
    obtain ⟨n,hn⟩:=A4y e
    exact B3H (n:=n) (by rw [B3o I h hI n x hx];exact hn)
  | none=>
    cases e':B8 f x with
    | none=>rfl
    | some z=>
      obtain ⟨n,hn⟩:=A4y e'
      rw [B3o I h hI n x hx] at hn
      rw [B3H hn] at e
      cases e
def N7(go:Nat→Bool):Nat→Nat→Nat
  | i,0=>i
  | i,k+1=>if go i then N7 go (i+1) k else i
theorem C03(go:Nat→Bool):∀ k i,N7 go i k≤i+k
  | 0,i=>Nat.le_refl _
  | k+1,i=>by
    simp only [N7]
    split
    · have:=C03 go k (i+1);omega
    · omega
theorem A4P(go:Nat→Bool):∀ k i,N7 go i k<i+k→go (N7 go i k)=false
  | 0,i,h=>by simp [N7] at h
  | k+1,i,h=>by
    simp only [N7] at h ⊢
    split
    · rename_i hg
      rw [if_pos hg] at h
      exact A4P go k (i+1) (by omega)
    · rename_i hg
      simpa using hg
theorem A1j{α β:Type}(f:α→Option (α⊕β))(s:Nat→α)(n:Nat)(z:Nat→β)(go:Nat→Bool)(h:∀ i,i<n→f (s i)=if go i then some (.inl (s (i+1))) else some (.inr (z i)))(he:f (s n)=some (.inr (z n))) :
    B8 f (s 0)=some (z (N7 go 0 n)):=by
  have key:∀ k i,i+k=n→B8 f (s i)=some (z (N7 go i k)):=by
    intro k
    induction k with
    | zero=>
      intro i hi
      obtain rfl:i=n:=by omega
      rw [V0,he]
      rfl
    | succ k ih=>
      intro i hi
      rw [V0,h i (by omega)]
      simp only [N7]
      cases go i with
      | true=>simp only [if_true];exact ih (i+1) (by omega)
      | false=>rfl
  exact key n 0 (by omega)
theorem B2N(L:Int×Unit→Option ((Int×Unit)⊕(Bool×Unit)))(n:Nat)(hn:n≤maxLen)(go:Nat→Bool)(hs:∀ i:Nat,i<n→L ((i:Int),())=bif go i then some (.inl (IntKind.i64.wrap ((i:Int)+1),())) else some (.inr (false,())))
    (he:L ((n:Int),())=some (.inr (true,()))):B8 L (0,())=some ((List.range n).all go,()):=by
  have h:=A1j L (fun i=>((i:Int),())) n (fun i=>(decide (i=n),())) go (fun i hi=>by
    rw [hs i hi,w64 (by omega) (by simp only [maxLen] at hn;omega)]
    cases go i with
    | true=>rfl
    | false=>simp only [Bool.false_eq_true,if_false,cond_false];rw [A3 (by omega)]) (by rw [he];simp)
  have h':B8 L (0,())=some (decide (N7 go 0 n=n),()):=h
  rw [h']
  have key:∀ k i,decide (N7 go i k=i+k)=((List.range k).all fun j=>go (i+j)):=by
    intro k
    induction k with
    | zero=>intro i;simp [N7]
    | succ k ih=>
      intro i
      have e:((List.range (k+1)).all fun j=>go (i+j))=(go i&&(List.range k).all fun j=>go (i+1+j)):=by
        rw [List.range_succ_eq_map,List.all_cons,List.all_map]
        simp only [Nat.add_zero]
        congr 2
        funext j
        simp only [Function.comp]
        congr 1
        omega
      rw [e,← ih (i+1)]
      by_cases hg:go i=true
      · have e1:N7 go i (k+1)=N7 go (i+1) k:=by simp only [N7];rw [if_pos hg]
        rw [Bool.eq_iff_iff,hg]
        simp only [decide_eq_true_eq,Bool.true_and,e1]
        omega
      · have e1:N7 go i (k+1)=i:=by simp only [N7];rw [if_neg hg]
        rw [Bool.eq_iff_iff]
        simp only [decide_eq_true_eq,Bool.and_eq_true,e1]
        constructor
        · intro h;omega
        · intro h;exact absurd h.1 hg
  have k0:=key n 0
  simp only [Nat.zero_add] at k0
  rw [k0]
theorem C75(x y:Int):IntKind.i64.wrap (IntKind.i64.wrap x-y)=IntKind.i64.wrap (x-y):=by
  simp only [IntKind.wrap,IntKind.bits,IntKind.signed,Bool.true_and]
  simp
  split<;>split<;>split<;>omega
theorem E1g(x:Int):-9223372036854775808≤IntKind.i64.wrap x:=by
  simp only [IntKind.wrap,IntKind.bits,IntKind.signed,Bool.true_and]
  simp
  split<;>omega
theorem E1h(x:Int):IntKind.i64.wrap x<9223372036854775808:=by
  simp only [IntKind.wrap,IntKind.bits,IntKind.signed,Bool.true_and]
  simp
  split<;>omega
abbrev P3:=ByteArray×List Int×Int×Int
theorem N6(a b c:Int):E1 a b c=some (decide (b≤a∧a≤c),()):=by
  simp only [E1,C4C]
  by_cases h:b≤a<;>by_cases h2:a≤c<;>simp [h,h2]
theorem L2(a b c:Int):C2 a b c=some (decide (b≤a∧a≤c),()):=N6 a b c
def C9e(s:ByteArray)(i:Nat):Bool:=decide (97≤bt s i∧bt s i≤122)||decide (48≤bt s i∧bt s i≤57)
def idB(s:ByteArray):Bool:=(List.range s.size).all (C9e s)&&decide (1≤(s.size:Int)∧(s.size:Int)≤8)
theorem D4e(s:ByteArray)(h:s.size≤maxLen)(i:Nat)(hi:i<s.size):A8X E1 s ((i:Int),())=if C9e s i then some (.inl (((i+1:Nat):Int),())) else some (.inr (.inr (false,()))):=by
  have h1:((i:Int)<(s.size:Int)):=by omega
  have h2:(0:Int)≤(i:Int):=by omega
  simp only [A8X,A0 h1,A0 h2,cond_true,E2s,N6,A4]
  rw [w64 (by omega) (by simp only [maxLen] at h;omega)]
  unfold C9e
  cases decide (97≤bt s i∧bt s i≤122)<;>cases decide (48≤bt s i∧bt s i≤57)<;>simp
theorem D7n(s:ByteArray)(h:s.size≤maxLen)(i:Nat)(hi:i<s.size):B1a s ((i:Int),())=if C9e s i then some (.inl (((i+1:Nat):Int),())) else some (.inr (.inr (false,()))):=by
  have h1:((i:Int)<(s.size:Int)):=by omega
  have h2:(0:Int)≤(i:Int):=by omega
  simp only [B1a,A0 h1,A0 h2,cond_true]
  rw [w64 (by omega) (by simp only [maxLen] at h;omega)]
  unfold C9e
  by_cases a:bt s i≥97<;>by_cases b:bt s i≤122<;>by_cases c:bt s i≥48<;>by_cases d:bt s i≤57<;>simp [a,b,c,d]
theorem E2O{s:ByteArray}{f:Int×Unit→Option ((Int×Unit)⊕(Unit⊕(Bool×Unit)))}(hs:∀ i:Nat,i<s.size→f ((i:Int),())=if C9e s i then some (.inl (((i+1:Nat):Int),())) else some (.inr (.inr (false,()))))
    (he:f ((s.size:Int),())=some (.inr (.inl ()))) (g:Unit→Option (Bool×Unit)) (hg:g ()=some (decide (1≤(s.size:Int)∧(s.size:Int)≤8),())):B6 (B8 f (0,())) g=some (idB s,()):=by
  obtain ⟨i,h1,h2,h3,h4⟩:=D4d f (fun i=>((i:Int),())) s.size (fun i=>if i<s.size then .inr (false,()) else .inl ()) (C9e s) (fun i hi=>by
    simp only [if_pos hi];exact hs i hi) (by simp only [Nat.lt_irrefl,if_false];exact he)
  have h4':B8 f (0,())=some (if i<s.size then .inr (false,()) else .inl ()):=h4
  rw [h4']
  unfold idB
  by_cases hi:i<s.size
  · rw [if_pos hi]
    have:(List.range s.size).all (C9e s)=false:=by
      rw [List.all_eq_false]
      exact ⟨i,List.mem_range.2 hi,by simp [h3 hi]⟩
    simp [B6,this]
  · rw [if_neg hi]
    have:(List.range s.size).all (C9e s)=true:=by
      rw [List.all_eq_true]
      intro j hj
      exact h2 j (by have:=List.mem_range.1 hj;omega)
    simp only [B6,this,hg,Bool.true_and]
theorem A7p(s:ByteArray)(h:s.size≤maxLen):N2 s=some (idB s,()):=by
  simp only [N2,B9v]
  exact E2O (D4e s h) (by simp [A8X]) _ (by simp only [N6,A4])
theorem B1r(s:ByteArray)(h:s.size≤maxLen):R9 s=some (idB s,()):=by
  simp only [R9,C4G]
  exact E2O (D7n s h) (by simp [B1a]) _ (by simp only [L2,A4])
def G5(c:P3):Bool:=idB c.1&&decide ((c.2.1.length:Int)≤400)&&decide (1≤c.2.2.1∧c.2.2.1≤6)&&decide (0≤c.2.2.2∧c.2.2.2≤(c.2.1.length:Int))
theorem A2Z(c:P3)(h:c.1.size≤maxLen):F9 c=some (G5 c,()):=by
  simp only [F9,B1H,A7p _ h,N6,A4,G5]
  cases idB c.1<;>cases decide ((c.2.1.length:Int)≤400)<;>cases decide (1≤c.2.2.1∧c.2.2.1≤6)<;>simp
theorem A9j(c:P3)(h:c.1.size≤maxLen):K9 c=some (G5 c,()):=by
  simp only [K9,B1g,B1r _ h,L2,A4,G5]
  cases idB c.1<;>cases decide ((c.2.1.length:Int)≤400)<;>cases decide (1≤c.2.2.1∧c.2.2.1≤6)<;>simp
theorem B3p{R:Type}(a:Option R):eqO a a=a:=by
  unfold eqO
  rw [if_pos rfl]
theorem A0w(a:List Int)(h:a.length≤140737488355328):C5 a=some (a,()):=by
  simp only [C5,Z1]
  have e:(bif decide (([]:List Int).length+a.length≤9223372036854775807) then bif decide ((([]:List Int).length+a.length)*1≤140737488355328) then some (([]++a),()) else none else none)=some (a,()):=by
    rw [A0 (by simp;omega),A0 (by simp;omega)]
    simp
  rw [e]
  cases a with
  | nil=>simp [B3p]
  | cons x xs=>simp
def A3e(c:P3):Bool:=decide (c.2.2.1=5)||decide (c.2.2.1=6)
theorem B7F(c:P3):A1N c=some (A3e c,()):=by
  simp only [A1N,B3X,A3e]
  cases decide (c.2.2.1=5)<;>simp
theorem C8W(c:P3):J0 c=some (A3e c,c,()):=by
  simp only [J0,A4I,A3e]
  cases decide (c.2.2.1=5)<;>simp
theorem C4L(c:P3)(h2:c.2.1.length≤140737488355328):U4 c=some (c,()):=by
  simp only [U4,B3a]
  rw [A0 (by simp;omega),A0 (by simp;omega)]
  simp
theorem B5s(c:P3)(h2:c.2.1.length≤140737488355328):K5 c=some (c,()):=by
  simp only [K5,A7j,A0w _ h2,A4]
def C4M(n:Int)(k j:Nat):Int:=IntKind.u8.wrap (n.fdiv (2 ^ (8*(k-1-j))))
def big(n:Int)(k:Nat):List Int:=(List.range k).map (C4M n k)
theorem J1(n:Int)(k:Nat):(big n k).length=k:=by simp [big]
theorem E3s{n:Int}(h0:0≤n)(h1:n<18446744073709551616):IntKind.u64.wrap n=n:=by
  simp only [IntKind.wrap,IntKind.bits,IntKind.signed]
  simp
  omega
theorem D6l(v:Int)(b:List Int)(k:Nat)(hk:k≤8)(hb:b.length+8≤140737488355328):B8 (A0S (v,())) ((k:Int)-1,b,())=some (b++big v k,()):=by
  have key:=D7 (A0S (v,())) (fun j=>((k:Int)-1-(j:Int),b++(List.range j).map (C4M v k),())) k (b++big v k,()) (fun j hj=>?_) ?_
  · simpa using key
  · have h1:(k:Int)-1-(j:Int)≥0:=by omega
    have e1:(k:Int)-1-(j:Int)=((k-1-j:Nat):Int):=by omega
    have hs:IntKind.u64.wrap (IntKind.i64.wrap (8*((k:Int)-1-(j:Int))))=((8*(k-1-j):Nat):Int):=by
      rw [w64 (by omega) (by omega),E3s (by omega) (by omega)]
      omega
    have hm:min (8*(k-1-j)) IntKind.i64.bits=8*(k-1-j):=Nat.min_eq_left (by simp only [IntKind.bits];omega)
    simp only [A0S,A0 h1,cond_true,hs,Int.toNat_natCast,hm]
    rw [A3 (by omega)]
    simp only [cond_false]
    have hl:(b++(List.range j).map (C4M v k)).length=b.length+j:=by simp
    rw [A0 (by rw [hl];simp;omega),A0 (by rw [hl];simp;omega)]
    simp only [cond_true]
    rw [w64 (by omega) (by omega),List.range_succ,List.map_append,List.append_assoc]
    have e2:(k:Int)-1-(j:Int)-1=(k:Int)-1-((j+1:Nat):Int):=by omega
    rw [e2]
    rfl
  · have h1:¬ ((k:Int)-1-(k:Int)≥0):=by omega
    simp only [A0S,A3 h1,cond_false]
    rfl
def A0D(n:Int):Int:=if n<0 then 0 else n
theorem A1k(b:List Int)(n:Int)(k:Nat)(h1:1≤k)(hk:k≤8)(hb:b.length+8≤140737488355328):A7S b n (k:Int)=some (b++big (A0D n) k,()):=by
  simp only [A7S,B6x]
  rw [A0 (by simp;omega),A0 (by simp;omega)]
  have e:(bif decide (n<0) then some ((0:Int),()) else some (n,()))=some (A0D n,()):=by
    unfold A0D
    by_cases h:n<0<;>simp [h]
  simp only [cond_true,e,A4,N6]
  rw [A0 (by omega)]
  simp only [Bool.not_true,cond_false,List.nil_append]
  rw [w64 (by omega) (by omega)]
  exact D6l _ b k hk hb
theorem A8u(b:List Int)(n:Int)(k:Nat)(hk:k≤8)(hb:b.length+8≤140737488355328):A7c b n (k:Int)=some (b++big (A0D n) k,()):=by
  simp only [A7c,B78]
  have e:B1b n=A0S (A0D n,()):=by
    funext l
    have:(bif decide (0>n) then (0:Int) else n)=A0D n:=by
      unfold A0D
      by_cases h:n<0<;>simp [h]
    simp only [B1b,A0S,this]
  rw [e,w64 (by omega) (by omega)]
  exact D6l _ b k hk hb
theorem C04{n:Nat}(h:n<9223372036854775808):IntKind.i64.wrap (n:Int)=(n:Int):=w64 (by omega) (by omega)
theorem E2t{n:Nat}(h:n<4294967296):IntKind.u32.wrap (n:Int)=(n:Int):=by
  simp only [IntKind.wrap,IntKind.bits,IntKind.signed]
  simp
  omega
theorem bits_nat{w x:Nat}(h:x<2 ^ w):(BitVec.ofInt w (x:Int)).toNat=x:=by
  rw [BitVec.ofInt_natCast,BitVec.toNat_ofNat]
  exact Nat.mod_eq_of_lt h
theorem C4N{x y:Nat}(hx:x<4294967296)(hy:y<4294967296):C2U .i64 (x:Int) (y:Int)=((x ^^^ y:Nat):Int):=by
  have h:x ^^^ y<2 ^ 32:=Nat.xor_lt_two_pow (by omega) (by omega)
  unfold C2U
  rw [BitVec.toNat_xor,bits_nat (by simp only [IntKind.bits];omega),bits_nat (by simp only [IntKind.bits];omega)]
  exact C04 (by omega)
theorem C4O{x y:Nat}(hx:x<4294967296)(hy:y<4294967296):C2U .u32 (x:Int) (y:Int)=((x ^^^ y:Nat):Int):=by
  have h:x ^^^ y<2 ^ 32:=Nat.xor_lt_two_pow (by omega) (by omega)
  unfold C2U
  rw [BitVec.toNat_xor,bits_nat (by simp only [IntKind.bits];omega),bits_nat (by simp only [IntKind.bits];omega)]
  exact E2t (by omega)
theorem E04{x y:Nat}(hx:x<4294967296)(hy:y<4294967296):B9s .i64 (x:Int) (y:Int)=((x &&& y:Nat):Int):=by
  have h:x &&& y<2 ^ 32:=Nat.and_lt_two_pow _ (by omega)
  unfold B9s
  rw [BitVec.toNat_and,bits_nat (by simp only [IntKind.bits];omega),bits_nat (by simp only [IntKind.bits];omega)]
  exact C04 (by omega)
theorem E05{x y:Nat}(hx:x<4294967296)(hy:y<4294967296):B9s .u32 (x:Int) (y:Int)=((x &&& y:Nat):Int):=by
  have h:x &&& y<2 ^ 32:=Nat.and_lt_two_pow _ (by omega)
  unfold B9s
  rw [BitVec.toNat_and,bits_nat (by simp only [IntKind.bits];omega),bits_nat (by simp only [IntKind.bits];omega)]
  exact E2t (by omega)
def B8F(c:Nat):Nat:=if c &&& 1=1 then (c / 2) ^^^ 2197175160 else c / 2
def C05(c:Nat):Nat→Nat
  | 0=>c
  | i+1=>B8F (C05 c i)
theorem D4f{c:Nat}(h:c<4294967296):B8F c<4294967296:=by
  unfold B8F
  split
  · have:(c / 2) ^^^ 2197175160<2 ^ 32:=Nat.xor_lt_two_pow (by omega) (by omega)
    omega
  · omega
theorem C3T{c:Nat}(h:c<4294967296):∀ i,C05 c i<4294967296
  | 0=>h
  | i+1=>D4f (C3T h i)
theorem half(c:Nat):((c:Int)).fdiv 2=((c / 2:Nat):Int):=by
  rw [Int.fdiv_eq_ediv_of_nonneg _ (by omega)]
  omega
def A63(a:List Int):Nat:=a.foldl (fun c x=>C05 (c ^^^ x.toNat) 8) 4294967295
theorem E1i(a:List Int)(ha:Byt a):∀ c,c<4294967296→a.foldl (fun c x=>C05 (c ^^^ x.toNat) 8) c<4294967296:=by
  induction a with
  | nil=>intro c h;exact h
  | cons x a ih=>
    intro c h
    have hx:=ha x (by simp)
    refine ih (fun y hy=>ha y (by simp [hy])) _ (C3T ?_ 8)
    have:c ^^^ x.toNat<2 ^ 32:=Nat.xor_lt_two_pow (by omega) (by omega)
    omega
theorem A2a{a:List Int}(h:Byt a)(i:Nat):Byt (a.take i):=fun x hx=>h x (List.mem_of_mem_take hx)
theorem A8v{a:List Int}(h:Byt a):A63 a<4294967296:=E1i a h _ (by omega)
theorem C8X{a:List Int}{i:Nat}(hi:i<a.length):A63 (a.take (i+1))=C05 (A63 (a.take i) ^^^ a[i].toNat) 8:=by
  unfold A63
  rw [List.take_succ_eq_append_getElem hi,List.foldl_append]
  rfl
theorem E1j(l0:Int×Int×Unit)(c:Nat)(h:c<4294967296):B8 (B5B l0) ((c:Int),0,())=some (.inl ((C05 c 8:Int),IntKind.i64.wrap (l0.2.1+1),())):=by
  refine D7 (B5B l0) (fun i=>((C05 c i:Int),(i:Int),())) 8 _ (fun i hi=>?_) ?_
  · have hl:=C3T h i
    have h1:(i:Int)<8:=by omega
    simp only [B5B,A0 h1,cond_true,half]
    rw [show (1:Int)=((1:Nat):Int) from rfl,E04 hl (by omega),show (2197175160:Int)=((2197175160:Nat):Int) from rfl,C4N (by omega) (by omega)]
    rw [show ((i:Int)+((1:Nat):Int))=((i+1:Nat):Int) by omega,C04 (by omega)]
    simp only [C05,B8F]
    by_cases hb:C05 c i &&& 1=1
    · rw [A0 (by rw [hb]),if_pos hb];rfl
    · rw [A3 (by omega),if_neg hb];rfl
  · rfl
theorem C4P(a:List Int)(ha:Byt a)(h:a.length≤maxLen):A6m a=some (((A63 a ^^^ 4294967295:Nat):Int),()):=by
  simp only [A6m,C9b]
  have key:=D7 (B0D a) (fun i=>((A63 (a.take i):Int),(i:Int),())) a.length ((A63 a:Int),()) (fun i hi=>?_) ?_
  · have e:B8 (B0D a) (4294967295,0,())=some ((A63 a:Int),()):=key
    rw [e]
    simp only [A4]
    rw [show (4294967295:Int)=((4294967295:Nat):Int) from rfl,C4N (A8v ha) (by omega)]
  · have h1:((i:Int)<(a.length:Int)):=by omega
    have h2:(0:Int)≤(i:Int):=by omega
    have hx:=ha a[i] (List.getElem_mem hi)
    have hc:=A8v (A2a ha i)
    simp only [B0D,A0 h1,A0 h2,cond_true,B1q hi]
    have hxor:A63 (a.take i) ^^^ a[i].toNat<2 ^ 32:=Nat.xor_lt_two_pow (by omega) (by omega)
    rw [w64 (by omega) (by omega),show a[i]=((a[i].toNat:Nat):Int) by omega,C4N hc (by omega)]
    rw [E1j _ _ (by omega)]
    simp only
    rw [show ((i:Int)+1)=((i+1:Nat):Int) by omega,C04 (by simp only [maxLen] at h;omega),C8X hi]
  · simp [B0D]
theorem E1k(l0:Int×Int×Unit)(c:Nat)(h:c<4294967296):B8 (B5D l0) ((c:Int),0,())=some (.inl ((C05 c 8:Int),IntKind.i64.wrap (l0.2.1+1),())):=by
  refine D7 (B5D l0) (fun i=>((C05 c i:Int),(i:Int),())) 8 _ (fun i hi=>?_) ?_
  · have hl:=C3T h i
    have h1:(i:Int)<8:=by omega
    simp only [B5D,A0 h1,cond_true,half]
    rw [show (1:Int)=((1:Nat):Int) from rfl,E05 hl (by omega),show (2197175160:Int)=((2197175160:Nat):Int) from rfl,C4O (by omega) (by omega)]
    rw [show ((i:Int)+((1:Nat):Int))=((i+1:Nat):Int) by omega,C04 (by omega)]
    simp only [C05,B8F]
    by_cases hb:C05 c i &&& 1=1
    · rw [A0 (by rw [hb]),if_pos hb];rfl
    · rw [A3 (by omega),if_neg hb];rfl
  · rfl
theorem C4Q(a:List Int)(ha:Byt a)(h:a.length≤maxLen):A6x a=some (((A63 a ^^^ 4294967295:Nat):Int),()):=by
  simp only [A6x,C9d]
  have key:=D7 (B0H a) (fun i=>((A63 (a.take i):Int),(i:Int),())) a.length ((A63 a:Int),()) (fun i hi=>?_) ?_
  · have e:B8 (B0H a) (4294967295,0,())=some ((A63 a:Int),()):=key
    rw [e]
    simp only [A4]
    have hm:IntKind.u32.max=((4294967295:Nat):Int):=rfl
    have hxor:A63 a ^^^ 4294967295<2 ^ 32:=Nat.xor_lt_two_pow (by have:=A8v ha;omega) (by omega)
    rw [hm,C4O (by omega) (A8v ha),Nat.xor_comm,C04 (by omega)]
  · have h1:((i:Int)<(a.length:Int)):=by omega
    have h2:(0:Int)≤(i:Int):=by omega
    have hx:=ha a[i] (List.getElem_mem hi)
    have hc:=A8v (A2a ha i)
    simp only [B0H,A0 h1,A0 h2,cond_true,B1q hi]
    have hxor:A63 (a.take i) ^^^ a[i].toNat<2 ^ 32:=Nat.xor_lt_two_pow (by omega) (by omega)
    rw [show a[i]=((a[i].toNat:Nat):Int) by omega,E2t (by omega),C4O hc (by omega)]
    rw [E1k _ _ (by omega)]
    simp only
    rw [show ((i:Int)+1)=((i+1:Nat):Int) by omega,C04 (by simp only [maxLen] at h;omega),C8X hi]
  · simp [B0H]
abbrev Req:=Int×ByteArray×Int
def C1J:Req×List Int×Bool×Unit:=((0,⟨#[]⟩,0),[],false,())
def H5(c:P3):Req×List Int×Bool×Unit:=
  if G5 c=false then C1J
  else if c.2.2.1=1 then ((1,c.1,(c.2.1.length:Int)),[],true,())
  else if c.2.2.1=2 then ((2,c.1,0),[],true,())
  else if c.2.2.1=3 then ((3,c.1,c.2.2.2),(c.2.1.take (min (c.2.2.2.toNat+24) c.2.1.length)).drop c.2.2.2.toNat,true,())
  else if c.2.2.1=4 then ((4,c.1,((A63 c.2.1 ^^^ 4294967295:Nat):Int)),[],true,())
  else C1J
theorem D4g{c:P3}(h:G5 c=true):c.2.1.length≤400∧1≤c.2.2.1∧c.2.2.1≤6∧0≤c.2.2.2∧c.2.2.2≤(c.2.1.length:Int):=by
  simp only [G5,Bool.and_eq_true,decide_eq_true_eq] at h
  omega
theorem B3q(c:P3):(H5 c).2.1.length≤c.2.1.length:=by
  unfold H5 C1J
  repeat' split
  all_goals simp
  omega
theorem C9f(c:P3)(h:c.1.size≤maxLen)(hb:Byt c.2.1):A62 c=some (H5 c):=by
  simp only [A62,B3l,A9j c h,C8W,A4,H5]
  cases hk:G5 c with
  | false=>rfl
  | true=>
    obtain ⟨h1,h2,h3,h4,h5⟩:=D4g hk
    simp only [Bool.not_true,cond_false,Bool.true_eq_false,if_false]
    cases ho:A3e c with
    | true=>
      simp only [A3e,Bool.or_eq_true,decide_eq_true_eq] at ho
      rw [if_neg (by omega),if_neg (by omega),if_neg (by omega),if_neg (by omega)]
      rfl
    | false=>
      simp only [A3e,Bool.or_eq_false_iff,decide_eq_false_iff_not] at ho
      simp only [cond_false,B6]
      by_cases e1:c.2.2.1=1
      · rw [A0 e1,if_pos e1];rfl
      rw [A3 e1,if_neg e1]
      by_cases e2:c.2.2.1=2
      · rw [A0 e2,if_pos e2];rfl
      rw [A3 e2,if_neg e2]
      by_cases e3:c.2.2.1=3
      · rw [A0 e3,if_pos e3,w64 (by omega) (by omega)]
        simp only [cond_true,cond_false]
        have hm:(bif decide ((c.2.1.length:Int)<c.2.2.2+24) then (c.2.1.length:Int) else c.2.2.2+24)=((min (c.2.2.2.toNat+24) c.2.1.length:Nat):Int):=by
          by_cases hc:(c.2.1.length:Int)<c.2.2.2+24
          · rw [A0 hc];simp only [cond_true];omega
          · rw [A3 hc];simp only [cond_false];omega
        rw [hm,A0 h4,A0 (by omega),A0 (by omega),Int.toNat_natCast]
        simp only [cond_true]
        rw [A0w _ (by simp;omega)]
      rw [A3 e3,if_neg e3]
      have e4:c.2.2.1=4:=by omega
      rw [if_pos e4]
      simp only [cond_false]
      rw [C4Q _ hb (by simp only [maxLen];omega)]
theorem B8G(c:P3)(h:c.1.size≤maxLen)(hb:Byt c.2.1):A5u c=some (H5 c):=by
  simp only [A5u,B3T,A2Z c h,A4,H5]
  cases hk:G5 c with
  | false=>rfl
  | true=>
    obtain ⟨h1,h2,h3,h4,h5⟩:=D4g hk
    simp only [Bool.not_true,cond_false,Bool.true_eq_false,if_false]
    by_cases e1:c.2.2.1=1
    · rw [A0 e1,if_pos e1];rfl
    rw [A3 e1,if_neg e1]
    by_cases e2:c.2.2.1=2
    · rw [A0 e2,if_pos e2];rfl
    rw [A3 e2,if_neg e2]
    by_cases e3:c.2.2.1=3
    · rw [A0 e3,if_pos e3,w64 (by omega) (by omega)]
      simp only [cond_true,cond_false]
      have hm:(bif decide (c.2.2.2+24>(c.2.1.length:Int)) then some ((c.2.1.length:Int),()) else some (c.2.2.2+24,()))=some (((min (c.2.2.2.toNat+24) c.2.1.length:Nat):Int),()):=by
        by_cases hc:c.2.2.2+24>(c.2.1.length:Int)
        · rw [A0 hc];simp only [cond_true];congr 2;omega
        · rw [A3 hc];simp only [cond_false];congr 2;omega
      rw [hm]
      simp only
      rw [A0 h4,A0 (by omega),A0 (by omega),Int.toNat_natCast]
      simp only [cond_true]
      rw [A0 (by simp;omega),A0 (by simp;omega)]
      simp
    rw [A3 e3,if_neg e3]
    by_cases e4:c.2.2.1=4
    · rw [A0 e4,if_pos e4]
      simp only [cond_true,cond_false]
      rw [C4P _ hb (by simp only [maxLen];omega)]
    · rw [A3 e4,if_neg e4];rfl
abbrev D1b:=Int×Int
def S6(r:D1b):Bool:=decide (100≤r.1∧r.1≤599)&&decide (-1≤r.2∧r.2≤1000000000)
theorem A8w(r:D1b):Q5 r=some (S6 r,()):=by
  simp only [Q5,B73,N6,A4,S6]
  cases decide (100≤r.1∧r.1≤599)<;>simp
theorem B3r(r:D1b):V4 r=some (S6 r,()):=by
  simp only [V4,B76,L2,A4,S6]
  cases decide (100≤r.1∧r.1≤599)<;>simp
def far(c:P3)(off:Int):P3:=if 0≤off∧off≤(c.2.1.length:Int) then (if off=(c.2.1.length:Int) then (c.1,c.2.1,4,off) else (c.1,c.2.1,3,off)) else (c.1,c.2.1,6,c.2.2.2)
theorem D7o(c:P3)(off:Int):A7V c off=some (far c off,()):=by
  simp only [A7V,B71,N6,A4,far]
  by_cases h:0≤off∧off≤(c.2.1.length:Int)
  · rw [A0 h,if_pos h]
    by_cases h2:off=(c.2.1.length:Int)<;>simp [h2]
  · rw [A3 h,if_neg h];rfl
theorem D7p(c:P3)(off:Int):Y1 c off=some (far c off,()):=by
  simp only [Y1,A4M,L2,A4,far]
  by_cases h:0≤off∧off≤(c.2.1.length:Int)
  · rw [A0 h,if_pos h]
    by_cases h2:off=(c.2.1.length:Int)<;>simp [h2]
  · rw [A3 h,if_neg h];rfl
def A1l(step status:Int):Int:=
  if status=507 then (if step=2 then 6 else step)
  else if status=404 then (if step=1 then 6 else 1)
  else if status=409 then (if step=3 then 0 else if step=2 then 6 else 2)
  else if status=201 then (if step=1 then 0 else 6)
  else if status=204 then (if step=3 then 0 else 6)
  else if status=200 then (if step=2 then 0 else if step=4 then 5 else 6)
  else 6
theorem D4h(a b:Int):A5v a b=some (A1l a b,()):=by
  simp only [A5v,B3Y,A1l]
  by_cases h1:b=507
  · by_cases h:a=2<;>simp [h1,h]
  by_cases h2:b=404
  · by_cases h:a=1<;>simp [h2,h]
  by_cases h3:b=409
  · by_cases h:a=3
    · simp [h3,h]
    · by_cases h':a=2<;>simp [h3,h,h']
  by_cases h4:b=201
  · by_cases h:a=1<;>simp [h4,h]
  by_cases h5:b=204
  · by_cases h:a=3<;>simp [h5,h]
  by_cases h6:b=200
  · by_cases h:a=2
    · simp [h6,h]
    · by_cases h':a=4<;>simp [h6,h,h']
  simp [h1,h2,h3,h4,h5,h6]
def hear(c:P3)(r:D1b):P3:=if A1l c.2.2.1 r.1=0 then far c r.2 else (c.1,c.2.1,A1l c.2.2.1 r.1,c.2.2.2)
theorem C4R(c:P3)(r:D1b):A5w c r=some (hear c r,()):=by
  simp only [A5w,B3Z,D4h,D7o,A4,hear]
  by_cases h:A1l c.2.2.1 r.1=0<;>simp [h]
theorem D7q(c:P3)(r:D1b)(h:c.2.2.1=1∨c.2.2.1=2∨c.2.2.1=3∨c.2.2.1=4):A0k c r=some (hear c r,()):=by
  have hc:c=(c.1,c.2.1,c.2.2.1,c.2.2.2):=rfl
  simp only [A0k,A6M,D7p,hear,A1l]
  by_cases h1:r.1=507
  · rcases h with h | h | h | h<;>simp [h1,h,A4]
    all_goals (rw [← h])
  by_cases h2:r.1=404
  · rcases h with h | h | h | h<;>simp [h2,h,A4]
  by_cases h3:r.1=409
  · rcases h with h | h | h | h<;>simp [h3,h,A4]
  by_cases h4:r.1=201
  · rcases h with h | h | h | h<;>simp [h4,h,A4]
  by_cases h5:r.1=204
  · rcases h with h | h | h | h<;>simp [h5,h,A4]
  by_cases h6:r.1=200
  · rcases h with h | h | h | h<;>simp [h6,h,A4]
  rcases h with h | h | h | h<;>simp [h1,h2,h3,h4,h5,h6,h,A4]
def A0E(c:P3)(r:D1b):P3:=if G5 c&&S6 r&&!A3e c then hear c r else c
theorem C76(c:P3)(r:D1b)(h:c.1.size≤maxLen)(h2:c.2.1.length≤140737488355328):A4N c r=some (A0E c r,()):=by
  simp only [A4N,B1k,B5s _ h2,A9j _ h,B3r,C8W,A4,A0E]
  cases hk:G5 c with
  | false=>simp
  | true=>
    cases S6 r with
    | false=>simp
    | true=>
      cases ho:A3e c with
      | true=>simp
      | false=>
        obtain ⟨_,h4,h5,_,_⟩:=D4g hk
        simp only [A3e,Bool.or_eq_false_iff,decide_eq_false_iff_not] at ho
        simp only [Bool.not_true,cond_false]
        rw [D7q c r (by omega)]
        simp
theorem B8H{N:Nat}{w:A5}(h:Sm N S9 w):Sm N (.sl 0 A9) w.2.1:=Sm.l (Sm.r h)
theorem B1s{N:Nat}{w:A5}(h:Sm N S9 w):Sm N (.sl 0 kUp) w.1.1.2.2.2:=Sm.r (Sm.r (Sm.r (Sm.l (Sm.l h))))
def B3s(us:List TUp)(id:ByteArray):Nat:=N7 (fun i=>!((rd kUp us (i:Int)).1.toList == id.toList)) 0 us.length
def E2u:TUp×Bool×Unit:=((⟨#[]⟩,0,[],false),false,())
def A7q(st:A7)(id:ByteArray):TUp×Bool×Unit:=if B3s st.2.2.2 id<st.2.2.2.length then (rd kUp st.2.2.2 (B3s st.2.2.2 id:Int),true,()) else E2u
theorem C4S(us:List TUp)(id:ByteArray)(h:us.length≤maxLen):O7 us id=some (if B3s us id<us.length then (B3s us id:Int) else -1,()):=by
  simp only [O7,B9x]
  refine A1j (A8Z us id) (fun i=>((i:Int),())) us.length (fun i=>(if i<us.length then (i:Int) else -1,())) (fun i=>!((rd kUp us (i:Int)).1.toList == id.toList)) (fun i hi=>?_) ?_
  · have h1:((i:Int)<(us.length:Int)):=by omega
    have h2:(0:Int)≤(i:Int):=by omega
    simp only [A8Z,A0 h1,A0 h2,cond_true,if_pos hi]
    rw [w64 (by omega) (by simp only [maxLen] at h;omega)]
    cases ((rd kUp us (i:Int)).1.toList == id.toList)<;>simp
  · simp [A8Z]
theorem C9g{us:List TUp}{N:Nat}(h:Sm N (.sl 0 kUp) us){i:Nat}(hi:i<us.length):Sm N kUp (rd kUp us (i:Int)):=by
  rw [C8 (k:=kUp) (xs:=us) hi]
  exact h.2 _ (List.getElem_mem hi)
theorem D7r(st:A7)(id:ByteArray)(h:Sm 1048576 (.sl 0 kUp) st.2.2.2):A0e st id=some (A7q st id):=by
  have hl:st.2.2.2.length≤1048576:=h.1
  simp only [A0e,B86]
  rw [C4S _ _ (by simp only [maxLen];omega)]
  simp only [A4,A7q]
  by_cases hi:B3s st.2.2.2 id<st.2.2.2.length
  · have hd:List.length (rd kUp st.2.2.2 (B3s st.2.2.2 id:Int)).2.2.1≤1048576:=(Sm.l (Sm.r (Sm.r (C9g h hi)))).1
    rw [if_pos hi,if_pos hi,A3 (by omega),A0 (show (0:Int)≤(B3s st.2.2.2 id:Int) by omega),A0 (by omega),A0 (by simp;omega),A0 (by simp;omega)]
    simp
  · rw [if_neg hi,if_neg hi]
    rfl
theorem D7s(u:TUp)(h:Sm 1048576 kUp u):T1 u=some (u,()):=by
  have hd:List.length u.2.2.1≤1048576:=(Sm.l (Sm.r (Sm.r h))).1
  simp only [T1,B1W,A0w _ (show List.length u.2.2.1≤140737488355328 by omega),A4]
theorem A7B(st:A7)(id:ByteArray)(h:Sm 1048576 (.sl 0 kUp) st.2.2.2):P9 st id=some (A7q st id):=by
  have hl:st.2.2.2.length≤1048576:=h.1
  simp only [P9,C4D]
  have e:=A1j (A7Z T1 st id) (fun i=>((i:Int),())) st.2.2.2.length (fun i=>if i<st.2.2.2.length then .inr (rd kUp st.2.2.2 (i:Int),true,()) else .inl ()) (fun i=>!((rd kUp st.2.2.2 (i:Int)).1.toList == id.toList)) (fun i hi=>?_) ?_
  · have e':B8 (A7Z T1 st id) (0,())=_:=e
    rw [e']
    simp only [A7q]
    by_cases hi:B3s st.2.2.2 id<st.2.2.2.length
    · rw [if_pos hi]
      have hi':N7 (fun i=>!((rd kUp st.2.2.2 (i:Int)).1.toList == id.toList)) 0 st.2.2.2.length<st.2.2.2.length:=hi
      rw [if_pos hi']
      rfl
    · rw [if_neg hi]
      have hi':¬ N7 (fun i=>!((rd kUp st.2.2.2 (i:Int)).1.toList == id.toList)) 0 st.2.2.2.length<st.2.2.2.length:=hi
      rw [if_neg hi']
      rfl
  · have h1:((i:Int)<(st.2.2.2.length:Int)):=by omega
    have h2:(0:Int)≤(i:Int):=by omega
    simp only [A7Z,A0 h1,A0 h2,cond_true,if_pos hi]
    rw [w64 (by omega) (by omega),D7s _ (C9g h hi)]
    cases ((rd kUp st.2.2.2 (i:Int)).1.toList == id.toList)<;>simp [A4]
  · simp [A7Z]
theorem E1l{st:A7}(h:Sm 1048576 (.sl 0 kUp) st.2.2.2)(id:ByteArray):Sm 1048576 kUp (A7q st id).1:=by
  unfold A7q
  split
  · rename_i hi
    exact C9g h hi
  · simp [E2u,Sm]
    exact Nat.zero_le _
theorem D7t{st:A7}(h:Sm 1048576 (.sl 0 kUp) st.2.2.2)(id:ByteArray):List.length (A7q st id).1.2.2.1≤1048576:=(Sm.l (Sm.r (Sm.r (E1l h id)))).1
theorem E06{w:A5}(h:Sm 1048576 S9 w){i:Nat}(hi:i<w.2.1.length):List.length (rd A9 w.2.1 (i:Int)).2.1≤1048576:=by
  rw [C8 (k:=A9) (xs:=w.2.1) hi]
  have:=(B8H h).2 _ (List.getElem_mem hi)
  exact (Sm.l (Sm.r this)).1
theorem C9h(w:A5)(h:Sm 1048576 S9 w)(l:Int×Int×Unit)(h0:0≤l.2.1)(h1:-9223372036854775808≤l.1∧l.1<9223372036854775808):R3 P9 w l=A9i A0e w l:=by
  simp only [R3,A9i]
  by_cases hi:l.2.1<(w.2.1.length:Int)
  · obtain ⟨i,hn⟩:∃ i:Nat,l.2.1=(i:Int):=⟨l.2.1.toNat,by omega⟩
    rw [hn] at hi h0 ⊢
    have hi':i<w.2.1.length:=by omega
    have hf:=E06 h hi'
    simp only [A0 hi,A0 h0,cond_true]
    rw [D7r _ _ (B1s h),A7B _ _ (B1s h)]
    simp only [A4]
    have hd:=D7t (B1s h) (rd A9 w.2.1 (i:Int)).1
    rw [w64 (n:=(List.length (rd A9 w.2.1 (i:Int)).2.1:Int)-_) (by omega) (by omega)]
    by_cases hlt:(List.length (A7q w.1.1 (rd A9 w.2.1 (i:Int)).1).1.2.2.1:Int)<(List.length (rd A9 w.2.1 (i:Int)).2.1:Int)
    · rw [A0 hlt,A3 (by omega)]
      simp only [cond_true,cond_false]
      rw [C75,Int.add_sub_assoc]
    · rw [A3 hlt]
      simp only [cond_false]
      have:(bif decide (0>(List.length (rd A9 w.2.1 (i:Int)).2.1:Int)-(List.length (A7q w.1.1 (rd A9 w.2.1 (i:Int)).1).1.2.2.1:Int)) then (0:Int) else (List.length (rd A9 w.2.1 (i:Int)).2.1:Int)-(List.length (A7q w.1.1 (rd A9 w.2.1 (i:Int)).1).1.2.2.1:Int))=0:=by
        by_cases hz:0>(List.length (rd A9 w.2.1 (i:Int)).2.1:Int)-(List.length (A7q w.1.1 (rd A9 w.2.1 (i:Int)).1).1.2.2.1:Int)
        · rw [A0 hz];rfl
        · rw [A3 hz];simp only [cond_false];omega
      rw [this,Int.add_zero,w64 h1.1 h1.2]
  · simp only [A3 hi,cond_false]
theorem C9i(w:A5)(h:Sm 1048576 S9 w)(l:Int×Int×Unit)(h0:0≤l.2.1):(∃ a,R3 P9 w l=some (.inl (IntKind.i64.wrap a,l.2.1+1,()))∧l.2.1<(w.2.1.length:Int))∨R3 P9 w l=some (.inr (l.1,())):=by
  simp only [R3]
  by_cases hi:l.2.1<(w.2.1.length:Int)
  · have hl:w.2.1.length≤1048576:=(B8H h).1
    simp only [A0 hi,A0 h0,cond_true]
    rw [A7B _ _ (B1s h)]
    simp only [A4]
    rw [w64 (n:=l.2.1+1) (by omega) (by omega)]
    exact .inl ⟨_,rfl,hi⟩
  · simp only [A3 hi,cond_false]
    exact .inr trivial
theorem C9j(w:A5)(h:Sm 1048576 S9 w):A1h w=A3d w:=by
  simp only [A1h,A3d,A8r,B3n]
  refine A8t (fun l=>0≤l.2.1∧-9223372036854775808≤l.1∧l.1<9223372036854775808) (fun l hl=>C9h w h l hl.1 hl.2) (fun l y hl e=>?_) ⟨by simp,by simp,by simp⟩
  rcases C9i w h l hl.1 with ⟨a,e',_⟩ | e'
  · rw [e'] at e
    injection e with e;injection e with e;subst e
    exact ⟨by simp only;omega,E1g a,E1h a⟩
  · rw [e'] at e;injection e with e;cases e
def A64(w:A5)(i:Nat):TUp×Bool×Unit:=A7q w.1.1 (rd A9 w.2.1 (i:Int)).1
def C06(w:A5)(i:Nat):Int:=rd (.int .i64) w.2.2.2.2.2 (i:Int)
def nl(w:A5)(i:Nat):Bool:=decide (C06 w i=-1)||((A64 w i).2.1&&!decide ((List.length (A64 w i).1.2.2.1:Int)<C06 w i))
theorem C9k(w:A5)(h:Sm 1048576 S9 w):A5z w=some ((List.range w.2.1.length).all (fun i=>if w.2.2.2.2.2.length≤i then true else nl w i),()):=by
  have hl:w.2.1.length≤1048576:=(B8H h).1
  refine B2N (A5c P9 w) _ (by simp only [maxLen];omega) _ (fun i hi=>?_) (by simp [A5c])
  have h1:((i:Int)<(w.2.1.length:Int)):=by omega
  have h2:(0:Int)≤(i:Int):=by omega
  simp only [A5c,A0 h1,A0 h2,cond_true]
  by_cases h3:w.2.2.2.2.2.length≤i
  · rw [A0 (by omega),if_pos h3]
    rfl
  · rw [A3 (show ¬ ((i:Int)≥(w.2.2.2.2.2.length:Int)) by omega),if_neg h3]
    have h4:((i:Int)<(w.2.2.2.2.2.length:Int)):=by omega
    simp only [A0 h4,cond_true,cond_false]
    rw [A7B _ _ (B1s h)]
    show B6 (bif (decide (C06 w i=-1)) then _ else _) (fun m1=>A4 (some (A64 w i)) _)=_
    simp only [A4,nl]
    by_cases ht:C06 w i=-1
    · simp [ht,B6]
    · by_cases hu:(A64 w i).2.1=true
      · by_cases hd:(List.length (A64 w i).1.2.2.1:Int)<C06 w i
        · have hd':(List.length (A64 w i).1.2.2.1:Int)<rd (.int .i64) w.2.2.2.2.2 (i:Int):=hd
          simp [ht,hu,hd,hd',B6]
        · have hd':¬ (List.length (A64 w i).1.2.2.1:Int)<rd (.int .i64) w.2.2.2.2.2 (i:Int):=hd
          simp [ht,hu,hd,hd',B6]
      · simp [ht,hu,B6]
def en(w:A5)(i:Nat):Bool:=!decide ((rd A9 w.2.1 (i:Int)).2.2.1=5)||((A64 w i).2.1&&((A64 w i).1.2.2.2&&((strOf (A64 w i).1.2.2.1).toList == (strOf (rd A9 w.2.1 (i:Int)).2.1).toList)))
theorem D7u(w:A5)(h:Sm 1048576 S9 w):B3e w=some ((List.range w.2.1.length).all (en w),()):=by
  have hl:w.2.1.length≤1048576:=(B8H h).1
  refine B2N (B1Y L9 P9 w) _ (by simp only [maxLen];omega) (en w) (fun i hi=>?_) (by simp [B1Y])
  have h1:((i:Int)<(w.2.1.length:Int)):=by omega
  have h2:(0:Int)≤(i:Int):=by omega
  simp only [B1Y,A0 h1,A0 h2,cond_true]
  rw [A7B _ _ (B1s h)]
  show A4 (some (A64 w i)) _=_
  simp only [A4,en,L9,A2S]
  cases decide ((rd A9 w.2.1 (i:Int)).2.2.1=5)<;>cases (A64 w i).2.1<;>cases (A64 w i).1.2.2.2<;>cases ((strOf (A64 w i).1.2.2.1).toList == (strOf (rd A9 w.2.1 (i:Int)).2.1).toList)<;>simp
def beg(a b:List Int):Bool:=decide (a.length≤b.length)&&(List.range a.length).all fun i=>decide (rd (.int .u8) a (i:Int)=rd (.int .u8) b (i:Int))
theorem E07{x y:Int}(hx:0≤x∧x<256)(hy:0≤y∧y<256)(h:UInt8.ofNat x.toNat=UInt8.ofNat y.toNat):x=y:=by
  have:=congrArg UInt8.toNat h
  simp only [UInt8.toNat_ofNat'] at this
  omega
theorem D4i(a b:List Int)(ha:Byt a)(hb:Byt b)(hc:a.length≤b.length):((strOf ((b.take a.length).drop 0)).toList == (strOf a).toList)=(List.range a.length).all fun i=>decide (rd (.int .u8) a (i:Int)=rd (.int .u8) b (i:Int)):=by
  unfold strOf
  rw [ByteArray.toList_eq,ByteArray.toList_eq,strOfNums_data,strOfNums_data,List.drop_zero,Bool.eq_iff_iff]
  simp only [beq_iff_eq,List.all_eq_true,List.mem_range,decide_eq_true_eq]
  constructor
  · intro e i hi
    rw [B1q hi,B1q (show i<b.length by omega)]
    have:=congrArg (fun l=>l[i]?) e
    simp only [List.getElem?_map] at this
    rw [List.getElem?_take_of_lt hi,List.getElem?_eq_getElem (show i<b.length by omega),List.getElem?_eq_getElem hi] at this
    simp only [Option.map_some,Option.some.injEq] at this
    exact (E07 (hb _ (List.getElem_mem _)) (ha _ (List.getElem_mem _)) this).symm
  · intro e
    have:b.take a.length=a:=by
      apply List.ext_getElem
      · simp;omega
      · intro i h1 h2
        have:=e i h2
        rw [B1q h2,B1q (show i<b.length by omega)] at this
        simp [this]
    rw [this]
theorem C9l(a b:List Int)(ha:Byt a)(hb:Byt b):S5 b a=some (beg a b,()):=by
  simp only [S5,A4C,L9,A2S,beg,A4]
  by_cases hc:a.length≤b.length
  · have g1:(b.length:Int)≥(a.length:Int):=by omega
    have g2:(0:Int)≤(a.length:Int):=by omega
    have g3:(a.length:Int)≤(b.length:Int):=by omega
    simp only [A0 g1,A0 g2,A0 g3,A0 hc,Int.toNat_natCast,cond_true,Bool.true_and]
    rw [D4i a b ha hb hc]
  · rw [A3 (show ¬ (b.length:Int)≥(a.length:Int) by omega),A3 hc]
    rfl
def E1m(w:A5):Prop:=(∀ u∈w.1.1.2.2.2,Byt u.2.2.1)∧∀ c∈w.2.1,Byt c.2.1
theorem E08{w:A5}(h:E1m w)(i:Nat):Byt (A64 w i).1.2.2.1:=by
  unfold A64 A7q
  split
  · rename_i hi
    rw [C8 (k:=kUp) (xs:=w.1.1.2.2.2) hi]
    exact h.1 _ (List.getElem_mem hi)
  · intro x hx;cases hx
theorem E09{w:A5}(h:E1m w){i:Nat}(hi:i<w.2.1.length):Byt (rd A9 w.2.1 (i:Int)).2.1:=by
  rw [C8 (k:=A9) (xs:=w.2.1) hi]
  exact h.2 _ (List.getElem_mem hi)
def be(w:A5)(i:Nat):Bool:=!(A64 w i).2.1||(beg (A64 w i).1.2.2.1 (rd A9 w.2.1 (i:Int)).2.1&&decide ((A64 w i).1.2.1=(List.length (rd A9 w.2.1 (i:Int)).2.1:Int)))
theorem D1c(w:A5)(h:Sm 1048576 S9 w)(hb:E1m w):A7a w=some ((List.range w.2.1.length).all (be w),()):=by
  have hl:w.2.1.length≤1048576:=(B8H h).1
  refine B2N (A6w S5 P9 w) _ (by simp only [maxLen];omega) (be w) (fun i hi=>?_) (by simp [A6w])
  have h1:((i:Int)<(w.2.1.length:Int)):=by omega
  have h2:(0:Int)≤(i:Int):=by omega
  simp only [A6w,A0 h1,A0 h2,cond_true]
  rw [A7B _ _ (B1s h)]
  show A4 (some (A64 w i)) _=_
  simp only [A4,be]
  rw [C9l _ _ (E08 hb i) (E09 hb hi)]
  simp only
  cases (A64 w i).2.1<;>cases beg (A64 w i).1.2.2.1 (rd A9 w.2.1 (i:Int)).2.1<;>cases decide ((A64 w i).1.2.1=(List.length (rd A9 w.2.1 (i:Int)).2.1:Int))<;>simp
theorem E1n{L:Int×Unit→Option ((Int×Unit)⊕(Unit⊕(Bool×Unit)))}{n:Nat}{go:Nat→Bool}(hs:∀ i:Nat,i<n→L ((i:Int),())=bif go i then some (.inl (((i+1:Nat):Int),())) else some (.inr (.inr (false,()))))
    (he:L ((n:Int),())=some (.inr (.inl ()))) (g:Unit→Option (Bool×Unit)) (b:Bool) (hg:g ()=some (b,())):B6 (B8 L (0,())) g=some (decide (N7 go 0 n=n)&&b,()):=by
  have h:=A1j L (fun i=>((i:Int),())) n (fun i=>if i=n then .inl () else .inr (false,())) go (fun i hi=>by
    rw [hs i hi]
    cases go i with
    | true=>rfl
    | false=>simp only [Bool.false_eq_true,if_false,cond_false];rw [if_neg (by omega)]) (by rw [he,if_pos rfl])
  have h':B8 L (0,())=_:=h
  rw [h']
  by_cases hn:N7 go 0 n=n
  · rw [if_pos hn,A0 hn];simp [B6,hg]
  · rw [if_neg hn,A3 hn];simp [B6]
theorem E1o{x y:Nat}(hx:x<9223372036854775808)(hy:y<9223372036854775808):bOr .i64 (x:Int) (y:Int)=((x ||| y:Nat):Int):=by
  have h:x ||| y<2 ^ 63:=Nat.or_lt_two_pow (by omega) (by omega)
  unfold bOr
  rw [BitVec.toNat_or,bits_nat (by simp only [IntKind.bits];omega),bits_nat (by simp only [IntKind.bits];omega)]
  exact C04 (by omega)
def W7(b:List Int)(at_:Nat):Nat→Nat
  | 0=>0
  | j+1=>(W7 b at_ j*256) ||| (b.getD (at_+j) 0).toNat
theorem D1d{b:List Int}(hb:Byt b)(i:Nat):0≤b.getD i 0∧b.getD i 0<256:=by
  by_cases h:i<b.length
  · simp only [List.getD,List.getElem?_eq_getElem h,Option.getD_some]
    exact hb _ (List.getElem_mem h)
  · simp only [List.getD,List.getElem?_eq_none (show b.length≤i by omega),Option.getD_none]
    omega
theorem C9m{b:List Int}(hb:Byt b)(at_:Nat):∀ j,W7 b at_ j<2 ^ (8*j)
  | 0=>by simp [W7]
  | j+1=>by
    have h1:=C9m hb at_ j
    have h2:=D1d hb (at_+j)
    have e:2 ^ (8*(j+1))=2 ^ (8*j)*256:=by rw [show 8*(j+1)=8*j+8 by omega,Nat.pow_add]
    refine Nat.or_lt_two_pow ?_ ?_
    · rw [e];exact Nat.mul_lt_mul_of_pos_right h1 (by omega)
    · have:1≤2 ^ (8*j):=Nat.one_le_two_pow
      rw [e];omega
theorem D1e{b:List Int}(hb:Byt b)(at_ j:Nat)(hj:j<7)(x:Int)(hx:x=b.getD (at_+j) 0):bOr .i64 (IntKind.i64.wrap (((W7 b at_ j:Nat):Int)*256)) (IntKind.i64.wrap x)=((W7 b at_ (j+1):Nat):Int):=by
  have h1:=C9m hb at_ j
  have h2:=D1d hb (at_+j)
  have h3:2 ^ (8*j)≤2 ^ 48:=Nat.pow_le_pow_right (by omega) (by omega)
  subst hx
  rw [show ((W7 b at_ j:Nat):Int)*256=((W7 b at_ j*256:Nat):Int) by omega,C04 (by omega),show b.getD (at_+j) 0=(((b.getD (at_+j) 0).toNat:Nat):Int) by omega,C04 (by omega),E1o (by omega) (by omega)]
  simp only [W7,Int.toNat_natCast]
def A5L(b:List Int)(a:Int)(k:Nat):Int×Bool×Unit:=if 0≤a∧a≤(b.length:Int)-k then ((W7 b a.toNat k:Int),true,()) else (0,false,())
theorem D1f(b:List Int)(hb:Byt b)(h:b.length≤1048576)(a:Int)(k:Nat)(hk:1≤k∧k≤7):A51 b a (k:Int)=some (A5L b a k):=by
  simp only [A51,B6w,N6,A4,A5L]
  rw [A0 (show (1:Int)≤(k:Int)∧(k:Int)≤7 by omega),w64 (by omega) (by omega)]
  simp only [Bool.not_true,cond_false]
  by_cases h1:a<0
  · rw [A0 h1,if_neg (by omega)];rfl
  rw [A3 h1]
  by_cases h2:a>(b.length:Int)-k
  · rw [A0 h2,if_neg (by omega)];rfl
  rw [A3 h2,if_pos (by omega)]
  simp only [cond_false,B6]
  have key:=D7 (A3v (k:Int) a b) (fun j=>((W7 b a.toNat j:Int),(j:Int),())) k ((W7 b a.toNat k:Int),()) (fun j hj=>?_) ?_
  · have e:B8 (A3v (k:Int) a b) (0,0,())=_:=key
    rw [e]
  · have g1:(j:Int)<(k:Int):=by omega
    simp only [A3v,A0 g1,cond_true]
    rw [w64 (n:=a+(j:Int)) (by omega) (by omega)]
    have g2:0≤a+(j:Int):=by omega
    have g3:a+(j:Int)<(b.length:Int):=by omega
    rw [A0 g2,A0 g3]
    simp only [cond_true]
    rw [D1e hb a.toNat j (by omega) _ (by
      rw [show a+(j:Int)=((a.toNat+j:Nat):Int) by omega,B1q (by omega)]
      simp [List.getD,show a.toNat+j<b.length by omega]),show (j:Int)+1=((j+1:Nat):Int) by omega,C04 (by omega)]
  · simp [A3v]
theorem B3t(b:List Int)(hb:Byt b)(h:b.length≤1048576)(a:Int)(k:Nat)(hk:1≤k∧k≤7):A7b b a (k:Int)=some (A5L b a k):=by
  simp only [A7b,B77,L2,A4,A5L]
  rw [A0 (show (1:Int)≤(k:Int)∧(k:Int)≤7 by omega),w64 (n:=(b.length:Int)-(k:Int)) (by omega) (by omega)]
  simp only [Bool.not_true,cond_false]
  by_cases h1:a<0
  · rw [A0 h1,if_neg (by omega)];rfl
  rw [A3 h1]
  by_cases h2:a>(b.length:Int)-k
  · rw [A0 h2,if_neg (by omega)];rfl
  rw [A3 h2,if_pos (by omega)]
  simp only [cond_false,B6]
  rw [w64 (n:=a+(k:Int)) (by omega) (by omega),A0 (show 0≤a by omega),A0 (show a≤a+(k:Int) by omega),A0 (show a+(k:Int)≤(b.length:Int) by omega)]
  simp only [cond_true]
  have hlen:((b.take (a+(k:Int)).toNat).drop a.toNat).length=k:=by simp;omega
  have key:=D7 (A4D b a (k:Int)) (fun j=>((W7 b a.toNat j:Int),(j:Int),())) k ((W7 b a.toNat k:Int),()) (fun j hj=>?_) ?_
  · have e:B8 (A4D b a (k:Int)) (0,0,())=_:=key
    rw [e]
  · have g1:(j:Int)<(k:Int):=by omega
    have g2:(0:Int)≤(j:Int):=by omega
    simp only [A4D]
    rw [w64 (n:=a+(k:Int)) (by omega) (by omega)]
    simp only [hlen,A0 g1,A0 g2,cond_true]
    rw [D1e hb a.toNat j (by omega) _ (by
      rw [B1q (by rw [hlen];exact hj)]
      simp [List.getD,show a.toNat+j<b.length by omega]),show (j:Int)+1=((j+1:Nat):Int) by omega,C04 (by omega)]
  · simp only [A4D]
    rw [w64 (n:=a+(k:Int)) (by omega) (by omega)]
    simp [hlen]
theorem D7v{α β:Type}{f:α→Option (α⊕β)}{x:α}{z:β}(h:f x=some (.inr z)):B8 f x=some z:=by rw [V0,h]
theorem B1t(xs:List Int):(strOf xs).size=xs.length:=strOfNums_size xs
theorem D1g(x:Int):0≤B9s .i64 x 255∧B9s .i64 x 255≤255:=by
  unfold B9s
  have h:(BitVec.ofInt IntKind.i64.bits x &&& BitVec.ofInt IntKind.i64.bits 255).toNat≤255:=by
    rw [BitVec.toNat_and]
    have:(BitVec.ofInt IntKind.i64.bits (255:Int)).toNat=255:=bits_nat (w:=64) (x:=255) (by omega)
    rw [this]
    exact Nat.and_le_right
  rw [C04 (by omega)]
  omega
def Cur(c:G9):Prop:=List.length c.1≤1048576∧0≤c.2.1∧c.2.1≤1048576
theorem B0K(c:G9)(h:Cur c):∃ r c',A1J c=some (r,c',())∧Cur c'∧0≤r∧r≤255:=by
  obtain ⟨h1,h2,h3⟩:=h
  simp only [A1J,B6u]
  by_cases hi:c.2.1<(List.length c.1:Int)
  · simp only [A0 hi,A0 h2,cond_true]
    refine ⟨_,_,rfl,⟨h1,?_,?_⟩,D1g _⟩
    · simp only;rw [w64 (by omega) (by omega)];omega
    · simp only;rw [w64 (by omega) (by omega)];omega
  · simp only [A3 hi,cond_false]
    exact ⟨_,_,rfl,⟨h1,h2,h3⟩,D1g _⟩
theorem A7r(c:G9)(n:Int)(h:Cur c)(hn:0<n∧n<9223372036854775808):∃ r c',L3 c n=some (r,c',())∧Cur c'∧0≤r∧r<n:=by
  simp only [L3,A8V]
  rw [A3 (show ¬ n≤0 by omega)]
  have hz:(n == 0)=false:=by simp;omega
  simp only [cond_false,hz]
  by_cases h1:n≤256
  · rw [A0 h1]
    obtain ⟨r,c',e,hc,hr⟩:=B0K c h
    simp only [cond_true,e,A4]
    refine ⟨_,_,rfl,hc,?_⟩
    rw [Int.tmod_eq_emod_of_nonneg hr.1]
    exact ⟨Int.emod_nonneg _ (by omega),Int.emod_lt_of_pos _ (by omega)⟩
  · rw [A3 h1]
    obtain ⟨r1,c1,e1,hc1,hr1⟩:=B0K c h
    obtain ⟨r2,c2,e2,hc2,hr2⟩:=B0K c1 hc1
    obtain ⟨r3,c3,e3,hc3,hr3⟩:=B0K c2 hc2
    simp only [cond_false,e1,e2,e3,A4]
    refine ⟨_,_,rfl,hc3,?_⟩
    rw [w64 (n:=r1*65536) (by omega) (by omega),w64 (n:=r2*256) (by omega) (by omega),w64 (n:=r1*65536+r2*256) (by omega) (by omega),w64 (n:=r1*65536+r2*256+r3) (by omega) (by omega)]
    rw [Int.tmod_eq_emod_of_nonneg (by omega)]
    exact ⟨Int.emod_nonneg _ (by omega),Int.emod_lt_of_pos _ (by omega)⟩
theorem D1h(c:G9)(xs:List Int)(h:Cur c)(hx:0<xs.length∧xs.length≤1048576):∃ s c',A58 c xs=some (s,c',())∧Cur c'∧s∈xs:=by
  obtain ⟨r,c',e,hc,h0,h1⟩:=A7r c (xs.length:Int) h (by omega)
  simp only [A58,B9y,e,A4,A0 h0,A0 h1,cond_true]
  refine ⟨_,_,rfl,hc,?_⟩
  obtain ⟨n,rfl⟩:∃ n:Nat,r=(n:Int):=⟨r.toNat,by omega⟩
  rw [B1q (by omega)]
  exact List.getElem_mem _
theorem wrap_u8(x:Int):0≤IntKind.u8.wrap x∧IntKind.u8.wrap x<256:=by
  simp only [IntKind.wrap,IntKind.bits,IntKind.signed]
  simp
  omega
theorem D4j(c:G9)(n:Int)(h:Cur c)(hn:0≤n∧n≤1048576):∃ b c',Q6 c n=some (b,c',())∧Cur c'∧(List.length b:Int)=n∧Byt b:=by
  simp only [Q6,A5J]
  obtain ⟨z,e,hz⟩:=A0C (A3P A1J n) (fun l=>(n-l.1).toNat) (fun l=>0≤l.1∧l.1≤n∧Cur (l.2.1,l.2.2.1,l.2.2.2.1)∧(List.length l.2.2.2.2.1:Int)=l.1∧Byt l.2.2.2.2.1)
    (fun z=>Cur z.2.1∧(List.length z.1:Int)=n∧Byt z.1) (fun l hl=>by
      obtain ⟨h0,h1,hc,hlen,hb⟩:=hl
      simp only [A3P]
      by_cases hi:l.1<n
      · obtain ⟨r,c',e,hc',hr⟩:=B0K _ hc
        refine .inl ⟨(l.1+1,c'.1,c'.2.1,c'.2.2,l.2.2.2.2.1 ++ [IntKind.u8.wrap r],()),?_,⟨by simp only;omega,by simp only;omega,hc',by simp;omega,?_⟩,by simp only;omega⟩
        · rw [A0 hi,e]
          simp only [cond_true,A4]
          rw [A0 (by simp;omega),A0 (by simp;omega),w64 (by omega) (by omega)]
          rfl
        · intro x hx
          rcases List.mem_append.1 hx with hx | hx
          · exact hb x hx
          · rw [List.mem_singleton.1 hx];exact wrap_u8 _
      · rw [A3 hi]
        exact .inr ⟨_,rfl,hc,by simp only;omega,hb⟩) (0,c.1,c.2.1,c.2.2,[],()) ⟨by simp,hn.1,h,by simp,fun x hx=>by cases hx⟩
  exact ⟨z.1,z.2.1,e,hz⟩
theorem E0A(a:List Int)(h:a.length≤1048576):∃ c,B0C a=some (c,())∧Cur c:=by
  simp only [B0C,B9u]
  obtain ⟨z,e,_⟩:=A0C (B3S a) (fun l=>((a.length:Int)-l.2.1).toNat) (fun l=>0≤l.2.1) (fun _=>True) (fun l hl=>by
    simp only [B3S]
    by_cases hi:l.2.1<(a.length:Int)
    · by_cases h4:l.2.1<4000
      · rw [A0 hi,A0 h4]
        simp only [cond_true,B6]
        rw [A0 hl,w64 (n:=l.2.1+1) (by omega) (by omega)]
        exact .inl ⟨_,rfl,by simp only;omega,by simp only;omega⟩
      · rw [A0 hi,A3 h4]
        exact .inr ⟨_,rfl,trivial⟩
    · rw [A3 hi]
      exact .inr ⟨_,rfl,trivial⟩) (IntKind.i64.wrap (369369+(a.length:Int)),0,()) (by simp)
  rw [e]
  exact ⟨_,rfl,h,by simp,by simp⟩
def P4(r:G8):Bool:=
  decide (0≤r.1∧r.1≤10000)&&decide (0≤r.2.1∧r.2.1≤199)&&idB r.2.2.2.1 &&
  (if r.2.2.1=1 then decide (0≤r.2.2.2.2.1∧r.2.2.2.2.1≤1000000000)&&decide ((List.length r.2.2.2.2.2:Int)=0)
   else if r.2.2.1=2 then decide (0≤r.2.2.2.2.1∧r.2.2.2.2.1≤1000000000)&&decide (1≤(List.length r.2.2.2.2.2:Int)∧(List.length r.2.2.2.2.2:Int)≤24)
   else if r.2.2.1=3∨r.2.2.1=4 then decide (r.2.2.2.2.1=0)&&decide ((List.length r.2.2.2.2.2:Int)=0) else false)
theorem D4k(r:G8)(h:r.2.2.2.1.size≤maxLen):B0E r=some (P4 r,()):=by
  simp only [B0E,B9w,A7p _ h,N6,A4,P4]
  cases decide (0≤r.1∧r.1≤10000)
  · rfl
  cases decide (0≤r.2.1∧r.2.1≤199)
  · rfl
  cases idB r.2.2.2.1
  · rfl
  simp only [Bool.not_true,cond_false,B6,Bool.true_and]
  by_cases h1:r.2.2.1=1
  · rw [A0 h1,if_pos h1]
    cases decide (0≤r.2.2.2.2.1∧r.2.2.2.2.1≤1000000000)<;>rfl
  rw [A3 h1,if_neg h1]
  by_cases h2:r.2.2.1=2
  · rw [A0 h2,if_pos h2]
    cases decide (0≤r.2.2.2.2.1∧r.2.2.2.2.1≤1000000000)<;>rfl
  rw [A3 h2,if_neg h2]
  by_cases h3:r.2.2.1=3
  · rw [A0 h3,if_pos (.inl h3)]
    cases decide (r.2.2.2.2.1=0)<;>rfl
  rw [A3 h3]
  by_cases h4:r.2.2.1=4
  · rw [A0 h4,if_pos (.inr h4)]
    cases decide (r.2.2.2.2.1=0)<;>rfl
  rw [A3 h4,if_neg (by omega)]
  rfl
theorem C4T(r:G8)(h:r.2.2.2.1.size≤maxLen):A5A r=some (P4 r,()):=by
  simp only [A5A,C00,A1U,A8l,B1r _ h,L2,A4,P4]
  cases decide (0≤r.1∧r.1≤10000)
  · rfl
  cases decide (0≤r.2.1∧r.2.1≤199)
  · rfl
  by_cases hk:1≤r.2.2.1∧r.2.2.1≤4
  · rw [A0 hk]
    cases idB r.2.2.2.1
    · rfl
    simp only [Bool.not_true,cond_false,B6,Bool.true_and]
    by_cases h1:r.2.2.1=1
    · rw [A0 h1,if_pos h1]
      cases decide (0≤r.2.2.2.2.1∧r.2.2.2.2.1≤1000000000)<;>rfl
    rw [A3 h1,if_neg h1]
    by_cases h2:r.2.2.1=2
    · rw [A0 h2,if_pos h2]
      cases decide (0≤r.2.2.2.2.1∧r.2.2.2.2.1≤1000000000)<;>rfl
    rw [A3 h2,if_neg h2,if_pos (by omega)]
    cases decide (r.2.2.2.2.1=0)<;>rfl
  · rw [A3 hk,if_neg (by omega),if_neg (by omega),if_neg (by omega)]
    cases idB r.2.2.2.1<;>rfl
theorem A0F{r:G8}(h:P4 r=true):0≤r.1∧r.1≤10000∧1≤r.2.2.1∧r.2.2.1≤4∧r.2.2.2.1.size≤8∧0≤r.2.2.2.2.1∧r.2.2.2.2.1≤1000000000∧List.length r.2.2.2.2.2≤24:=by
  simp only [P4,idB,Bool.and_eq_true,decide_eq_true_eq] at h
  obtain ⟨⟨⟨h1,h2⟩,h3,h4⟩,h5⟩:=h
  split at h5
  · simp only [Bool.and_eq_true,decide_eq_true_eq] at h5;omega
  · split at h5
    · simp only [Bool.and_eq_true,decide_eq_true_eq] at h5;omega
    · split at h5
      · simp only [Bool.and_eq_true,decide_eq_true_eq] at h5;omega
      · cases h5
theorem C9n{a b:List Int}(ha:Byt a)(hb:Byt b):Byt (a++b):=fun x hx=>(List.mem_append.1 hx).elim (ha x) (hb x)
theorem D6m(n:Int)(k:Nat):Byt (big n k):=by
  intro x hx
  obtain ⟨j,_,rfl⟩:=List.mem_map.1 hx
  exact wrap_u8 _
theorem A8x(s:ByteArray):Byt (bytesOf s):=by
  intro x hx
  obtain ⟨b,_,rfl⟩:=List.mem_map.1 hx
  have:=b.toNat_lt
  omega
theorem A01:Byt []:=fun x hx=>by cases hx
theorem A65{a:List Int}(h:Byt a)(i:Nat):Byt (a.drop i):=fun x hx=>h x (List.mem_of_mem_drop hx)
def B2z(r:G8):List Int:=
  big (A0D r.1) 3++big (A0D r.2.1) 2++big (A0D r.2.2.1) 1++big (A0D (r.2.2.2.1.size:Int)) 1++bytesOf r.2.2.2.1++big (A0D r.2.2.2.2.1) 4++big (A0D (List.length r.2.2.2.2.2:Int)) 1++r.2.2.2.2.2
def E2v(b:List Int):Int:=((A63 b ^^^ 4294967295:Nat):Int)
def V6(r:G8):ByteArray:=strOf (B2z r++big (A0D (E2v (B2z r))) 4)
theorem B3u(r:G8):(B2z r).length=12+r.2.2.2.1.size+List.length r.2.2.2.2.2:=by
  simp only [B2z,List.length_append,J1,bytesOf_length]
  omega
theorem C4U(r:G8)(h:Byt r.2.2.2.2.2):Byt (B2z r):=by
  unfold B2z
  repeat' first | apply C9n | apply D6m | apply A8x | exact h
theorem C1K(r:G8)(h1:r.2.2.2.1.size≤10000000)(h2:List.length r.2.2.2.2.2≤10000000)(hb:Byt r.2.2.2.2.2):A3J r=some (V6 r,()):=by
  have hlen:=B3u r
  simp only [A3J,B6y]
  rw [show (3:Int)=((3:Nat):Int) from rfl,A1k [] _ 3 (by omega) (by omega) (by simp)]
  simp only [A4,List.nil_append]
  rw [show (2:Int)=((2:Nat):Int) from rfl,A1k _ _ 2 (by omega) (by omega) (by simp [J1])]
  simp only
  rw [show (1:Int)=((1:Nat):Int) from rfl,A1k _ _ 1 (by omega) (by omega) (by simp [J1])]
  simp only
  rw [A1k _ _ 1 (by omega) (by omega) (by simp [J1])]
  simp only
  rw [A0 (by simp [J1];omega)]
  simp only [cond_true]
  rw [show (4:Int)=((4:Nat):Int) from rfl,A1k _ _ 4 (by omega) (by omega) (by simp [J1,bytesOf_length];omega)]
  simp only
  rw [A1k _ _ 1 (by omega) (by omega) (by simp [J1,bytesOf_length];omega)]
  simp only
  rw [A0 (by simp [J1,bytesOf_length];omega),A0 (by simp [J1,bytesOf_length];omega)]
  simp only [cond_true]
  have e:big (A0D r.1) 3++big (A0D r.2.1) 2++big (A0D r.2.2.1) 1++big (A0D (r.2.2.2.1.size:Int)) 1++bytesOf r.2.2.2.1++big (A0D r.2.2.2.2.1) 4++big (A0D (List.length r.2.2.2.2.2:Int)) 1++r.2.2.2.2.2=B2z r:=rfl
  rw [e,C4P _ (C4U r hb) (by rw [hlen];simp only [maxLen];omega)]
  simp only
  rw [A1k _ _ 4 (by omega) (by omega) (by rw [hlen];omega)]
  rfl
theorem C9o(n:Int):big n 1 = [IntKind.u8.wrap n]:=by
  simp [big,C4M]
theorem A4Q{n:Int}(h:0≤n):A0D n=n:=by unfold A0D;rw [if_neg (by omega)]
theorem C1L(r:G8)(h1:r.2.2.2.1.size≤maxLen)(hb:Byt r.2.2.2.2.2):A3M r=some (if P4 r then V6 r else ⟨#[]⟩,()):=by
  simp only [A3M,B79,C4T r h1]
  cases hr:P4 r with
  | false=>rfl
  | true=>
    have hbd:=A0F hr
    have hlen:=B3u r
    simp only [A4,Bool.not_true,cond_false]
    rw [show (3:Int)=((3:Nat):Int) from rfl,A8u [] _ 3 (by omega) (by simp)]
    simp only [List.nil_append]
    rw [show (2:Int)=((2:Nat):Int) from rfl,A8u _ _ 2 (by omega) (by simp [J1])]
    simp only
    rw [A0 (by simp [J1]),A0 (by simp [J1])]
    simp only [cond_true]
    rw [A0 (by simp [J1];omega)]
    simp only [cond_true]
    rw [show (4:Int)=((4:Nat):Int) from rfl,A8u _ _ 4 (by omega) (by simp [J1,bytesOf_length];omega)]
    simp only
    rw [A0 (by simp [J1,bytesOf_length];omega),A0 (by simp [J1,bytesOf_length];omega)]
    simp only [cond_true]
    rw [A0 (by simp [J1,bytesOf_length];omega),A0 (by simp [J1,bytesOf_length];omega)]
    simp only [cond_true]
    have e:big (A0D r.1) 3++big (A0D r.2.1) 2 ++ [IntKind.u8.wrap r.2.2.1,IntKind.u8.wrap (r.2.2.2.1.size:Int)]++bytesOf r.2.2.2.1++big (A0D r.2.2.2.2.1) 4 ++ [IntKind.u8.wrap (List.length r.2.2.2.2.2:Int)]++r.2.2.2.2.2=B2z r:=by
      unfold B2z
      rw [C9o,C9o,C9o,A4Q (n:=r.2.2.1) (by omega),A4Q (n:=(r.2.2.2.1.size:Int)) (by omega),A4Q (n:=(List.length r.2.2.2.2.2:Int)) (by omega)]
      simp [List.append_assoc]
    rw [e,C4Q _ (C4U r hb) (by rw [hlen];simp only [maxLen];omega)]
    simp only
    rw [A8u _ _ 4 (by omega) (by rw [hlen];omega)]
    rfl
def D6(b:List Int):Nat:=W7 b 6 1
def O5(b:List Int):Nat:=W7 b (11+D6 b) 1
def recAt(b:List Int):G8:=((W7 b 0 3:Int),(W7 b 3 2:Int),(W7 b 5 1:Int),strOf ((b.take (7+D6 b)).drop 7),(W7 b (7+D6 b) 4:Int),(b.take (12+D6 b+O5 b)).drop (12+D6 b))
def D6n:G8×Bool×Unit:=((0,0,0,⟨#[]⟩,0,[]),false,())
def A8y(s:ByteArray):Bool:=decide (12+D6 (bytesOf s)+O5 (bytesOf s)≤s.size)&&P4 (recAt (bytesOf s))&&((V6 (recAt (bytesOf s))).toList == s.toList)
def D3(s:ByteArray):G8×Bool×Unit:=if A8y s=true then (recAt (bytesOf s),true,()) else D6n
theorem A5M(b:List Int)(a k:Nat)(h:a+k≤b.length):A5L b (a:Int) k=((W7 b a k:Int),true,()):=by
  unfold A5L
  rw [if_pos (by omega),Int.toNat_natCast]
theorem C07(b:List Int)(a k:Nat)(h:¬ a+k≤b.length):A5L b (a:Int) k=(0,false,()):=by
  unfold A5L
  rw [if_neg (by omega)]
theorem C3U{b:List Int}(hb:Byt b)(a:Nat):W7 b a 1<256:=by
  have:=C9m hb a 1
  omega
theorem C8Y(b:List Int)(h:12+D6 b+O5 b≤b.length):(recAt b).2.2.2.1.size=D6 b∧List.length (recAt b).2.2.2.2.2=O5 b:=by
  simp only [recAt,B1t,List.length_drop,List.length_take]
  omega
theorem C08{b:List Int}(hb:Byt b):Byt (recAt b).2.2.2.2.2:=A65 (A2a hb _) _
theorem A66(s:ByteArray)(hs:s.size≤1048576):K4 s=some (D3 s):=by
  have hbl:=bytesOf_length s
  have hb:=A8x s
  have hh:(bytesOf s).length≤1048576:=by omega
  have hsz:s.size=(bytesOf s).length:=hbl.symm
  simp only [D3,A8y,hsz]
  have hlen:decide ((bytesOf s).length≤9223372036854775807)=true:=A0 (by omega)
  simp only [K4,B6z,hsz,hlen,cond_true]
  clear hlen hsz
  generalize bytesOf s=b at hb hh ⊢
  clear hbl
  have g0:∀ (a:Int) (k:Nat) (k':Int),k' = (k:Int)→1≤k∧k≤7→A51 b a k' = some (A5L b a k):=fun a k k' e hk=>by rw [e];exact D1f b hb hh a k hk
  have q0:=g0 0 3 3 rfl (by omega)
  have q3:=g0 3 2 2 rfl (by omega)
  have q5:=g0 5 1 1 rfl (by omega)
  have q6:=g0 6 1 1 rfl (by omega)
  simp only [q0,q3,q5,q6]
  by_cases c1:7≤b.length
  · have e0:=A5M b 0 3 (by omega)
    have e3:=A5M b 3 2 (by omega)
    have e5:=A5M b 5 1 (by omega)
    have e6:=A5M b 6 1 (by omega)
    simp only [Int.cast_ofNat_Int] at e0 e3 e5 e6
    have hn:=C3U hb 6
    have hN:(W7 b 6 1:Int)=((D6 b:Nat):Int):=rfl
    have hn':D6 b<256:=hn
    simp only [e0,e3,e5,e6,A4,Bool.not_true,cond_false,hN]
    rw [w64 (n:=7+(D6 b:Int)) (by omega) (by omega),w64 (n:=11+(D6 b:Int)) (by omega) (by omega),w64 (n:=12+(D6 b:Int)) (by omega) (by omega)]
    by_cases c2:7+D6 b≤b.length
    · rw [A3 (show ¬ 7+(D6 b:Int)>(b.length:Int) by omega)]
      simp only [cond_false,B6]
      rw [A0 (show 7≤7+(D6 b:Int) by omega),A0 (show 7+(D6 b:Int)≤(b.length:Int) by omega)]
      simp only [cond_true]
      have q7:=g0 (7+(D6 b:Int)) 4 4 rfl (by omega)
      have q11:=g0 (11+(D6 b:Int)) 1 1 rfl (by omega)
      simp only [q7,q11]
      by_cases c3:12+D6 b≤b.length
      · have e7:=A5M b (7+D6 b) 4 (by omega)
        have e11:=A5M b (11+D6 b) 1 (by omega)
        simp only [Int.natCast_add,Int.cast_ofNat_Int] at e7 e11
        have hm:O5 b<256:=C3U hb _
        have hM:(W7 b (11+D6 b) 1:Int)=((O5 b:Nat):Int):=rfl
        simp only [e7,e11,Bool.not_true,cond_false,hM]
        rw [w64 (n:=12+(D6 b:Int)+(O5 b:Int)) (by omega) (by omega)]
        by_cases c4:12+D6 b+O5 b≤b.length
        · rw [A3 (show ¬ 12+(D6 b:Int)+(O5 b:Int)>(b.length:Int) by omega),A0 (show 0≤12+(D6 b:Int) by omega),A0 (show 12+(D6 b:Int)≤12+(D6 b:Int)+(O5 b:Int) by omega),A0 (show 12+(D6 b:Int)+(O5 b:Int)≤(b.length:Int) by omega)]
          simp only [cond_true,cond_false]
          rw [A0 (by simp;omega),A0 (by simp;omega)]
          have t1:(7+(D6 b:Int)).toNat=7+D6 b:=by omega
          have t2:(12+(D6 b:Int)+(O5 b:Int)).toNat=12+D6 b+O5 b:=by omega
          have t3:(12+(D6 b:Int)).toNat=12+D6 b:=by omega
          simp only [cond_true,List.nil_append,t1,t2,t3]
          have hr:(((W7 b 0 3:Nat):Int),((W7 b 3 2:Nat):Int),((W7 b 5 1:Nat):Int),strOf ((b.take (7+D6 b)).drop 7),((W7 b (7+D6 b) 4:Nat):Int),(b.take (12+D6 b+O5 b)).drop (12+D6 b))=recAt b:=rfl
          obtain ⟨l1,l2⟩:=C8Y b c4
          rw [hr,D4k _ (by rw [l1];simp only [maxLen];omega),C1K _ (by rw [l1];omega) (by rw [l2];omega) (C08 hb)]
          rw [A0 c4]
          simp only [Bool.true_and]
          cases P4 (recAt b)
          · rfl
          · cases hp:((V6 (recAt b)).toList == s.toList)
            · rfl
            · rfl
        · rw [A0 (show 12+(D6 b:Int)+(O5 b:Int)>(b.length:Int) by omega),A3 c4]
          rfl
      · have e11:=C07 b (11+D6 b) 1 (by omega)
        simp only [Int.natCast_add,Int.cast_ofNat_Int] at e11
        simp only [e11]
        rw [A3 (show ¬ 12+D6 b+O5 b≤b.length by omega)]
        cases (A5L b (7+(D6 b:Int)) 4).2.1<;>rfl
    · rw [A0 (show 7+(D6 b:Int)>(b.length:Int) by omega),A3 (show ¬ 12+D6 b+O5 b≤b.length by omega)]
      rfl
  · have e6:=C07 b 6 1 (by omega)
    simp only [Int.cast_ofNat_Int] at e6
    rw [A3 (show ¬ 12+D6 b+O5 b≤b.length by omega)]
    simp only [e6,A4]
    cases (A5L b 0 3).2.1<;>cases (A5L b 3 2).2.1<;>cases (A5L b 5 1).2.1<;>rfl
theorem A0l{b:List Int}(hb:Byt b)(hh:b.length≤1048576)(a k:Nat)(k':Int)(e:k' = (k:Int))(hk:1≤k∧k≤7)(h:a+k≤b.length):D4 (b,(a:Int),false) k' = some ((W7 b a k:Int),(b,((a+k:Nat):Int),false),()):=by
  subst e
  simp only [D4,Q0,B3t b hb hh _ k hk,A5M b a k h,A4,B6,Bool.not_true,cond_false]
  rw [w64 (by omega) (by omega)]
  rfl
theorem A7C{b:List Int}(hb:Byt b)(hh:b.length≤1048576)(a k:Nat)(k':Int)(e:k' = (k:Int))(hk:1≤k∧k≤7)(h:¬ a+k≤b.length):D4 (b,(a:Int),false) k' = some (0,(b,(a:Int),true),()):=by
  subst e
  simp only [D4,Q0,B3t b hb hh _ k hk,C07 b a k h,A4,B6,Bool.not_false,cond_false,cond_true]
theorem E1p{b:List Int}(hb:Byt b)(hh:b.length≤1048576)(a:Int)(k:Nat)(k':Int)(e:k' = (k:Int))(hk:1≤k∧k≤7):D4 (b,a,true) k' = some (0,(b,a,true),()):=by
  subst e
  simp only [D4,Q0,B3t b hb hh _ k hk,A4,B6,cond_true]
theorem E0B(b:List Int)(a n:Int):H4 (b,a,true) n=some ([],(b,a,true),()):=by
  simp only [H4,T4,cond_true,B6]
theorem C09{b:List Int}(hh:b.length≤1048576)(a n:Nat)(h:a+n≤b.length):H4 (b,(a:Int),false) (n:Int)=some ((b.take (a+n)).drop a,(b,((a+n:Nat):Int),false),()):=by
  simp only [H4,T4,cond_false]
  rw [w64 (n:=(b.length:Int)-(a:Int)) (by omega) (by omega),A3 (by omega),w64 (n:=(a:Int)+(n:Int)) (by omega) (by omega),w64 (n:=(a:Int)+(n:Int)-(n:Int)) (by omega) (by omega)]
  simp only [cond_false,B6]
  rw [A0 (by omega),A0 (by omega),A0 (by omega)]
  simp only [cond_true]
  rw [A0w _ (by simp;omega),show ((a:Int)+(n:Int)).toNat=a+n by omega,show ((a:Int)+(n:Int)-(n:Int)).toNat=a by omega]
  rfl
theorem C4V{b:List Int}(hh:b.length≤1048576)(a n:Nat)(ha:a≤b.length)(h:¬ a+n≤b.length):H4 (b,(a:Int),false) (n:Int)=some ([],(b,(a:Int),true),()):=by
  simp only [H4,T4,cond_false]
  rw [w64 (n:=(b.length:Int)-(a:Int)) (by omega) (by omega),A0 (by omega)]
  rfl
theorem B3v(s:ByteArray)(hs:s.size≤1048576):A0U s=some (D3 s):=by
  have hbl:=bytesOf_length s
  have hb:=A8x s
  have hh:(bytesOf s).length≤1048576:=by omega
  have hsz:s.size=(bytesOf s).length:=hbl.symm
  simp only [D3,A8y,hsz]
  have hlen:decide ((bytesOf s).length≤9223372036854775807)=true:=A0 (by omega)
  simp only [A0U,B7A,hsz,hlen,cond_true]
  clear hlen hsz
  generalize bytesOf s=b at hb hh ⊢
  clear hbl
  have nb:∀ (a:Int) (k:Nat) (k':Int),k' = (k:Int)→1≤k∧k≤7→D4 (b,a,true) k' = some (0,(b,a,true),()):=fun a k k' e hk=>E1p hb hh a k k' e hk
  have nb1:∀ a:Int,D4 (b,a,true) 1=some (0,(b,a,true),()):=fun a=>nb a 1 1 rfl (by omega)
  have nb2:∀ a:Int,D4 (b,a,true) 2=some (0,(b,a,true),()):=fun a=>nb a 2 2 rfl (by omega)
  have nb4:∀ a:Int,D4 (b,a,true) 4=some (0,(b,a,true),()):=fun a=>nb a 4 4 rfl (by omega)
  have tb:=E0B b
  have z0:((0:Int),false)=(((0:Nat):Int),false):=rfl
  rw [z0]
  by_cases c4:12+D6 b+O5 b≤b.length
  · have hn':D6 b<256:=C3U hb _
    have hm':O5 b<256:=C3U hb _
    have hN:(W7 b 6 1:Int)=((D6 b:Nat):Int):=rfl
    have hM:(W7 b (11+D6 b) 1:Int)=((O5 b:Nat):Int):=rfl
    rw [A0l hb hh 0 3 3 rfl (by omega) (by omega)]
    simp only [A4]
    rw [A0l hb hh (0+3) 2 2 rfl (by omega) (by omega)]
    simp only
    rw [A0l hb hh (0+3+2) 1 1 rfl (by omega) (by omega)]
    simp only
    rw [A0l hb hh (0+3+2+1) 1 1 rfl (by omega) (by omega)]
    simp only [Nat.zero_add,Nat.reduceAdd,hN]
    rw [C09 hh 7 (D6 b) (by omega)]
    simp only
    rw [A0l hb hh (7+D6 b) 4 4 rfl (by omega) (by omega)]
    simp only
    rw [A0l hb hh (7+D6 b+4) 1 1 rfl (by omega) (by omega)]
    simp only
    rw [show 7+D6 b+4=11+D6 b by omega,hM,show 11+D6 b+1=12+D6 b by omega,C09 hh (12+D6 b) (O5 b) (by omega)]
    simp only [cond_false]
    have hr:(((W7 b 0 3:Nat):Int),((W7 b 3 2:Nat):Int),((W7 b 5 1:Nat):Int),strOf ((b.take (7+D6 b)).drop 7),((W7 b (7+D6 b) 4:Nat):Int),(b.take (12+D6 b+O5 b)).drop (12+D6 b))=recAt b:=rfl
    obtain ⟨l1,l2⟩:=C8Y b c4
    rw [hr,C4T _ (by rw [l1];simp only [maxLen];omega),C1L _ (by rw [l1];simp only [maxLen];omega) (C08 hb)]
    rw [A0 c4]
    simp only [Bool.true_and]
    cases P4 (recAt b)
    · rfl
    · cases hp:((V6 (recAt b)).toList == s.toList)
      · simp [hp];rfl
      · simp [hp]
  · rw [A3 c4]
    have fin:(if (false&&P4 (recAt b)&&((V6 (recAt b)).toList == s.toList))=true then (recAt b,true,()) else D6n)=D6n:=by simp
    rw [fin]
    rcases Nat.lt_or_ge b.length (0+3) with d3 | d3
    · rw [A7C hb hh 0 3 3 rfl (by omega) (by omega)]
      simp only [A4,nb1,nb2,nb4,tb]
      rfl
    rw [A0l hb hh 0 3 3 rfl (by omega) d3]
    simp only [A4]
    rcases Nat.lt_or_ge b.length (0+3+2) with d5 | d5
    · rw [A7C hb hh (0+3) 2 2 rfl (by omega) (by omega)]
      simp only [nb1,nb2,nb4,tb]
      rfl
    rw [A0l hb hh (0+3) 2 2 rfl (by omega) d5]
    simp only
    rcases Nat.lt_or_ge b.length (0+3+2+1) with d6 | d6
    · rw [A7C hb hh (0+3+2) 1 1 rfl (by omega) (by omega)]
      simp only [nb1,nb2,nb4,tb]
      rfl
    rw [A0l hb hh (0+3+2) 1 1 rfl (by omega) d6]
    simp only
    rcases Nat.lt_or_ge b.length (0+3+2+1+1) with d7 | d7
    · rw [A7C hb hh (0+3+2+1) 1 1 rfl (by omega) (by omega)]
      simp only [nb1,nb2,nb4,tb]
      rfl
    rw [A0l hb hh (0+3+2+1) 1 1 rfl (by omega) d7]
    have hN:(W7 b 6 1:Int)=((D6 b:Nat):Int):=rfl
    have hM:(W7 b (11+D6 b) 1:Int)=((O5 b:Nat):Int):=rfl
    simp only [Nat.zero_add,Nat.reduceAdd,hN]
    rcases Nat.lt_or_ge b.length (7+D6 b) with e7 | e7
    · rw [C4V hh 7 (D6 b) (by omega) (by omega)]
      simp only [nb1,nb2,nb4,tb]
      rfl
    rw [C09 hh 7 (D6 b) e7]
    simp only
    rcases Nat.lt_or_ge b.length (7+D6 b+4) with e11 | e11
    · rw [A7C hb hh (7+D6 b) 4 4 rfl (by omega) (by omega)]
      simp only [nb1,nb2,nb4,tb]
      rfl
    rw [A0l hb hh (7+D6 b) 4 4 rfl (by omega) e11]
    simp only
    rcases Nat.lt_or_ge b.length (7+D6 b+4+1) with e12 | e12
    · rw [A7C hb hh (7+D6 b+4) 1 1 rfl (by omega) (by omega)]
      simp only [nb1,nb2,nb4,tb]
      rfl
    rw [A0l hb hh (7+D6 b+4) 1 1 rfl (by omega) e12]
    simp only
    rw [show 7+D6 b+4=11+D6 b by omega,hM,show 11+D6 b+1=12+D6 b by omega,C4V hh (12+D6 b) (O5 b) (by omega) c4]
    rfl
theorem A3f:∀ x:List UInt8,Op.bytesLess x x=false
  | []=>rfl
  | a::x=>by
    have h:¬ a<a:=UInt8.lt_irrefl a
    simp [Op.bytesLess,A3f x,h]
theorem B8I:∀ {x y z:List UInt8},Op.bytesLess x y=true→Op.bytesLess y z=true→Op.bytesLess x z=true
  | _,[],_,h,_=>by cases ‹List UInt8›<;>simp [Op.bytesLess] at h
  | _,_::_,[],_,h=>by simp [Op.bytesLess] at h
  | [],_::_,_::_,_,_=>rfl
  | a::x,b::y,c::z,h1,h2=>by
    simp only [Op.bytesLess,Bool.or_eq_true,Bool.and_eq_true,decide_eq_true_eq,beq_iff_eq] at h1 h2 ⊢
    rcases h1 with h1 | ⟨rfl,h1⟩
    · rcases h2 with h2 | ⟨rfl,h2⟩
      · exact .inl (UInt8.lt_trans h1 h2)
      · exact .inl h1
    · rcases h2 with h2 | ⟨rfl,h2⟩
      · exact .inl h2
      · exact .inr ⟨rfl,B8I h1 h2⟩
theorem D1i:∀ {x y:List UInt8},Op.bytesLess x y=false→Op.bytesLess y x=false→x=y
  | [],[],_,_=>rfl
  | [],_::_,h,_=>by simp [Op.bytesLess] at h
  | _::_,[],_,h=>by simp [Op.bytesLess] at h
  | a::x,b::y,h1,h2=>by
    simp only [Op.bytesLess,Bool.or_eq_false_iff,decide_eq_false_iff_not,Bool.and_eq_false_iff,beq_eq_false_iff_ne] at h1 h2
    have hab:a=b:=by
      apply UInt8.le_antisymm
      · exact UInt8.not_lt.1 h2.1
      · exact UInt8.not_lt.1 h1.1
    subst hab
    exact congrArg (a::·) (D1i (by simpa using h1.2) (by simpa using h2.2))
theorem E0C{x y:List UInt8}(h:Op.bytesLess x y=true):Op.bytesLess y x=false:=by
  cases e:Op.bytesLess y x with
  | false=>rfl
  | true=>have:=B8I h e;rw [A3f] at this;cases this
def Ord(us:List TUp):Prop:=us.Pairwise fun a b=>Op.bytesLess a.1.toList b.1.toList=true
theorem C9p{us:List TUp}(h:Ord us){i j:Nat}(hij:i<j)(hj:j<us.length):Op.bytesLess (us[i]'(by omega)).1.toList us[j].1.toList=true:=List.pairwise_iff_getElem.1 h i j (by omega) hj hij
def B4(us:List TUp)(id:ByteArray):Nat:=N7 (fun i=>Op.bytesLess (rd kUp us (i:Int)).1.toList id.toList) 0 us.length
def G7(us:List TUp)(id:ByteArray):Bool:=decide (B4 us id<us.length)&&((rd kUp us (B4 us id:Int)).1.toList == id.toList)
theorem A67(go:Nat→Bool):∀ k i j,i≤j→j<N7 go i k→go j=true
  | 0,i,j,h1,h2=>by simp only [N7] at h2;omega
  | k+1,i,j,h1,h2=>by
    simp only [N7] at h2
    split at h2
    · rename_i hg
      by_cases e:j=i
      · rw [e];exact hg
      · exact A67 go k (i+1) j (by omega) h2
    · omega
theorem A8z(go:Nat→Bool)(n p:Nat)(hp:p≤n)(h1:∀ j,j<p→go j=true)(h2:p<n→go p=false):N7 go 0 n=p:=by
  have hl:=C03 go n 0
  rcases Nat.lt_trichotomy (N7 go 0 n) p with h | h | h
  · have:=A4P go n 0 (by omega)
    rw [h1 _ h] at this;cases this
  · exact h
  · have:=A67 go n 0 p (by omega) h
    rw [h2 (by omega)] at this;cases this
theorem A68(us:List TUp)(id:ByteArray):B4 us id≤us.length:=by have:=C03 (fun i=>Op.bytesLess (rd kUp us (i:Int)).1.toList id.toList) us.length 0;unfold B4;omega
theorem B3w{us:List TUp}{id:ByteArray}{j:Nat}(hj:j<B4 us id):Op.bytesLess (us[j]'(by have:=A68 us id;omega)).1.toList id.toList=true:=by
  have:=A67 _ us.length 0 j (by omega) hj
  rwa [C8 (k:=kUp) (xs:=us) (by have:=A68 us id;omega)] at this
theorem B8J{us:List TUp}{id:ByteArray}(h:B4 us id<us.length):Op.bytesLess us[B4 us id].1.toList id.toList=false:=by
  have:=A4P (fun i=>Op.bytesLess (rd kUp us (i:Int)).1.toList id.toList) us.length 0 (by unfold B4 at h;omega)
  have h2:Op.bytesLess (rd kUp us (B4 us id:Int)).1.toList id.toList=false:=this
  rwa [C8 (k:=kUp) (xs:=us) h] at h2
theorem E0D{us:List TUp}(ho:Ord us){id:ByteArray}{j:Nat}(hj:B4 us id≤j)(hl:j<us.length):Op.bytesLess us[j].1.toList id.toList=false:=by
  rcases Nat.eq_or_lt_of_le hj with e | h
  · subst e;exact B8J hl
  · cases e:Op.bytesLess us[j].1.toList id.toList with
    | false=>rfl
    | true=>
      have:=B8I (C9p ho h hl) e
      rw [B8J (by omega)] at this
      cases this
theorem I4{us:List TUp}{id:ByteArray}:G7 us id=true↔∃ h:B4 us id<us.length,us[B4 us id].1.toList=id.toList:=by
  unfold G7
  constructor
  · intro h
    simp only [Bool.and_eq_true,decide_eq_true_eq,beq_iff_eq] at h
    refine ⟨h.1,?_⟩
    have h2:=h.2
    rwa [C8 (k:=kUp) (xs:=us) h.1] at h2
  · rintro ⟨h,e⟩
    simp only [Bool.and_eq_true,decide_eq_true_eq,beq_iff_eq]
    refine ⟨h,?_⟩
    rw [C8 (k:=kUp) (xs:=us) h]
    exact e
theorem B8K{us:List TUp}(ho:Ord us){id:ByteArray}(hn:G7 us id=false){j:Nat}(hj:B4 us id≤j)(hl:j<us.length):Op.bytesLess id.toList us[j].1.toList=true:=by
  cases e:Op.bytesLess id.toList us[j].1.toList with
  | true=>rfl
  | false=>
    have h1:=D1i (E0D ho hj hl) e
    exfalso
    rcases Nat.eq_or_lt_of_le hj with e2 | h
    · subst e2
      have:=I4.2 ⟨hl,h1⟩
      rw [hn] at this;cases this
    · have h2:=C9p ho h hl
      rw [h1,B8J (by omega)] at h2
      cases h2
theorem C4W{us:List TUp}(ho:Ord us){id:ByteArray}(h:G7 us id=true):B3s us id=B4 us id:=by
  obtain ⟨hl,e⟩:=I4.1 h
  refine A8z _ us.length _ (A68 us id) (fun j hj=>?_) (fun _=>?_)
  · rw [C8 (k:=kUp) (xs:=us) (by omega)]
    have h1:=B3w hj
    cases e2:((us[j]'(by omega)).1.toList == id.toList) with
    | false=>rfl
    | true=>
      rw [eq_of_beq e2,A3f] at h1
      cases h1
  · rw [C8 (k:=kUp) (xs:=us) hl,e]
    simp
theorem C4X{us:List TUp}(ho:Ord us){id:ByteArray}(h:G7 us id=false):B3s us id=us.length:=by
  refine A8z _ us.length _ (Nat.le_refl _) (fun j hj=>?_) (fun h=>by omega)
  rw [C8 (k:=kUp) (xs:=us) hj]
  cases e2:(us[j].1.toList == id.toList) with
  | false=>rfl
  | true=>
    exfalso
    have e3:=eq_of_beq e2
    by_cases hp:j<B4 us id
    · have h1:=B3w hp
      rw [e3,A3f] at h1
      cases h1
    · have h1:=B8K ho h (show B4 us id≤j by omega) hj
      rw [e3,A3f] at h1
      cases h1
theorem C8Z(us:List TUp)(id:ByteArray)(h:us.length≤maxLen):A1Y us id=some ((B4 us id:Int),G7 us id,()):=by
  simp only [A1Y,B89]
  have e:=A1j (A7d us id) (fun i=>((i:Int),())) us.length (fun i=>((i:Int),())) (fun i=>Op.bytesLess (rd kUp us (i:Int)).1.toList id.toList) (fun i hi=>?_) ?_
  · have e':B8 (A7d us id) (0,())=some ((B4 us id:Int),()):=e
    rw [e']
    simp only [A4]
    have hle:=A68 us id
    unfold G7
    by_cases hl:B4 us id<us.length
    · rw [A0 (show (B4 us id:Int)<(us.length:Int) by omega),A0 (show (0:Int)≤(B4 us id:Int) by omega),A0 hl]
      simp
    · rw [A3 (show ¬ (B4 us id:Int)<(us.length:Int) by omega),A3 hl]
      simp
  · have h1:((i:Int)<(us.length:Int)):=by omega
    have h2:(0:Int)≤(i:Int):=by omega
    simp only [A7d,A0 h1,A0 h2,cond_true]
    rw [w64 (by omega) (by simp only [maxLen] at h;omega)]
    cases Op.bytesLess (rd kUp us (i:Int)).1.toList id.toList<;>simp
  · simp [A7d]
theorem B7G(us:List TUp)(h:us.length≤1048576)(hd:∀ u∈us,List.length u.2.2.1≤2000000000):L7 us=some (us,()):=by
  simp only [L7,A3u]
  have key:=D7 (A1x us) (fun i=>((i:Int),us.take i,())) us.length (us,()) (fun i hi=>?_) ?_
  · simpa using key
  · have h1:((i:Int)<(us.length:Int)):=by omega
    have h2:(0:Int)≤(i:Int):=by omega
    have hu:List.length (rd kUp us (i:Int)).2.2.1≤2000000000:=by
      rw [C8 (k:=kUp) (xs:=us) hi]
      exact hd _ (List.getElem_mem hi)
    have e:((rd kUp us (i:Int)).1,(rd kUp us (i:Int)).2.1,[]++(rd kUp us (i:Int)).2.2.1,(rd kUp us (i:Int)).2.2.2)=us[i]:=by
      rw [C8 (k:=kUp) (xs:=us) hi]
      rfl
    simp only [A1x,A0 h1,A0 h2,cond_true,e]
    rw [A0 (by simp;omega),A0 (by simp;omega),A0 (by simp;omega),A0 (by simp;omega),w64 (by omega) (by omega)]
    simp only [cond_true]
    rw [List.take_succ_eq_append_getElem hi]
    rfl
  · simp [A1x]
theorem D4l(us:List TUp)(u:TUp)(ho:Ord us)(h:us.length≤1048576)(hd:∀ u∈us,List.length u.2.2.1≤2000000000) :
    ∃ k,k≤us.length∧N3 us u=some (us.take k++u::us.drop k,())∧(G7 us u.1=false→k=B4 us u.1):=by
  simp only [N3,A02,B7G us h hd,A4]
  rw [A0 (by simp;omega),A0 (by simp;omega)]
  simp only [cond_true]
  have hst:IntKind.i64.wrap (((us ++ [u]).length:Int)-1)=(us.length:Int):=by
    rw [w64 (by simp only [List.length_append,List.length_singleton];omega) (by simp only [List.length_append,List.length_singleton];omega)]
    simp
  rw [hst]
  obtain ⟨z,e,k,hz1,hz2,hz3⟩:=A0C (W9 u) (fun l=>l.1.toNat)
    (fun l=>∃ (k:Nat) (c:TUp),l.1=(k:Int)∧k≤us.length∧l.2.1=us.take k++c::us.drop k∧(G7 us u.1=false→B4 us u.1≤k))
    (fun z=>∃ k:Nat,k≤us.length∧(G7 us u.1=false→k=B4 us u.1)∧∃ c,z=((k:Int),us.take k++c::us.drop k,())) (fun l hl=>by
      obtain ⟨l1,l2,l3⟩:=l
      obtain ⟨k,c,h1,h2,h3,h4⟩:=hl
      simp only at h1 h3
      subst h1;subst h3
      simp only [W9]
      by_cases hk:k=0
      · subst hk
        refine .inr ⟨_,by rw [A3 (by omega)];rfl,0,by omega,fun q=>?_,c,rfl⟩
        have:=h4 q;omega
      · obtain ⟨k,rfl⟩:∃ k',k=k'+1:=⟨k-1,by omega⟩
        have hlen:(us.take (k+1)++c::us.drop (k+1)).length=us.length+1:=by simp;omega
        have ew:IntKind.i64.wrap (((k+1:Nat):Int)-1)=(k:Int):=by rw [w64 (by omega) (by omega)];omega
        have hget:rd (.pair .str (.pair (.int .i64) (.pair (.rs 5 (.int .u8)) .bool))) (us.take (k+1)++c::us.drop (k+1)) (k:Int)=us[k]'(by omega):=by
          rw [C8 (k:=.pair .str (.pair (.int .i64) (.pair (.rs 5 (.int .u8)) .bool))) (xs:=us.take (k+1)++c::us.drop (k+1)) (by rw [hlen];omega)]
          rw [List.getElem_append_left (by simp;omega),List.getElem_take]
        rw [A0 (show ((k+1:Nat):Int)>0 by omega),ew,hlen,A0 (show (0:Int)≤(k:Int) by omega),A0 (show (k:Int)<((us.length+1:Nat):Int) by omega),hget]
        simp only [cond_true]
        have hlen2:(k:Int)+1=((k+1:Nat):Int):=by omega
        cases hc:(!(Op.bytesLess (us[k]'(by omega)).1.toList u.1.toList||((us[k]'(by omega)).1.toList == u.1.toList))) with
        | false=>
          refine Or.inr ⟨(((k+1:Nat):Int),us.take (k+1)++c::us.drop (k+1),()),rfl,k+1,h2,fun q=>?_,c,rfl⟩
          have h5:=h4 q
          by_cases hkp:B4 us u.1≤k
          · have h6:=B8K ho q hkp (by omega)
            simp only [Bool.not_eq_false',Bool.or_eq_true,beq_iff_eq] at hc
            rcases hc with hc | hc
            · rw [E0C h6] at hc;cases hc
            · rw [hc,A3f] at h6;cases h6
          · omega
        | true=>
          refine Or.inl ⟨((k:Int),us.take k++(us[k]'(by omega))::us.drop k,()),?_,⟨k,us[k]'(by omega),rfl,by omega,rfl,fun q=>?_⟩,by simp only;omega⟩
          · simp only [cond_true,B6]
            rw [A0 (show (0:Int)≤((k+1:Nat):Int) by omega),A0 (show ((k+1:Nat):Int)<((us.length+1:Nat):Int) by omega)]
            simp only [cond_true,A4,Int.toNat_natCast]
            have e1:(us.take (k+1)++c::us.drop (k+1)).set (k+1) (us[k]'(by omega))=us.take k++(us[k]'(by omega))::us.drop k:=by
              rw [List.set_append_right _ _ (by simp;omega)]
              rw [show (us.take (k+1)).length=k+1 by simp;omega,Nat.sub_self,List.set_cons_zero,List.take_succ_eq_append_getElem (by omega),List.append_assoc,List.drop_eq_getElem_cons (i:=k) (by omega)]
              rfl
            rw [e1]
          · have h5:=h4 q
            by_cases hkp:k<B4 us u.1
            · have h6:=B3w hkp
              rw [h6] at hc
              simp at hc
            · omega) ((us.length:Int),us ++ [u],()) ⟨us.length,u,rfl,Nat.le_refl _,by simp,fun _=>A68 us u.1⟩
  obtain ⟨c,rfl⟩:=hz3
  rw [e]
  simp only
  have hlen:(us.take k++c::us.drop k).length=us.length+1:=by simp;omega
  rw [A0 (by omega),A0 (by rw [hlen];omega)]
  simp only [cond_true,Int.toNat_natCast]
  refine ⟨k,hz1,?_,hz2⟩
  rw [List.set_append_right _ _ (by simp;omega),show (us.take k).length=k by simp;omega,Nat.sub_self,List.set_cons_zero]
def B3x(r:G8):Prop:=P4 r=true∧Byt r.2.2.2.2.2
def UpG(u:TUp):Prop:=(List.length u.2.2.1:Int)≤u.2.1∧u.2.1≤1000000000∧u.1.size≤8∧Byt u.2.2.1
def Ups(us:List TUp):Prop:=Ord us∧us.length≤10∧∀ u∈us,UpG u
theorem C3V:Ups []:=⟨List.Pairwise.nil,by simp,fun u hu=>by cases hu⟩
theorem A90{us:List TUp}(h:Ups us):∀ u∈us,List.length u.2.2.1≤2000000000:=fun u hu=>by have h1:=(h.2.2 u hu).1;have h2:=(h.2.2 u hu).2.1;omega
def K1(us:List TUp)(r:G8):Option (List TUp):=
  let p:=B4 us r.2.2.2.1
  let u:=rd kUp us (p:Int)
  if r.2.2.1=1 then (if G7 us r.2.2.2.1=true∨10≤us.length then none else some (us.take p++(r.2.2.2.1,r.2.2.2.2.1,[],false)::us.drop p))
  else if G7 us r.2.2.2.1=false then none
  else if r.2.2.1=2 then (if u.2.2.2=true∨r.2.2.2.2.1≠(List.length u.2.2.1:Int)∨(List.length u.2.2.1:Int)+(List.length r.2.2.2.2.2:Int)>u.2.1 then none else some (us.set p (u.1,u.2.1,u.2.2.1++r.2.2.2.2.2,u.2.2.2)))
  else if r.2.2.1=3 then (if u.2.2.2=true∨(List.length u.2.2.1:Int)≠u.2.1 then none else some (us.set p (u.1,u.2.1,u.2.2.1,true)))
  else if r.2.2.1=4 then some (us.take p++us.drop (p+1))
  else none
def B2O(us:List TUp)(r:G8):List TUp×Bool×Unit:=match K1 us r with
  | some us'=>(us',true,())
  | none=>([],false,())
theorem C8a(us:List TUp)(r:G8)(h:Ups us)(h2:List.length r.2.2.2.2.2≤1048576):A60 us r=some (B2O us r):=by
  have hl:=h.2.1
  have hp:=A68 us r.2.2.2.1
  simp only [A60,C4H,C8Z us _ (show us.length≤maxLen by simp only [maxLen];omega),A4,B2O,K1]
  by_cases k1:r.2.2.1=1
  · rw [A0 k1,if_pos k1]
    simp only [cond_true]
    cases hh:G7 us r.2.2.2.1 with
    | true=>simp [B6]
    | false=>
      by_cases h10:10≤us.length
      · rw [A0 (show (us.length:Int)≥10 by omega),if_pos (.inr h10)]
        rfl
      · rw [A3 (show ¬ (us.length:Int)≥10 by omega),if_neg (by simp;omega)]
        simp only [cond_false,B6,J8,D6k]
        rw [A0 (by omega),A0 (by omega),A0 (by simp),A0 (by simp;omega)]
        simp [A4]
  rw [A3 k1,if_neg k1]
  simp only [cond_false]
  cases hh:G7 us r.2.2.2.1 with
  | false=>simp
  | true=>
    obtain ⟨hlt,hid⟩:=I4.1 hh
    have hu:(List.length us[B4 us r.2.2.2.1].2.2.1:Int)≤us[B4 us r.2.2.2.1].2.1∧us[B4 us r.2.2.2.1].2.1≤1000000000:=⟨(h.2.2 _ (List.getElem_mem hlt)).1,(h.2.2 _ (List.getElem_mem hlt)).2.1⟩
    have hrd:rd kUp us (B4 us r.2.2.2.1:Int)=us[B4 us r.2.2.2.1]:=C8 (k:=kUp) (xs:=us) hlt
    simp only [Bool.not_true,cond_false,Bool.true_eq_false,if_false]
    rw [A0 (by omega),A0 (by omega)]
    simp only [cond_true,Int.toNat_natCast,hrd]
    generalize us[B4 us r.2.2.2.1]=u at hu hid ⊢
    by_cases k2:r.2.2.1=2
    · rw [A0 k2,if_pos k2]
      simp only [cond_true]
      cases hd:u.2.2.2 with
      | true=>simp [B6]
      | false=>
        by_cases hn:r.2.2.2.2.1=(List.length u.2.2.1:Int)
        · rw [A0 hn,w64 (by omega) (by omega)]
          by_cases hw:(List.length u.2.2.1:Int)+(List.length r.2.2.2.2.2:Int)>u.2.1
          · rw [A0 hw,if_pos (.inr (.inr hw))]
            rfl
          · rw [A3 hw,if_neg (by simp [hn];omega)]
            simp only [Bool.not_true,cond_false,B6]
            rw [A0 (by omega),A0 (by omega)]
            rfl
        · rw [A3 hn,if_pos (.inr (.inl hn))]
          rfl
    rw [A3 k2,if_neg k2]
    by_cases k3:r.2.2.1=3
    · rw [A0 k3,if_pos k3]
      simp only [cond_true,cond_false]
      cases hd:u.2.2.2 with
      | true=>simp
      | false=>
        by_cases hn:(List.length u.2.2.1:Int)=u.2.1
        · rw [A0 hn,if_neg (by simp [hn])]
          rfl
        · rw [A3 hn,if_pos (.inr hn)]
          rfl
    rw [A3 k3,if_neg k3]
    by_cases k4:r.2.2.1=4
    · rw [A0 k4,if_pos k4,w64 (n:=(B4 us r.2.2.2.1:Int)+1) (by omega) (by omega)]
      simp only [cond_true,cond_false,K0,B2L]
      rw [A0 (by omega),A0 (by omega),A0 (by omega)]
      simp only [cond_true,Int.toNat_natCast]
      rw [show ((B4 us r.2.2.2.1:Int)+1).toNat=B4 us r.2.2.2.1+1 by omega]
    rw [A3 k4,if_neg k4]
    rfl
theorem D1j(us:List TUp)(r:G8)(h:Ups us)(h2:List.length r.2.2.2.2.2≤1048576):∃ x,N4 us r=some (x,(B2O us r).2.1,())∧((B2O us r).2.1=true→x=(B2O us r).1):=by
  have hl:=h.2.1
  have hp:=A68 us r.2.2.2.1
  have hat:=C4S us r.2.2.2.1 (show us.length≤maxLen by simp only [maxLen];omega)
  have hcp:=B7G us (by omega) (A90 h)
  obtain ⟨k,hk,hmk,hmk2⟩:=D4l us (r.2.2.2.1,r.2.2.2.2.1,[],false) h.1 (by omega) (A90 h)
  simp only [N4,A53,hat,hcp,hmk,A4,B2O,K1]
  by_cases k1:r.2.2.1=1
  · rw [A0 k1,if_pos k1]
    simp only [cond_true]
    cases hh:G7 us r.2.2.2.1 with
    | true=>
      obtain ⟨hlt,hid⟩:=I4.1 hh
      rw [C4W h.1 hh,if_pos hlt,A3 (by omega)]
      simp
    | false=>
      have hk2:=hmk2 hh
      simp only at hk2
      rw [C4X h.1 hh,if_neg (Nat.lt_irrefl _),A0 (by omega)]
      simp only [cond_true]
      by_cases h10:10≤us.length
      · rw [A3 (by omega),if_pos (.inr h10)]
        simp
      · rw [A0 (by omega),if_neg (by simp;omega),hk2]
        simp
  rw [A3 k1,if_neg k1]
  simp only [cond_false]
  cases hh:G7 us r.2.2.2.1 with
  | false=>
    rw [C4X h.1 hh,if_neg (Nat.lt_irrefl _),A0 (by omega)]
    simp
  | true=>
    obtain ⟨hlt,hid⟩:=I4.1 hh
    have hu:(List.length us[B4 us r.2.2.2.1].2.2.1:Int)≤us[B4 us r.2.2.2.1].2.1∧us[B4 us r.2.2.2.1].2.1≤1000000000:=⟨(h.2.2 _ (List.getElem_mem hlt)).1,(h.2.2 _ (List.getElem_mem hlt)).2.1⟩
    have hrd:rd kUp us (B4 us r.2.2.2.1:Int)=us[B4 us r.2.2.2.1]:=C8 (k:=kUp) (xs:=us) hlt
    rw [C4W h.1 hh,if_pos hlt,A3 (by omega)]
    simp only [cond_false,Bool.true_eq_false,if_false]
    rw [A0 (by omega),A0 (by omega)]
    simp only [cond_true,Int.toNat_natCast,hrd]
    generalize us[B4 us r.2.2.2.1]=u at hu hid ⊢
    by_cases k2:r.2.2.1=2
    · rw [A0 k2,if_pos k2]
      simp only [cond_true]
      cases hd:u.2.2.2 with
      | true=>simp [B6]
      | false=>
        by_cases hn:r.2.2.2.2.1=(List.length u.2.2.1:Int)
        · rw [A0 hn,hn,w64 (by omega) (by omega)]
          by_cases hw:(List.length u.2.2.1:Int)+(List.length r.2.2.2.2.2:Int)>u.2.1
          · rw [A0 hw,if_pos (.inr (.inr hw))]
            exact ⟨_,rfl,fun e=>by cases e⟩
          · rw [A3 hw,if_neg (by simp;omega)]
            simp only [Bool.not_true,cond_false,B6]
            rw [A0 (by omega),A0 (by omega)]
            exact ⟨_,rfl,fun _=>rfl⟩
        · rw [A3 hn,if_pos (.inr (.inl hn))]
          exact ⟨_,rfl,fun e=>by cases e⟩
    rw [A3 k2,if_neg k2]
    by_cases k3:r.2.2.1=3
    · rw [A0 k3,if_pos k3]
      simp only [cond_true,cond_false]
      cases hd:u.2.2.2 with
      | true=>simp
      | false=>
        by_cases hn:(List.length u.2.2.1:Int)=u.2.1
        · rw [A0 hn,if_neg (by simp [hn])]
          exact ⟨_,rfl,fun _=>rfl⟩
        · rw [A3 hn,if_pos (.inr hn)]
          exact ⟨_,rfl,fun e=>by cases e⟩
    rw [A3 k3,if_neg k3]
    by_cases k4:r.2.2.1=4
    · rw [A0 k4,if_pos k4,w64 (n:=(B4 us r.2.2.2.1:Int)+1) (by omega) (by omega)]
      simp only [cond_true,cond_false]
      rw [A0 (by omega),A0 (by omega),A0 (by omega),A0 (by omega)]
      simp only [cond_true]
      rw [show ((B4 us r.2.2.2.1:Int)+1).toNat=B4 us r.2.2.2.1+1 by omega,A0 (by omega)]
      simp only [cond_true,List.take_length]
      exact ⟨_,rfl,fun _=>rfl⟩
    rw [A3 k4,if_neg k4]
    exact ⟨_,rfl,fun e=>by cases e⟩
theorem D6o{us:List TUp}(h:Ord us)(p:Nat)(hp:p<us.length)(u:TUp)(hu:u.1=us[p].1):Ord (us.set p u):=by
  refine List.pairwise_iff_getElem.2 fun i j hi hj hij=>?_
  simp only [List.length_set] at hi hj
  have hk:∀ q (hq:q<us.length),((us.set p u)[q]'(by simpa using hq)).1=us[q].1:=fun q hq=>by
    rw [List.getElem_set]
    split
    · rename_i e;subst e;exact hu
    · rfl
  rw [hk i hi,hk j hj]
  exact C9p h hij hj
theorem B3y{us us':List TUp}{r:G8}(h:Ups us)(hr':B3x r)(e:K1 us r=some us'):Ups us':=by
  have hr:=hr'.1
  have hp:=A68 us r.2.2.2.1
  have hb:=A0F hr
  simp only [K1] at e
  split at e
  · split at e
    · cases e
    rename_i hc
    injection e with e
    subst e
    have hnh:G7 us r.2.2.2.1=false:=by cases q:G7 us r.2.2.2.1;rfl;exact absurd (.inl q) hc
    refine ⟨?_,by simp;omega,fun u hu=>?_⟩
    · show List.Pairwise _ _
      rw [List.pairwise_append]
      refine ⟨h.1.sublist (List.take_sublist _ _),List.pairwise_cons.2 ⟨fun b hb=>?_,h.1.sublist (List.drop_sublist _ _)⟩,fun a ha b hb=>?_⟩
      · obtain ⟨j,hj,rfl⟩:=List.getElem_of_mem hb
        rw [List.getElem_drop]
        exact B8K h.1 hnh (by omega) _
      · obtain ⟨j,hj,rfl⟩:=List.getElem_of_mem ha
        rw [List.length_take] at hj
        rw [List.getElem_take]
        have h1:=B3w (us:=us) (id:=r.2.2.2.1) (j:=j) (by omega)
        rcases List.mem_cons.1 hb with rfl | hb
        · exact h1
        · obtain ⟨q,hq,rfl⟩:=List.getElem_of_mem hb
          rw [List.getElem_drop]
          rw [List.length_drop] at hq
          exact B8I h1 (B8K h.1 hnh (by omega) (by omega))
    · rcases List.mem_append.1 hu with hu | hu
      · exact h.2.2 u (List.mem_of_mem_take hu)
      · rcases List.mem_cons.1 hu with rfl | hu
        · exact ⟨by simp only [List.length_nil];omega,by simp only;omega,hb.2.2.2.2.1,A01⟩
        · exact h.2.2 u (List.mem_of_mem_drop hu)
  split at e
  · cases e
  rename_i _ hh
  have hh:G7 us r.2.2.2.1=true:=by cases q:G7 us r.2.2.2.1;exact absurd q hh;rfl
  obtain ⟨hlt,hid⟩:=I4.1 hh
  have hrd:rd kUp us (B4 us r.2.2.2.1:Int)=us[B4 us r.2.2.2.1]:=C8 (k:=kUp) (xs:=us) hlt
  have hu0:=h.2.2 _ (List.getElem_mem hlt)
  simp only [hrd] at e
  split at e
  · split at e
    · cases e
    rename_i hc
    injection e with e
    subst e
    refine ⟨D6o h.1 _ hlt _ rfl,by simp;exact h.2.1,fun u hu=>?_⟩
    rcases List.mem_or_eq_of_mem_set hu with hu | rfl
    · exact h.2.2 u hu
    · refine ⟨?_,hu0.2.1,hu0.2.2.1,C9n hu0.2.2.2 hr'.2⟩
      simp only [List.length_append]
      have:¬ ((List.length us[B4 us r.2.2.2.1].2.2.1:Int)+(List.length r.2.2.2.2.2:Int)>us[B4 us r.2.2.2.1].2.1):=fun q=>hc (.inr (.inr q))
      omega
  split at e
  · split at e
    · cases e
    injection e with e
    subst e
    refine ⟨D6o h.1 _ hlt _ rfl,by simp;exact h.2.1,fun u hu=>?_⟩
    rcases List.mem_or_eq_of_mem_set hu with hu | rfl
    · exact h.2.2 u hu
    · exact hu0
  split at e
  · injection e with e
    subst e
    refine ⟨?_,by have:=h.2.1;simp only [List.length_append,List.length_take,List.length_drop];omega,fun u hu=>?_⟩
    · show List.Pairwise _ _
      rw [List.pairwise_append]
      refine ⟨h.1.sublist (List.take_sublist _ _),h.1.sublist (List.drop_sublist _ _),fun a ha b hb=>?_⟩
      obtain ⟨j,hj,rfl⟩:=List.getElem_of_mem ha
      obtain ⟨q,hq,rfl⟩:=List.getElem_of_mem hb
      rw [List.length_take] at hj
      rw [List.length_drop] at hq
      rw [List.getElem_take,List.getElem_drop]
      exact C9p h.1 (by omega) (by omega)
    · rcases List.mem_append.1 hu with hu | hu
      · exact h.2.2 u (List.mem_of_mem_take hu)
      · exact h.2.2 u (List.mem_of_mem_drop hu)
  · cases e
def I1:List TUp→List G8→Option (List TUp)
  | us,[]=>some us
  | us,r::l=>match K1 us r with
    | some us'=>I1 us' l
    | none=>none
def A2b(l:List G8):List TUp×Bool×Unit:=match I1 [] l with
  | some us=>(us,true,())
  | none=>([],false,())
theorem A91:∀ {l:List G8} {us us':List TUp},Ups us→(∀ r∈l,B3x r)→I1 us l=some us'→Ups us'
  | [],us,us',h,_,e=>by simp only [I1,Option.some.injEq] at e;subst e;exact h
  | r::l,us,us',h,hr,e=>by
    simp only [I1] at e
    split at e
    · rename_i us1 e1
      exact A91 (B3y h (hr r (by simp)) e1) (fun x hx=>hr x (by simp [hx])) e
    · cases e
theorem C8b{α:Type}(f:α→Option (α⊕((List TUp×Unit)⊕(List TUp×Bool×Unit))))(s:Nat→List TUp→α)(l:List G8)(hr:∀ r∈l,B3x r)
    (hs:∀ (i:Nat) (hi:i<l.length) (us:List TUp),Ups us→f (s i us)=match K1 us l[i] with
      | some us'=>some (.inl (s (i+1) us'))
      | none=>some (.inr (.inr ([],false,()))))
    (he:∀ us,f (s l.length us)=some (.inr (.inl (us,())))):B6 (B8 f (s 0 [])) (fun m=>some (m.1,true,()))=some (A2b l):=by
  have key:∀ k i us,i+k=l.length→Ups us→B6 (B8 f (s i us)) (fun m=>some (m.1,true,()))=some (match I1 us (l.drop i) with
      | some us'=>(us',true,())
      | none=>([],false,())):=by
    intro k
    induction k with
    | zero=>
      intro i us hi hu
      obtain rfl:i=l.length:=by omega
      rw [V0,he]
      simp [I1,B6]
    | succ k ih=>
      intro i us hi hu
      have hlt:i<l.length:=by omega
      rw [V0,hs i hlt us hu,List.drop_eq_getElem_cons hlt]
      simp only [I1]
      cases e:K1 us l[i] with
      | none=>rfl
      | some us'=>exact ih (i+1) us' (by omega) (B3y hu (hr _ (List.getElem_mem hlt)) e)
  exact key l.length 0 [] (by omega) C3V
theorem C77(l:List G8)(hl:l.length≤maxLen)(hr:∀ r∈l,B3x r):A0W l=some (A2b l):=by
  simp only [A0W,B1e]
  refine C8b (A4F A60 l) (fun i us=>((i:Int),us,())) l hr (fun i hi us hu=>?_) (fun us=>by simp [A4F])
  have h1:((i:Int)<(l.length:Int)):=by omega
  have h2:(0:Int)≤(i:Int):=by omega
  have hb:=A0F (hr _ (List.getElem_mem hi)).1
  simp only [A4F,A0 h1,A0 h2,cond_true]
  rw [C8 (k:=A6l) (xs:=l) hi,C8a us _ hu (by omega),w64 (by omega) (by simp only [maxLen] at hl;omega)]
  simp only [A4,B2O]
  cases K1 us l[i]<;>rfl
theorem A9k(l:List G8)(hl:l.length≤maxLen)(hr:∀ r∈l,B3x r):M7 l=some (A2b l):=by
  simp only [M7,A3K]
  refine C8b (X5 N4 l) (fun i us=>(us,(i:Int),())) l hr (fun i hi us hu=>?_) (fun us=>by simp [X5])
  have h1:((i:Int)<(l.length:Int)):=by omega
  have h2:(0:Int)≤(i:Int):=by omega
  have hb:=A0F (hr _ (List.getElem_mem hi)).1
  obtain ⟨x,hx,hx2⟩:=D1j us l[i] hu (by omega)
  simp only [X5,A0 h1,A0 h2,cond_true]
  rw [C8 (k:=A6l) (xs:=l) hi,hx,w64 (by omega) (by simp only [maxLen] at hl;omega)]
  simp only [A4,B2O] at hx2 ⊢
  cases e:K1 us l[i] with
  | none=>rfl
  | some us'=>
    rw [e] at hx2
    rw [hx2 rfl]
    rfl
def B3z(l:List ByteArray):Prop:=l.length≤1048576∧∀ s∈l,s.size≤1048576
theorem A92{l:List ByteArray}(h:B3z l){i:Nat}(hi:i<l.length):(rd .str l (i:Int)).size≤1048576:=by
  rw [A5K hi]
  exact h.2 _ (List.getElem_mem hi)
theorem C1M{s:ByteArray}(h:(D3 s).2.1=true):B3x (D3 s).1:=by
  unfold D3 at h ⊢
  split at h
  · rename_i hg
    rw [if_pos hg]
    simp only [A8y,Bool.and_eq_true] at hg
    exact ⟨hg.1.2,C08 (A8x s)⟩
  · cases h
theorem D7w(d:F5)(h:B3z d.1)(l:Int×Int×List G8×Unit)(h0:0≤l.2.1):A4E A0U d l=R7 K4 d l:=by
  simp only [A4E,R7]
  by_cases hi:l.2.1<(d.1.length:Int)
  · obtain ⟨i,hn⟩:∃ i:Nat,l.2.1=(i:Int):=⟨l.2.1.toNat,by omega⟩
    rw [hn] at hi ⊢
    rw [A66 _ (A92 h (by omega)),B3v _ (A92 h (by omega))]
  · rw [A3 hi]
    rfl
theorem E1q(d:F5)(h:B3z d.1):∃ l,X4 d=some (l,())∧A0V d=some (l,())∧l.length≤d.1.length∧∀ r∈l,B3x r:=by
  have hl:=h.1
  obtain ⟨z,e,hz1,hz2⟩:=A0C (R7 K4 d) (fun l=>((d.1.length:Int)-l.2.1).toNat) (fun l=>0≤l.2.1∧(List.length l.2.2.1:Int)=l.2.1∧l.2.1≤(d.1.length:Int)∧∀ r∈l.2.2.1,B3x r)
    (fun z=>List.length z.1≤d.1.length∧∀ r∈z.1,B3x r) (fun l hl=>by
      obtain ⟨h0,h1,h2,h3⟩:=hl
      simp only [R7]
      by_cases hi:l.2.1<(d.1.length:Int)
      · obtain ⟨i,hn⟩:∃ i:Nat,l.2.1=(i:Int):=⟨l.2.1.toNat,by omega⟩
        rw [A0 hi,A0 h0]
        simp only [cond_true]
        rw [hn] at hi h0 h1 h2 ⊢
        rw [A66 _ (A92 h (by omega))]
        simp only [A4]
        have hg:=@C1M (rd .str d.1 (i:Int))
        generalize D3 (rd .str d.1 (i:Int))=g at hg ⊢
        have fin:List.length l.2.2.1≤d.1.length∧∀ r∈l.2.2.1,B3x r:=⟨by omega,h3⟩
        cases hk:g.2.1 with
        | false=>exact .inr ⟨_,rfl,fin⟩
        | true=>
          simp only [Bool.not_true,cond_false]
          by_cases e1:g.1.2.1=(i:Int)
          · rw [A0 e1]
            by_cases e2:g.1.1<l.1
            · rw [A0 e2];exact .inr ⟨_,rfl,fin⟩
            · rw [A3 e2]
              simp only [Bool.not_true,cond_false]
              rw [A0 (by simp;omega),A0 (by simp;omega),w64 (by omega) (by omega)]
              refine .inl ⟨_,rfl,⟨by simp only;omega,by simp;omega,by simp only;omega,fun r hr=>?_⟩,by simp only;omega⟩
              rcases List.mem_append.1 hr with hr | hr
              · exact h3 r hr
              · rw [List.mem_singleton.1 hr];exact hg hk
          · rw [A3 e1];exact .inr ⟨_,rfl,fin⟩
      · rw [A3 hi]
        exact .inr ⟨_,rfl,by simp only;omega,h3⟩) (0,0,[],()) ⟨by simp,by simp,by simp,fun r hr=>by cases hr⟩
  refine ⟨z.1,e,?_,hz1,hz2⟩
  simp only [A0V,B1d]
  rw [A8t (g:=R7 K4 d) (fun l=>0≤l.2.1) (fun l h0=>D7w d h l h0) (fun l y h0 e=>?_) (by simp)]
  · exact e
  · simp only [A4E] at e
    by_cases hi:l.2.1<(d.1.length:Int)
    · obtain ⟨i,hn⟩:∃ i:Nat,l.2.1=(i:Int):=⟨l.2.1.toNat,by omega⟩
      rw [A0 hi,A0 h0] at e
      simp only [cond_true] at e
      rw [hn] at hi h0 e
      rw [B3v _ (A92 h (by omega))] at e
      simp only [A4] at e
      rw [w64 (n:=(i:Int)+1) (by omega) (by omega)] at e
      generalize D3 (rd .str d.1 (i:Int))=g at e
      cases hk:g.2.1<;>simp only [hk,Bool.not_true,Bool.not_false,cond_true,cond_false] at e
      · cases e
      · revert e
        cases decide (g.1.2.1=(i:Int))<;>cases decide (g.1.1<l.1)<;>simp only [Bool.not_true,Bool.not_false,cond_true,cond_false]
        · intro e;cases e
        · intro e;cases e
        · cases decide (List.length l.2.2.1+List.length [g.1]≤9223372036854775807)<;>cases decide ((List.length l.2.2.1+List.length [g.1])*72≤140737488355328)<;>intro e
          · cases e
          · cases e
          · cases e
          · simp only [cond_true] at e
            injection e with e;injection e with e;subst e
            simp only;omega
        · intro e;cases e
    · rw [A3 hi] at e
      cases e
theorem D7x:A1W=T0:=rfl
theorem D1k(d:F5)(h:d.1.length≤1048576):∃ b,T0 d=some (b,())∧(b=true→d.1.length=d.2.length∧d.1.length≤200):=by
  simp only [T0,B1I]
  by_cases h1:(d.1.length:Int)=(d.2.length:Int)
  · rw [A0 h1]
    by_cases h2:(d.1.length:Int)>200
    · rw [A0 h2]
      exact ⟨_,rfl,fun e=>by cases e⟩
    · rw [A3 h2]
      simp only [Bool.not_true,cond_false,B6]
      refine ⟨_,B2N (A0R d) d.1.length (by simp only [maxLen];omega) (fun i=>!decide (((rd .str d.1 (i:Int)).size:Int)>64)&&!decide (((rd .str d.2 (i:Int)).size:Int)>64)) (fun i hi=>?_) (by simp [A0R]),fun _=>by omega⟩
      have g1:((i:Int)<(d.1.length:Int)):=by omega
      have g2:(0:Int)≤(i:Int):=by omega
      have g3:((i:Int)<(d.2.length:Int)):=by omega
      simp only [A0R,A0 g1,A0 g2,A0 g3,cond_true]
      cases decide (((rd .str d.1 (i:Int)).size:Int)>64)<;>cases decide (((rd .str d.2 (i:Int)).size:Int)>64)<;>rfl
  · rw [A3 h1]
    exact ⟨_,rfl,fun e=>by cases e⟩
def A5n(a b:TUp):Bool:=(a.1.toList == b.1.toList)&&decide (a.2.1=b.2.1)&&(a.2.2.2 == b.2.2.2)&&((strOf a.2.2.1).toList == (strOf b.2.2.1).toList)
def A0m(a b:List TUp):Bool:=decide (a.length=b.length)&&(List.range a.length).all fun i=>A5n (rd kUp a (i:Int)) (rd kUp b (i:Int))
theorem D1l(a b:TUp):A7g a b=some (A5n a b,()):=by
  simp only [A7g,B7B,L9,A2S,A4,A5n]
  cases (a.1.toList == b.1.toList)<;>cases decide (a.2.1=b.2.1)<;>cases (a.2.2.2 == b.2.2.2)<;>rfl
theorem D7y(a b:List TUp)(h:a.length≤maxLen):C1 a b ()=some (A0m a b,()):=by
  simp only [C1,E6,A0m]
  by_cases hl:a.length=b.length
  · rw [A0 (show (a.length:Int)=(b.length:Int) by omega),A0 hl]
    simp only [Bool.not_true,cond_false,Bool.true_and]
    refine B2N _ a.length h (fun i=>A5n (rd kUp a (i:Int)) (rd kUp b (i:Int))) (fun i hi=>?_) (by simp [E3])
    have g1:((i:Int)<(a.length:Int)):=by omega
    have g2:(0:Int)≤(i:Int):=by omega
    have g3:((i:Int)<(b.length:Int)):=by omega
    simp only [E3,A0 g1,A0 g2,A0 g3,cond_true,D1l,A4]
    cases A5n (rd kUp a (i:Int)) (rd kUp b (i:Int))<;>rfl
  · rw [A3 (show ¬ (a.length:Int)=(b.length:Int) by omega),A3 hl]
    rfl
theorem C8c(a b:List TUp)(h:a.length≤maxLen):A1L a b=some (A0m a b,()):=by
  simp only [A1L,A7T,A0m]
  by_cases hl:a.length=b.length
  · rw [A0 (show (a.length:Int)=(b.length:Int) by omega),A0 hl]
    simp only [Bool.not_true,cond_false,Bool.true_and]
    refine B2N _ a.length h (fun i=>A5n (rd kUp a (i:Int)) (rd kUp b (i:Int))) (fun i hi=>?_) (by simp [A54])
    have g1:((i:Int)<(a.length:Int)):=by omega
    have g2:(0:Int)≤(i:Int):=by omega
    have g3:((i:Int)<(b.length:Int)):=by omega
    simp only [A54,A0 g1,A0 g2,A0 g3,cond_true,A5n]
    cases ((rd kUp a (i:Int)).1.toList == (rd kUp b (i:Int)).1.toList)<;>cases decide ((rd kUp a (i:Int)).2.1=(rd kUp b (i:Int)).2.1)<;>cases ((rd kUp a (i:Int)).2.2.2 == (rd kUp b (i:Int)).2.2.2)<;>cases ((strOf (rd kUp a (i:Int)).2.2.1).toList == (strOf (rd kUp b (i:Int)).2.2.1).toList)<;>rfl
  · rw [A3 (show ¬ (a.length:Int)=(b.length:Int) by omega),A3 hl]
    rfl
def A2c(e:Int)(s:ByteArray):Bool:=(D3 s).2.1&&decide ((D3 s).1.1≥e)
def A3g(t:Int)(s:ByteArray):Int:=bif (D3 s).2.1 then (bif decide ((D3 s).1.1>t) then (D3 s).1.1 else t) else t
def A5N(l:List ByteArray):Int:=l.foldl A3g (-1)
theorem B5F(e:Int):∀ (l:List ByteArray) (t:Int),decide (l.foldl A3g t<e)=(decide (t<e)&&l.all fun s=>!A2c e s)
  | [],t=>(Bool.and_true _).symm
  | s::l,t=>by
    rw [List.foldl_cons,B5F e l,List.all_cons]
    unfold A3g A2c
    cases (D3 s).2.1 with
    | false=>simp
    | true=>
      simp only [cond_true,Bool.true_and]
      by_cases h1:(D3 s).1.1>t
      · rw [A0 h1]
        by_cases h2:(D3 s).1.1≥e
        · rw [A0 h2]
          simp only [cond_true]
          rw [A3 (show ¬ (D3 s).1.1<e by omega)]
          simp
        · rw [A3 h2]
          simp only [cond_true]
          rw [A0 (show (D3 s).1.1<e by omega),A0 (show t<e by omega)]
          simp
      · rw [A3 h1]
        simp only [cond_false]
        by_cases h3:t<e
        · rw [A0 h3,A3 (show ¬ (D3 s).1.1≥e by omega)]
          simp
        · rw [A3 h3]
          simp
theorem C9q(l:List ByteArray)(h:B3z l):A1Z l=some (A5N l,()):=by
  have hl:=h.1
  simp only [A1Z,B3f]
  have key:=D7 (A5e A0U l) (fun i=>((l.take i).foldl A3g (-1),(i:Int),())) l.length (A5N l,()) (fun i hi=>?_) ?_
  · simpa using key
  · have g1:((i:Int)<(l.length:Int)):=by omega
    have g2:(0:Int)≤(i:Int):=by omega
    simp only [A5e,A0 g1,A0 g2,cond_true]
    rw [B3v _ (A92 h hi),w64 (by omega) (by omega)]
    simp only [A4]
    have e:(l.take (i+1)).foldl A3g (-1)=A3g ((l.take i).foldl A3g (-1)) (rd .str l (i:Int)):=by
      rw [List.take_succ_eq_append_getElem hi,List.foldl_append,A5K hi]
      rfl
    rw [e]
    unfold A3g
    cases (D3 (rd .str l (i:Int))).2.1<;>rfl
  · simp [A5e,A5N]
theorem C4Y(go:Nat→Bool)(n:Nat):decide (N7 go 0 n=n)=(List.range n).all go:=by
  rw [Bool.eq_iff_iff]
  simp only [decide_eq_true_eq,List.all_eq_true,List.mem_range]
  constructor
  · intro h j hj
    exact A67 go n 0 j (by omega) (by omega)
  · intro h
    exact A8z go n n (Nat.le_refl _) h (fun h=>by omega)
theorem C8d(st:A7)(h:B3z st.1.1)(n:Nat)(hn:n≤st.1.1.length):B8 (A0u K4 st) ((n:Int),())=some ((st.1.1.drop n).all fun s=>!A2c st.2.1 s,()):=by
  have hl:=h.1
  have key:=A1j (A0u K4 st) (fun j=>(((n+j:Nat):Int),())) (st.1.1.length-n) (fun j=>(decide (j=st.1.1.length-n),())) (fun j=>!A2c st.2.1 (rd .str st.1.1 ((n+j:Nat):Int))) (fun j hj=>?_) ?_
  · have e:B8 (A0u K4 st) ((n:Int),())=_:=key
    rw [e,C4Y]
    congr 2
    rw [Bool.eq_iff_iff]
    simp only [List.all_eq_true,List.mem_range]
    constructor
    · intro h2 s hs
      obtain ⟨j,hj,rfl⟩:=List.getElem_of_mem hs
      rw [List.length_drop] at hj
      have:=h2 j hj
      rw [A5K (by omega)] at this
      rw [List.getElem_drop]
      exact this
    · intro h2 j hj
      rw [A5K (by omega)]
      refine h2 _ ?_
      rw [List.mem_iff_getElem]
      exact ⟨j,by rw [List.length_drop];omega,by rw [List.getElem_drop]⟩
  · have g1:(((n+j:Nat):Int)<(st.1.1.length:Int)):=by omega
    have g2:(0:Int)≤((n+j:Nat):Int):=by omega
    simp only [A0u,A0 g1,A0 g2,cond_true]
    rw [A66 _ (A92 h (by omega)),w64 (by omega) (by omega)]
    simp only [A4,A2c]
    rw [A3 (show ¬ j=st.1.1.length-n by omega)]
    have e2:n+(j+1)=(n+j)+1:=by omega
    simp only [e2,Int.natCast_succ]
    cases (D3 (rd .str st.1.1 ((n+j:Nat):Int))).2.1<;>cases decide ((D3 (rd .str st.1.1 ((n+j:Nat):Int))).1.1≥st.2.1)<;>rfl
  · have g1:¬ (((n+(st.1.1.length-n):Nat):Int)<(st.1.1.length:Int)):=by omega
    simp only [A0u,A3 g1,cond_false]
    simp
def C4Z(st:A7):Prop:=0≤st.2.1∧st.2.1≤10000∧st.1.1.length=st.1.2.length∧st.1.1.length≤200∧(0≤st.2.2.1∧st.2.2.1≤(st.1.1.length:Int))∧∃ us,Ups us∧A0m us st.2.2.2=true
theorem C4a(st:A7)(h:B3z st.1.1):∃ b,F4 st=some (b,())∧A1a st=some (b,())∧(b=true→C4Z st):=by
  have hl:=h.1
  obtain ⟨bd,hd,hdt⟩:=D1k st.1 hl
  obtain ⟨l,hs,hi,hll,hrg⟩:=E1q st.1 h
  have hfs:=A9k l (by simp only [maxLen];omega) hrg
  have hfi:=C77 l (by simp only [maxLen];omega) hrg
  have hups:(A2b l).2.1=true→Ups (A2b l).1:=by
    intro e
    unfold A2b at e ⊢
    split
    · rename_i us' e1
      exact A91 C3V hrg e1
    · rename_i e1
      rw [e1] at e;cases e
  simp only [F4,A8a,A1a,B3g,D7x,hd,hs,hi,hfs,hfi,A1U,A8l,N6,L2,A4]
  cases bd with
  | false=>
    by_cases he:0≤st.2.1∧st.2.1≤10000
    · rw [A0 he]
      exact ⟨_,rfl,rfl,fun e=>by cases e⟩
    · rw [A3 he]
      exact ⟨_,rfl,rfl,fun e=>by cases e⟩
  | true=>
    cases he':decide (0≤st.2.1∧st.2.1≤10000) with
    | false=>exact ⟨_,rfl,rfl,fun e=>by cases e⟩
    | true=>
      have he:=of_decide_eq_true he'
      have hd2:=hdt rfl
      simp only [Bool.not_true,cond_false,B6]
      generalize hf:A2b l=fr at hups
      cases hk:fr.2.1 with
      | false=>exact ⟨_,rfl,rfl,fun e=>by cases e⟩
      | true=>
        have hu:=hups hk
        have hul:=hu.2.1
        rw [C8c _ _ (show fr.1.length≤maxLen by simp only [maxLen];omega),D7y _ _ (show fr.1.length≤maxLen by simp only [maxLen];omega)]
        simp only [Bool.not_true,cond_false]
        cases hn':decide (st.2.2.1=(List.length l:Int)) with
        | false=>
          cases A0m fr.1 st.2.2.2<;>exact ⟨_,rfl,rfl,fun e=>by cases e⟩
        | true=>
          have hn:=of_decide_eq_true hn'
          cases hsm:A0m fr.1 st.2.2.2 with
          | false=>exact ⟨_,rfl,rfl,fun e=>by cases e⟩
          | true=>
            have hg:C4Z st:=⟨he.1,he.2,hd2.1,hd2.2,by omega,fr.1,hu,hsm⟩
            simp only [Bool.not_true,cond_false]
            rw [hn,C8d st h l.length hll,A0 (show (0:Int)≤(List.length l:Int) by omega),A0 (show (List.length l:Int)≤(st.1.1.length:Int) by omega),Int.toNat_natCast,List.take_length]
            simp only [cond_true]
            have hdr:B3z (st.1.1.drop l.length):=⟨by rw [List.length_drop];omega,fun s hs=>h.2 s (List.mem_of_mem_drop hs)⟩
            rw [C9q _ hdr]
            have htop:decide (st.2.1>A5N (st.1.1.drop l.length))=((st.1.1.drop l.length).all fun s=>!A2c st.2.1 s):=by
              have:=B5F st.2.1 (st.1.1.drop l.length) (-1)
              rw [A0 (show (-1:Int)<st.2.1 by omega),Bool.true_and] at this
              exact this
            simp only [htop]
            by_cases hl0:(List.length l:Int)>0
            · rw [A0 hl0,w64 (n:=(List.length l:Int)-1) (by omega) (by omega),A0 (show (0:Int)≤(List.length l:Int)-1 by omega),A0 (show (List.length l:Int)-1<(List.length l:Int) by omega)]
              simp only [cond_true]
              have hlt:decide (st.2.1<(rd A6l l ((List.length l:Int)-1)).1)=decide ((rd A6l l ((List.length l:Int)-1)).1>st.2.1):=rfl
              rw [hlt]
              cases decide ((rd A6l l ((List.length l:Int)-1)).1>st.2.1) with
              | true=>exact ⟨_,rfl,rfl,fun e=>by cases e⟩
              | false=>exact ⟨_,rfl,rfl,fun _=>hg⟩
            · rw [A3 hl0]
              exact ⟨_,rfl,rfl,fun _=>hg⟩
theorem D1m(x:D5):B3h V4 x=L8 Q5 x:=by
  have e:V4=Q5:=by funext r;rw [B3r,A8w]
  rw [e]
  rfl
theorem E1r(x:D5)(h:x.2.length≤1048576):∃ z,B8 (L8 Q5 x) (0,())=some z∧(z=.inl ()∨z=.inr (false,())):=by
  have key:=A1j (L8 Q5 x) (fun i=>((i:Int),())) x.2.length (fun i=>if i<x.2.length then .inr (false,()) else .inl ()) (fun i=>S6 (rd B2 x.2 (i:Int)).2) (fun i hi=>?_) ?_
  · refine ⟨_,key,?_⟩
    split
    · exact .inr rfl
    · exact .inl rfl
  · have g1:((i:Int)<(x.2.length:Int)):=by omega
    have g2:(0:Int)≤(i:Int):=by omega
    simp only [L8,A0 g1,A0 g2,cond_true,A8w,A4,if_pos hi]
    rw [w64 (by omega) (by omega)]
    cases S6 (rd B2 x.2 (i:Int)).2<;>rfl
  · simp [L8]
theorem D1n(x:D5)(h:B3z x.1.1.1)(h2:x.2.length≤1048576):∃ b,A0T x=some (b,())∧A4G x=some (b,())∧(b=true→F4 x.1=some (true,())∧C4Z x.1∧x.2.length≤200):=by
  obtain ⟨z,hz,hz2⟩:=E1r x h2
  obtain ⟨b,hs,hi,hg⟩:=C4a x.1 h
  simp only [A0T,A6r,A4G,B1f,D1m,hz,hs,hi]
  rcases hz2 with rfl | rfl
  · by_cases hl:(x.2.length:Int)≤200
    · rw [A0 hl]
      exact ⟨b,rfl,rfl,fun e=>⟨by rw [e],hg e,by omega⟩⟩
    · rw [A3 hl]
      exact ⟨_,rfl,rfl,fun e=>by cases e⟩
  · exact ⟨_,rfl,rfl,fun e=>by cases e⟩
theorem E2w{k:K}{b:List k.T}{i:Nat}(h:i<b.length)(u:k.T):rd k (b.set i u) (i:Int)=u:=by
  rw [C8 (xs:=b.set i u) (by simpa using h)]
  simp
theorem C0A(a:List ByteArray)(h:a.length≤1048576):F7 a=some (a,()):=by
  simp only [F7,T2]
  have e:(bif decide (([]:List ByteArray).length+a.length≤9223372036854775807) then bif decide ((([]:List ByteArray).length+a.length)*16≤140737488355328) then some (([]++a),()) else none else none)=some (a,()):=by
    rw [A0 (by simp;omega),A0 (by simp;omega)]
    simp
  rw [e]
  cases a with
  | nil=>simp [B3p]
  | cons x xs=>simp
theorem C8e(a:List C7)(h:a.length≤1048576):D8 a=some (a,()):=by
  simp only [D8,M8]
  have e:(bif decide (([]:List C7).length+a.length≤9223372036854775807) then bif decide ((([]:List C7).length+a.length)*24≤140737488355328) then some (([]++a),()) else none else none)=some (a,()):=by
    rw [A0 (by simp;omega),A0 (by simp;omega)]
    simp
  rw [e]
  cases a with
  | nil=>simp [B3p]
  | cons x xs=>simp
def B0L(d:F5):Prop:=B3z d.1∧B3z d.2
def A7s(s:A7):Prop:=B0L s.1∧List.length s.2.2.2≤1048576∧∀ u∈s.2.2.2,List.length u.2.2.1≤2000000000
def E2P(s:D5):Prop:=A7s s.1∧List.length s.2≤1048576
theorem C78(d:F5)(h:B0L d):T7 d=some (d,()):=by
  simp only [T7,B1j,C0A _ h.1.1,C0A _ h.2.1,A4]
theorem A9l(d:F5)(h:B0L d):X3 d=some (d,()):=by
  have h1:=h.1.1
  have h2:=h.2.1
  simp only [X3,B3U]
  rw [A0 (by simp;omega),A0 (by simp;omega),A0 (by simp;omega),A0 (by simp;omega)]
  simp
theorem D1o(u:TUp)(h:List.length u.2.2.1≤2000000000):T1 u=some (u,()):=by
  simp only [T1,B1W,A0w _ (show List.length u.2.2.1≤140737488355328 by omega),A4]
theorem C4b(s:A7)(h:A7s s):A2W s=some (s,()):=by
  simp only [A2W,A9d,C78 _ h.1,A4]
  have hl:=h.2.1
  have key:=D7 (A36 T1 s) (fun i=>((i:Int),s.2.1,s.2.2.1,s.1.1,s.1.2,s.2.2.2.take i,())) s.2.2.2.length (s,()) (fun i hi=>?_) ?_
  · simpa using key
  · have g1:((i:Int)<(s.2.2.2.length:Int)):=by omega
    have g2:(0:Int)≤(i:Int):=by omega
    simp only [A36,A0 g1,A0 g2,cond_true]
    rw [C8 (k:=kUp) (xs:=s.2.2.2) hi,D1o _ (h.2.2 _ (List.getElem_mem hi))]
    simp only [A4]
    rw [A0 (by simp;omega),A0 (by simp;omega),w64 (by omega) (by omega),List.take_succ_eq_append_getElem hi]
    rfl
  · simp [A36]
theorem A4R(s:A7)(h:A7s s):R6 s=some (s,()):=by
  simp only [R6,B3V,A9l _ h.1,B7G _ h.2.1 h.2.2,A4]
theorem C2V(s:D5)(h:E2P s):A1b s=some (s,()):=by
  simp only [A1b,A7i,C4b _ h.1,C8e _ h.2,A4]
theorem D4m(d:F5)(h:B0L d):A2Y d=some ((d.1,d.1),()):=by
  simp only [A2Y,A9f,C0A _ h.1.1,A4]
theorem C4c(d:F5)(h:B0L d):A2N d=some ((d.1,d.1),()):=by
  have h1:=h.1.1
  simp only [A2N,A9W]
  rw [A0 (by simp;omega),A0 (by simp;omega)]
  simp
theorem C79(d:F5)(h:B3z d.1):A41 d=some (A5N d.1,()):=by
  have hl:=h.1
  simp only [A41,B1O]
  have key:=D7 (A40 K4 d) (fun i=>((d.1.take i).foldl A3g (-1),(i:Int),())) d.1.length (A5N d.1,()) (fun i hi=>?_) ?_
  · simpa using key
  · have g1:((i:Int)<(d.1.length:Int)):=by omega
    have g2:(0:Int)≤(i:Int):=by omega
    simp only [A40,A0 g1,A0 g2,cond_true]
    rw [A66 _ (A92 h hi),w64 (by omega) (by omega)]
    simp only [A4]
    have e:(d.1.take (i+1)).foldl A3g (-1)=A3g ((d.1.take i).foldl A3g (-1)) (rd .str d.1 (i:Int)):=by
      rw [List.take_succ_eq_append_getElem hi,List.foldl_append,A5K hi]
      rfl
    rw [e]
    generalize (d.1.take i).foldl A3g (-1)=t
    unfold A3g
    cases (D3 (rd .str d.1 (i:Int))).2.1
    · rfl
    · cases decide ((D3 (rd .str d.1 (i:Int))).1.1>t)<;>rfl
  · simp [A40,A5N]
theorem C9r(s:ByteArray):(D3 s).1.1≤10000:=by
  unfold D3
  split
  · rename_i h
    simp only [A8y,Bool.and_eq_true] at h
    exact (A0F h.1.2).2.1
  · simp [D6n]
theorem D6p(l:List ByteArray):-1≤A5N l∧A5N l≤10000:=by
  unfold A5N
  have:∀ (l:List ByteArray) (t:Int),-1≤t∧t≤10000→-1≤l.foldl A3g t∧l.foldl A3g t≤10000:=by
    intro l
    induction l with
    | nil=>exact fun t h=>h
    | cons s l ih=>
      intro t h
      refine ih _ ?_
      have h2:=C9r s
      unfold A3g
      cases (D3 s).2.1 with
      | false=>exact h
      | true=>
        by_cases h3:(D3 s).1.1>t
        · rw [A0 h3];simp only [cond_true];omega
        · rw [A3 h3];exact h
  exact this l (-1) (by omega)
theorem E0E{l:List ByteArray}(h:B3z l)(i:Nat){s:ByteArray}(hs:s.size≤1048576):B3z (l.set i s):=⟨by rw [List.length_set];exact h.1,fun x hx=>(List.mem_or_eq_of_mem_set hx).elim (h.2 x) (fun e=>by rw [e];exact hs)⟩
def B1u(op:Int):Int:=if op=1 then 1000000000 else if op=3 then 1000000000 else if op=4 then 4294967295 else 0
def A0z(r:A1w):Bool:=decide (1≤r.1∧r.1≤6)&&idB r.2.1&&decide (0≤r.2.2∧r.2.2≤B1u r.1)
theorem C4d(r:A1w)(h:r.2.1.size≤maxLen):A59 r=some (A0z r,()):=by
  simp only [A59,B9z,N6,A7p _ h,A4,A0z,A8g,B3b,B1u]
  cases decide (1≤r.1∧r.1≤6)
  · rfl
  cases idB r.2.1
  · rfl
  simp only [Bool.not_true,cond_false,B6,Bool.true_and]
  have hz:decide (0≤r.2.2∧r.2.2≤0)=decide (r.2.2=0):=by
    by_cases h0:r.2.2=0
    · rw [A0 h0,A0 (by omega)]
    · rw [A3 h0,A3 (by omega)]
  by_cases h1:r.1=1
  · simp [h1]
  by_cases h3:r.1=3
  · simp [h3]
  by_cases h4:r.1=4
  · simp [h4]
  simp [h1,h3,h4]
  rw [Bool.eq_iff_iff]
  simp
  omega
theorem C4e(r:A1w)(h:r.2.1.size≤maxLen):A3b r=some (A0z r,()):=by
  simp only [A3b,C01,L2,B1r _ h,A4,A0z,A34,A6H,B1u]
  by_cases h1:r.1=1
  · simp [h1];cases idB r.2.1<;>simp
  by_cases h3:r.1=3
  · simp [h3];cases idB r.2.1<;>simp
  by_cases h4:r.1=4
  · simp [h4];cases idB r.2.1<;>simp
  simp only [A3 h1,A3 h3,A3 h4,if_neg h1,if_neg h3,if_neg h4,cond_false]
  cases decide (1≤r.1∧r.1≤6)<;>cases idB r.2.1<;>simp
def C8f(n:Nat)(h:C7):Bool:=S6 h.2&&decide (0≤h.1∧h.1≤(n:Int)-1)
def A10(n:Nat)(l:List C7):Bool:=(List.range l.length).all fun i=>C8f n (rd B2 l (i:Int))
theorem B8L(w:A5)(l:List C7)(h:l.length≤maxLen)(hc:w.2.1.length≤1048576):A7W w l=some (A10 w.2.1.length l,()):=by
  simp only [A7W,B74,A10]
  refine B2N _ l.length h (fun i=>C8f w.2.1.length (rd B2 l (i:Int))) (fun i hi=>?_) (by simp [B1Q])
  have g1:((i:Int)<(l.length:Int)):=by omega
  have g2:(0:Int)≤(i:Int):=by omega
  simp only [B1Q,A0 g1,A0 g2,cond_true,N6,A8w,A4,C8f]
  rw [w64 (n:=(w.2.1.length:Int)-1) (by omega) (by omega)]
  cases decide (0≤(rd B2 l (i:Int)).1∧(rd B2 l (i:Int)).1≤(w.2.1.length:Int)-1)<;>cases S6 (rd B2 l (i:Int)).2<;>rfl
theorem D1p(w:A5)(l:List C7)(h:l.length≤maxLen)(hc:w.2.1.length≤1048576):A7h w l=some (A10 w.2.1.length l,()):=by
  simp only [A7h,B7C,A10]
  refine B2N _ l.length h (fun i=>C8f w.2.1.length (rd B2 l (i:Int))) (fun i hi=>?_) (by simp [B1h])
  have g1:((i:Int)<(l.length:Int)):=by omega
  have g2:(0:Int)≤(i:Int):=by omega
  simp only [B1h,A0 g1,A0 g2,cond_true,L2,B3r,A4,C8f]
  rw [w64 (n:=(w.2.1.length:Int)-1) (by omega) (by omega)]
  cases decide (0≤(rd B2 l (i:Int)).1∧(rd B2 l (i:Int)).1≤(w.2.1.length:Int)-1)<;>cases S6 (rd B2 l (i:Int)).2<;>rfl
def D7z(w:A5):Prop:=w.2.1.length≤1048576∧∀ c∈w.2.1,c.1.size≤maxLen
theorem D1q(w:A5)(h:D7z w)(i:Nat)(hi:i<w.2.1.length):∃ z,B8 (K8 ((i:Int),()) w) (0,())=some z∧(z=.inl ((i:Int)+1,())∨z=.inr (.inr (false,()))):=by
  have hl:=h.1
  refine A0C (K8 ((i:Int),()) w) (fun l=>((i:Int)-l.1).toNat) (fun l=>0≤l.1) (fun z=>z=.inl ((i:Int)+1,())∨z=.inr (.inr (false,()))) (fun l h0=>?_) (0,()) (by simp)
  simp only [K8]
  by_cases hj:l.1<(i:Int)
  · rw [A0 hj,A0 h0,A0 (show l.1<(w.2.1.length:Int) by omega),A0 (show (0:Int)≤(i:Int) by omega),A0 (show (i:Int)<(w.2.1.length:Int) by omega)]
    simp only [cond_true]
    rw [w64 (n:=l.1+1) (by omega) (by omega)]
    cases ((rd A9 w.2.1 l.1).1.toList == (rd A9 w.2.1 (i:Int)).1.toList)
    · exact .inl ⟨_,rfl,by simp only;omega,by simp only;omega⟩
    · exact .inr ⟨_,rfl,.inr rfl⟩
  · rw [A3 hj,w64 (n:=(i:Int)+1) (by omega) (by omega)]
    exact .inr ⟨_,rfl,.inl rfl⟩
theorem D1r(w:A5)(h:D7z w)(i:Nat)(hi:i<w.2.1.length):B8 (A31 w ((i:Int),())) (0,())=B8 (K8 ((i:Int),()) w) (0,()):=by
  have hl:=h.1
  have hlen:((w.2.1.take i).drop 0).length=i:=by simp;omega
  refine A8t (fun l=>0≤l.1) (fun l h0=>?_) (fun l y h0 e=>?_) (by simp)
  · simp only [A31,K8,Int.toNat_natCast,hlen]
    by_cases hj:l.1<(i:Int)
    · obtain ⟨j,hn⟩:∃ j:Nat,l.1=(j:Int):=⟨l.1.toNat,by omega⟩
      rw [hn] at hj h0 ⊢
      rw [A0 hj,A0 h0,A0 (show (j:Int)<(w.2.1.length:Int) by omega),A0 (show (0:Int)≤(i:Int) by omega),A0 (show (i:Int)<(w.2.1.length:Int) by omega)]
      simp only [cond_true]
      have e:rd A9 ((w.2.1.take i).drop 0) (j:Int)=rd A9 w.2.1 (j:Int):=by
        rw [C8 (k:=A9) (xs:=(w.2.1.take i).drop 0) (by rw [hlen];omega),C8 (k:=A9) (xs:=w.2.1) (by omega)]
        simp
      rw [e]
    · rw [A3 hj]
      rfl
  · simp only [A31,Int.toNat_natCast,hlen] at e
    by_cases hj:l.1<(i:Int)
    · rw [A0 hj,A0 h0] at e
      simp only [cond_true] at e
      rw [w64 (n:=l.1+1) (by omega) (by omega)] at e
      revert e
      cases ((rd A9 ((w.2.1.take i).drop 0) l.1).1.toList == (rd A9 w.2.1 (i:Int)).1.toList)
      · intro e
        simp only [cond_false] at e
        injection e with e;injection e with e;subst e
        simp only;omega
      · intro e
        simp only [cond_true] at e
        injection e with e;cases e
    · rw [A3 hj] at e
      simp only [cond_false] at e
      injection e with e;cases e
theorem B8M(w:A5)(h:D7z w)(l:Int×Unit)(h0:0≤l.1) :
    A32 K9 w l=G3 F9 w l∧((∃ y,G3 F9 w l=some (.inl y)∧y.1=l.1+1∧l.1<(w.2.1.length:Int))∨G3 F9 w l=some (.inr (.inl ()))∨G3 F9 w l=some (.inr (.inr (false,())))):=by
  have hl:=h.1
  simp only [A32,G3]
  by_cases hi:l.1<(w.2.1.length:Int)
  · obtain ⟨i,hn⟩:∃ i:Nat,l.1=(i:Int):=⟨l.1.toNat,by omega⟩
    obtain ⟨l1,u⟩:=l
    simp only at hn hi h0
    subst hn
    have hi':i<w.2.1.length:=by omega
    have hsz:(rd A9 w.2.1 (i:Int)).1.size≤maxLen:=by
      rw [C8 (k:=A9) (xs:=w.2.1) hi']
      exact h.2 _ (List.getElem_mem hi')
    simp only
    rw [A0 hi,A0 h0,A9j _ hsz,A2Z _ hsz,A0 (show (i:Int)≤(w.2.1.length:Int) by omega),D1r w h i hi']
    simp only [cond_true,A4]
    cases G5 (rd A9 w.2.1 (i:Int)) with
    | false=>exact ⟨trivial,.inr (.inr rfl)⟩
    | true=>
      obtain ⟨z,e,hz⟩:=D1q w h i hi'
      simp only [Bool.not_true,cond_false]
      refine ⟨trivial,?_⟩
      rw [e]
      rcases hz with rfl | rfl
      · exact .inl ⟨_,rfl,rfl,hi⟩
      · exact .inr (.inr rfl)
  · rw [A3 hi]
    exact ⟨rfl,.inr (.inl rfl)⟩
theorem D4n(w:A5)(h:D7z w):∃ b,V2 w=some (b,())∧A2U w=some (b,())∧(b=true→w.2.1.length≤6∧w.2.2.1.length=w.2.1.length∧w.2.2.2.2.2.length=w.2.1.length):=by
  have hl:=h.1
  have e1:B8 (A32 K9 w) (0,())=B8 (G3 F9 w) (0,()):=by
    refine A8t (fun l=>0≤l.1) (fun l h0=>(B8M w h l h0).1) (fun l y h0 e=>?_) (by simp)
    rw [(B8M w h l h0).1] at e
    rcases (B8M w h l h0).2 with ⟨y',e2,e3,_⟩ | e2 | e2
    · rw [e2] at e;injection e with e;injection e with e;subst e;omega
    · rw [e2] at e;injection e with e;cases e
    · rw [e2] at e;injection e with e;cases e
  obtain ⟨z,e2,hz⟩:=A0C (G3 F9 w) (fun l=>((w.2.1.length:Int)-l.1).toNat) (fun l=>0≤l.1) (fun z=>z=.inl ()∨z=.inr (false,())) (fun l h0=>by
    rcases (B8M w h l h0).2 with ⟨y',e2,e3,e4⟩ | e2 | e2
    · exact .inl ⟨y',e2,by omega,by omega⟩
    · exact .inr ⟨_,e2,.inl rfl⟩
    · exact .inr ⟨_,e2,.inr rfl⟩) (0,()) (by simp)
  simp only [V2,A45,A2U,A9b,e1,e2]
  rcases hz with rfl | rfl
  · simp only [B6]
    by_cases h1:(w.2.1.length:Int)≤6
    · rw [A0 h1]
      by_cases h2:(w.2.2.1.length:Int)=(w.2.1.length:Int)
      · rw [A0 h2]
        refine ⟨_,rfl,rfl,fun e=>?_⟩
        have e3:=of_decide_eq_true e
        omega
      · rw [A3 h2]
        exact ⟨_,rfl,rfl,fun e=>by cases e⟩
    · rw [A3 h1]
      exact ⟨_,rfl,rfl,fun e=>by cases e⟩
  · exact ⟨_,rfl,rfl,fun e=>by cases e⟩
def D1s(n:Nat)(a:L0):Bool:=A0z a.2.1&&decide (0≤a.1∧a.1≤(n:Int)-1)
def E2x(w:A5):Prop:=B3z w.1.1.1.1∧w.1.2.length≤1048576∧D7z w∧(w.2.2.2.1.length≤1048576∧∀ a∈w.2.2.2.1,a.2.1.2.1.size≤maxLen)∧w.2.2.2.2.1.length≤1048576
theorem C4f(w:A5)(h:E2x w):∃ b,X6 w=some (b,())∧A0K w=some (b,()):=by
  obtain ⟨h1,h2,h3,⟨h4,h4'⟩,h5⟩:=h
  have hc:=h3.1
  obtain ⟨bs,es,ei,_⟩:=D1n w.1 h1 h2
  obtain ⟨bc,cs,ci,_⟩:=D4n w h3
  have ht:=B8L w w.2.2.2.2.1 (by simp only [maxLen];omega) hc
  have ht':=D1p w w.2.2.2.2.1 (by simp only [maxLen];omega) hc
  have hh:=B8L w w.1.2 (by simp only [maxLen];omega) hc
  have hh':=D1p w w.1.2 (by simp only [maxLen];omega) hc
  have hloop:=B2N (Y9 A59 E1 w) w.2.2.2.1.length (by simp only [maxLen];omega) (fun i=>D1s w.2.1.length (rd F8 w.2.2.2.1 (i:Int))) (fun i hi=>by
    have g1:((i:Int)<(w.2.2.2.1.length:Int)):=by omega
    have g2:(0:Int)≤(i:Int):=by omega
    have hsz:(rd F8 w.2.2.2.1 (i:Int)).2.1.2.1.size≤maxLen:=by
      rw [C8 (k:=F8) (xs:=w.2.2.2.1) hi]
      exact h4' _ (List.getElem_mem hi)
    simp only [Y9,A0 g1,A0 g2,cond_true,N6,C4d _ hsz,A4,D1s]
    rw [w64 (n:=(w.2.1.length:Int)-1) (by omega) (by omega)]
    cases decide (0≤(rd F8 w.2.2.2.1 (i:Int)).1∧(rd F8 w.2.2.2.1 (i:Int)).1≤(w.2.1.length:Int)-1)<;>cases A0z (rd F8 w.2.2.2.1 (i:Int)).2.1<;>rfl) (by simp [Y9])
  have istep:∀ i:Nat,i<w.2.2.2.1.length→A5g A3b C2 w ((i:Int),())=bif D1s w.2.1.length (rd F8 w.2.2.2.1 (i:Int)) then some (.inl (((i+1:Nat):Int),())) else some (.inr (.inr (false,()))):=fun i hi=>by
    have g1:((i:Int)<(w.2.2.2.1.length:Int)):=by omega
    have g2:(0:Int)≤(i:Int):=by omega
    have hsz:(rd F8 w.2.2.2.1 (i:Int)).2.1.2.1.size≤maxLen:=by
      rw [C8 (k:=F8) (xs:=w.2.2.2.1) hi]
      exact h4' _ (List.getElem_mem hi)
    have e1:((i+1:Nat):Int)=(i:Int)+1:=by omega
    simp only [A5g,A0 g1,A0 g2,cond_true,L2,C4e _ hsz,A4,D1s,e1]
    rw [w64 (n:=(w.2.1.length:Int)-1) (by omega) (by omega),w64 (n:=(i:Int)+1) (by omega) (by omega)]
    cases decide (0≤(rd F8 w.2.2.2.1 (i:Int)).1∧(rd F8 w.2.2.2.1 (i:Int)).1≤(w.2.1.length:Int)-1)<;>cases A0z (rd F8 w.2.2.2.1 (i:Int)).2.1<;>rfl
  simp only [X6,A8i,A0K,B3i,es,ei,cs,ci,ht,ht',hh,hh',hloop,A4]
  have hirest:(bif A10 w.2.1.length w.2.2.2.2.1 then bif A10 w.2.1.length w.1.2 then some (bs,()) else some (false,()) else some (false,()))=some (A10 w.2.1.length w.2.2.2.2.1&&A10 w.2.1.length w.1.2&&bs,()):=by
    cases A10 w.2.1.length w.2.2.2.2.1<;>cases A10 w.2.1.length w.1.2<;>rfl
  have hi:=E1n istep (by simp [A5g]) (fun _=>(bif A10 w.2.1.length w.2.2.2.2.1 then bif A10 w.2.1.length w.1.2 then some (bs,()) else some (false,()) else some (false,()))) _ hirest
  rw [C4Y] at hi
  generalize ((List.range w.2.2.2.1.length).all fun i=>D1s w.2.1.length (rd F8 w.2.2.2.1 (i:Int)))=ba at hi ⊢
  cases bc with
  | false=>
    cases bs<;>exact ⟨_,rfl,rfl⟩
  | true=>
    simp only [Bool.not_true,cond_false]
    cases decide ((w.2.2.2.1.length:Int)>60) with
    | true=>cases bs<;>exact ⟨_,rfl,rfl⟩
    | false=>
      cases decide ((w.2.2.2.2.1.length:Int)>60) with
      | true=>cases bs<;>exact ⟨_,rfl,rfl⟩
      | false=>
        simp only [cond_false]
        have e0:∀ g:Unit→Option (Bool×Unit),B6 (some (.inl ():Unit⊕(Bool×Unit))) g=g ():=fun g=>rfl
        simp only [e0]
        refine ⟨_,?_,hi⟩
        cases bs<;>cases A10 w.2.1.length w.2.2.2.2.1<;>cases A10 w.2.1.length w.1.2<;>simp [B6]
theorem D80{a b:List Int}(ha:Byt a)(hb:Byt b)(h:(strOf a).toList=(strOf b).toList):a=b:=by
  rw [ByteArray.toList_eq,ByteArray.toList_eq] at h
  have h2:(a.map fun n=>UInt8.ofNat n.toNat)=b.map fun n=>UInt8.ofNat n.toNat:=h
  have hl:a.length=b.length:=by simpa using congrArg List.length h2
  refine List.ext_getElem hl fun i h1 h3=>?_
  have h4:=congrArg (fun l=>l[i]?) h2
  simp only [List.getElem?_map,List.getElem?_eq_getElem h1,List.getElem?_eq_getElem h3,Option.map_some,Option.some.injEq] at h4
  exact E07 (ha _ (List.getElem_mem h1)) (hb _ (List.getElem_mem h3)) h4
theorem B8N{a b:ByteArray}(h:a.toList=b.toList):a=b:=by
  rw [ByteArray.toList_eq,ByteArray.toList_eq] at h
  obtain ⟨⟨a⟩⟩:=a
  obtain ⟨⟨b⟩⟩:=b
  have h:a=b:=h
  rw [h]
theorem D81{a b:TUp}(ha:Byt a.2.2.1)(hb:Byt b.2.2.1)(h:A5n a b=true):a=b:=by
  simp only [A5n,Bool.and_eq_true,beq_iff_eq,decide_eq_true_eq] at h
  obtain ⟨⟨⟨h1,h2⟩,h3⟩,h4⟩:=h
  obtain ⟨a1,a2,a3,a4⟩:=a
  obtain ⟨b1,b2,b3,b4⟩:=b
  simp only at h1 h2 h3 h4 ha hb
  rw [B8N h1,h2,h3,D80 ha hb h4]
theorem D4o{a b:List TUp}(ha:∀ u∈a,Byt u.2.2.1)(hb:∀ u∈b,Byt u.2.2.1)(h:A0m a b=true):a=b:=by
  simp only [A0m,Bool.and_eq_true,decide_eq_true_eq,List.all_eq_true,List.mem_range] at h
  refine List.ext_getElem h.1 fun i h1 h3=>?_
  have h4:=h.2 i h1
  rw [C8 (k:=kUp) (xs:=a) h1,C8 (k:=kUp) (xs:=b) h3] at h4
  exact D81 (ha _ (List.getElem_mem h1)) (hb _ (List.getElem_mem h3)) h4
def wrote(st:A7)(r:G8)(us:List TUp):A7:=((st.1.1.set st.2.2.1.toNat (V6 r),st.1.2),st.2.1,st.2.2.1+1,us)
theorem B1v(st:A7)(a b kind:Int)(id:ByteArray)(n:Int)(data:List Int)(hU:Ups st.2.2.2)(hr:P4 (st.2.1,st.2.2.1,kind,id,n,data)=true)(hb:Byt data)(h0:0≤st.2.2.1)(h1:st.2.2.1<(st.1.1.length:Int))(hl:st.1.1.length≤1048576)
    (us:List TUp) (hf:K1 st.2.2.2 (st.2.1,st.2.2.1,kind,id,n,data)=some us):E9 st (a,b,kind,id,n,data)=some (wrote st (st.2.1,st.2.2.1,kind,id,n,data) us,()):=by
  have hbd:=A0F hr
  simp only at hbd
  simp only [E9,A3x]
  rw [C1K (st.2.1,st.2.2.1,kind,id,n,data) (by simp only;omega) (by simp only;omega) hb,A0 h0,A0 h1]
  simp only [A4,cond_true]
  obtain ⟨x,hx,hx2⟩:=D1j st.2.2.2 (st.2.1,st.2.2.1,kind,id,n,data) hU (by simp only;omega)
  have hI:B2O st.2.2.2 (st.2.1,st.2.2.1,kind,id,n,data)=(us,true,()):=by unfold B2O;rw [hf]
  rw [hI] at hx hx2
  rw [hx,hx2 rfl,w64 (by omega) (by omega)]
  rfl
theorem B1w(st:A7)(kind:Int)(id:ByteArray)(n:Int)(data:List Int)(hU:Ups st.2.2.2)(hr:P4 (st.2.1,st.2.2.1,kind,id,n,data)=true)(hb:Byt data)(h0:0≤st.2.2.1)(h1:st.2.2.1<(st.1.1.length:Int))(hl:st.1.1.length≤1048576)
    (us:List TUp) (hf:K1 st.2.2.2 (st.2.1,st.2.2.1,kind,id,n,data)=some us):C6 st kind id n data=some (wrote st (st.2.1,st.2.2.1,kind,id,n,data) us,()):=by
  have hbd:=A0F hr
  simp only at hbd
  simp only [C6,A0y]
  rw [C1L (st.2.1,st.2.2.1,kind,id,n,data) (by simp only [maxLen];omega) hb,if_pos hr,A0 h0,A0 h1]
  simp only [A4,cond_true]
  have hI:B2O st.2.2.2 (st.2.1,st.2.2.1,kind,id,n,data)=(us,true,()):=by unfold B2O;rw [hf]
  rw [C8a st.2.2.2 (st.2.1,st.2.2.1,kind,id,n,data) hU (by simp only;omega),hI,w64 (by omega) (by omega)]
  rfl
theorem D1t{r:G8}(h:P4 r=true):(V6 r).size≤1000:=by
  have hb:=A0F h
  unfold V6
  rw [B1t,List.length_append,B3u,J1]
  omega
theorem D4p{st:A7}(h:B0L st.1){r:G8}(hr:P4 r=true)(us:List TUp):B0L (wrote st r us).1:=⟨E0E h.1 _ (by have:=D1t hr;omega),h.2⟩
theorem A7D(us:List TUp)(id:ByteArray)(h:us.length≤maxLen):G0 us id=some (if G7 us id=true then (B4 us id:Int) else -1):=by
  simp only [G0,C8Z us id h,A4]
  cases G7 us id<;>rfl
theorem B8O(us:List TUp)(id:ByteArray)(h:Ups us):O7 us id=some (if G7 us id=true then (B4 us id:Int) else -1,()):=by
  have hl:=h.2.1
  rw [C4S us id (by simp only [maxLen];omega)]
  cases hh:G7 us id with
  | true=>
    obtain ⟨hlt,_⟩:=I4.1 hh
    rw [C4W h.1 hh,if_pos hlt,if_pos rfl]
  | false=>rw [C4X h.1 hh,if_neg (Nat.lt_irrefl _),if_neg (by simp)]
theorem D1u{id:ByteArray}(h:idB id=true):id.size≤8:=by
  simp only [idB,Bool.and_eq_true,decide_eq_true_eq] at h
  omega
theorem B5G(st:A7)(h0:0≤st.2.2.1)(h1:st.2.2.1≤(st.1.1.length:Int))(hl:st.1.1.length≤1048576):K6 st=some ((st.1.1.length:Int)-st.2.2.1,st,()):=by
  simp only [K6,A7l]
  rw [w64 (by omega) (by omega)]
theorem B5H(st:A7)(h0:0≤st.2.2.1)(h1:st.2.2.1≤(st.1.1.length:Int))(hl:st.1.1.length≤1048576):R8 st=some ((st.1.1.length:Int)-st.2.2.1,()):=by
  simp only [R8,B3W]
  rw [w64 (by omega) (by omega)]
def E5(n:Int):F5:=if 0≤n∧n≤200 then (List.replicate n.toNat ⟨#[]⟩,List.replicate n.toNat ⟨#[]⟩) else ([],[])
theorem D1v(n:Int):List.length (E5 n).1≤200∧List.length (E5 n).2≤200:=by
  unfold E5
  split
  · simp;omega
  · simp
theorem C9s(n:Int):A5x n=some (E5 n,()):=by
  simp only [A5x,B3c,E5]
  by_cases h:0≤n∧n≤200
  · rw [if_pos h]
    have key:=D7 (A2Q n) (fun i=>((i:Int),List.replicate i ⟨#[]⟩,List.replicate i ⟨#[]⟩,())) n.toNat ((List.replicate n.toNat ⟨#[]⟩,List.replicate n.toNat ⟨#[]⟩),()) (fun i hi=>?_) ?_
    · exact key
    · have h1:(i:Int)<n:=by omega
      simp only [A2Q,A0 h1,A0 h.2,cond_true,B6]
      rw [A0 (by simp;omega),A0 (by simp;omega)]
      simp only [cond_true]
      rw [w64 (by omega) (by omega),List.replicate_succ']
      rfl
    · have h1:¬ ((n.toNat:Int)<n):=by omega
      simp only [A2Q,A3 h1,cond_false,B6]
  · rw [if_neg h]
    refine D7v ?_
    simp only [A2Q]
    by_cases h1:(0:Int)<n
    · rw [A0 h1,A3 (show ¬ n≤200 by omega)];rfl
    · rw [A3 h1];rfl
def A0x(n:Int):D5:=((E5 n,0,0,[]),[])
theorem C4g(n:Int):A2R n=some (A0x n,()):=by
  simp only [A2R,A9Z,A6t,B1S,C9s,A4,A0x]
theorem bO{α β:Type}(x:α)(f:α→Option β):A4 (some x) f=f x:=rfl
theorem D82(c:G9)(n:Int)(h:Cur c)(hn:0<n∧n<9223372036854775808):∃ b c',A50 c n=some (b,c',())∧Cur c':=by
  obtain ⟨r,c',e,hc,_⟩:=A7r c n h hn
  simp only [A50,B6v,e,A4]
  exact ⟨_,_,rfl,hc⟩
theorem D83{us:List TUp}{id:ByteArray}(hh:G7 us id=true)(u:TUp)(hu:u.1=(rd kUp us (B4 us id:Int)).1):G7 (us.set (B4 us id) u) id=true∧B4 (us.set (B4 us id) u) id=B4 us id∧rd kUp (us.set (B4 us id) u) (B4 us id:Int)=u:=by
  obtain ⟨hlt,hid⟩:=I4.1 hh
  rw [C8 (k:=kUp) (xs:=us) hlt] at hu
  have hk:∀ q (hq:q<us.length),((us.set (B4 us id) u)[q]'(by simpa using hq)).1=us[q].1:=fun q hq=>by
    rw [List.getElem_set]
    split
    · rename_i e;subst e;exact hu
    · rfl
  have hrd:rd kUp (us.set (B4 us id) u) (B4 us id:Int)=u:=E2w (k:=kUp) hlt u
  have e1:B4 (us.set (B4 us id) u) id=B4 us id:=by
    refine A8z _ (us.set (B4 us id) u).length _ (by simp;omega) (fun j hj=>?_) (fun _=>?_)
    · rw [C8 (k:=kUp) (xs:=us.set (B4 us id) u) (by simp;omega),hk j (by omega)]
      exact B3w hj
    · rw [hrd,hu]
      exact B8J hlt
  refine ⟨?_,e1,hrd⟩
  unfold G7
  rw [e1,hrd,hu,hid]
  simp
  omega
theorem D6q{l:List ByteArray}{s:ByteArray}(hs:s∈l)(hk:(D3 s).2.1=true):(D3 s).1.1≤A5N l:=by
  have h:=B5F (D3 s).1.1 l (-1)
  by_cases hx:(D3 s).1.1≤A5N l
  · exact hx
  · exfalso
    have h1:decide (l.foldl A3g (-1)<(D3 s).1.1)=true:=decide_eq_true (by have:A5N l=l.foldl A3g (-1):=rfl;omega)
    rw [h1] at h
    have h2:=(Bool.and_eq_true _ _▸h.symm:_∧_).2
    have h3:=List.all_eq_true.1 h2 s hs
    simp only [A2c,hk,Bool.true_and] at h3
    rw [A0 (by omega)] at h3
    cases h3
def A6W(d:F5):Bool:=decide (d.1.length=d.2.length∧d.1.length≤200)&&((List.range d.1.length).all fun i=>!decide (((rd .str d.1 (i:Int)).size:Int)>64)&&!decide (((rd .str d.2 (i:Int)).size:Int)>64))
theorem B40(d:F5):T0 d=some (A6W d,()):=by
  simp only [T0,B1I,A6W]
  by_cases h1:(d.1.length:Int)=(d.2.length:Int)
  · rw [A0 h1]
    by_cases h2:(d.1.length:Int)>200
    · rw [A0 h2,A3 (show ¬ (d.1.length=d.2.length∧d.1.length≤200) by omega)]
      rfl
    · rw [A3 h2,A0 (show d.1.length=d.2.length∧d.1.length≤200 by omega)]
      simp only [Bool.not_true,cond_false,B6,Bool.true_and]
      refine B2N (A0R d) d.1.length (by simp only [maxLen];omega) (fun i=>!decide (((rd .str d.1 (i:Int)).size:Int)>64)&&!decide (((rd .str d.2 (i:Int)).size:Int)>64)) (fun i hi=>?_) (by simp [A0R])
      have g1:((i:Int)<(d.1.length:Int)):=by omega
      have g2:(0:Int)≤(i:Int):=by omega
      have g3:((i:Int)<(d.2.length:Int)):=by omega
      simp only [A0R,A0 g1,A0 g2,A0 g3,cond_true]
      cases decide (((rd .str d.1 (i:Int)).size:Int)>64)<;>cases decide (((rd .str d.2 (i:Int)).size:Int)>64)<;>rfl
  · rw [A3 h1,A3 (show ¬ (d.1.length=d.2.length∧d.1.length≤200) by omega)]
    rfl
theorem D84{d:F5}(h:A6W d=true):A6W (d.1,d.1)=true:=by
  simp only [A6W,Bool.and_eq_true] at h ⊢
  refine ⟨decide_eq_true ⟨trivial,(of_decide_eq_true h.1).2⟩,List.all_eq_true.2 fun i hi=>?_⟩
  have:=List.all_eq_true.1 h.2 i hi
  simp only [Bool.and_eq_true] at this ⊢
  exact ⟨this.1,this.1⟩
theorem B5t(us:List TUp):A0m us us=true:=by
  simp only [A0m,Bool.and_eq_true]
  refine ⟨decide_eq_true trivial,List.all_eq_true.2 fun i hi=>?_⟩
  simp [A5n]
theorem C4h(a:List Int)(h:a.length≤maxLen):A0v a a=some (true,()):=by
  simp only [A0v,A9c,decide_true,Bool.not_true,cond_false]
  have e:=B2N (A35 a a) a.length h (fun _=>true) (fun i hi=>by
    have g1:((i:Int)<(a.length:Int)):=by omega
    have g2:(0:Int)≤(i:Int):=by omega
    simp only [A35,A0 g1,A0 g2,cond_true,decide_true,Bool.not_true,cond_false]) (by simp [A35])
  rw [e]
  simp
theorem C9t(us:List TUp)(h:Ups us):A61 us us=some (true,()):=by
  have hul:=h.2.1
  simp only [A61,B3k,decide_true,Bool.not_true,cond_false]
  have e:=B2N (A5h A0v us us) us.length (by simp only [maxLen];omega) (fun _=>true) (fun i hi=>by
    have g1:((i:Int)<(us.length:Int)):=by omega
    have g2:(0:Int)≤(i:Int):=by omega
    have hdl:=A90 h _ (List.getElem_mem hi)
    have hb:=C4h us[i].2.2.1 (by simp only [maxLen];omega)
    simp only [A5h,A0 g1,A0 g2,cond_true,C8 (k:=kUp) (xs:=us) hi,beq_self_eq_true,decide_true,Bool.not_true,cond_false]
    rw [hb]
    rfl) (by simp [A5h])
  rw [e]
  simp
def B8P(us:List TUp)(id:ByteArray)(ch:List Int):List TUp:=
  us.set (B4 us id) ((rd kUp us (B4 us id:Int)).1,(rd kUp us (B4 us id:Int)).2.1,(rd kUp us (B4 us id:Int)).2.2.1++ch,(rd kUp us (B4 us id:Int)).2.2.2)
def D4q(st:A7)(id:ByteArray)(n:Int)(ch:List Int):A7:=wrote st (st.2.1,st.2.2.1,2,id,n,ch) (B8P st.2.2.2 id ch)
def putAt(st:A7)(id:ByteArray)(off:Int)(dat:List Int):Nat→A7
  | 0=>st
  | j+1=>D4q (putAt st id off dat j) id (off+((j*24:Nat):Int)) (L1 24 dat j)
def nPc(dat:List Int):Nat:=(dat.length+24-1) / 24
structure D4r (st:A7) (id:ByteArray) (off:Int) (dat:List Int):Prop where
  idok:idB id=true
  ep:0≤st.2.1∧st.2.1≤10000
  nx:0≤st.2.2.1∧st.2.2.1+(nPc dat:Int)≤(st.1.1.length:Int)
  len:st.1.1.length≤200
  dk:B0L st.1
  up:Ups st.2.2.2
  has:G7 st.2.2.2 id=true
  nd:(rd kUp st.2.2.2 (B4 st.2.2.2 id:Int)).2.2.2=false
  at':off=(List.length (rd kUp st.2.2.2 (B4 st.2.2.2 id:Int)).2.2.1:Int)
  fits:off+(dat.length:Int)≤(rd kUp st.2.2.2 (B4 st.2.2.2 id:Int)).2.1
  byt:Byt dat
  lo:1≤dat.length
structure E1s (st:A7) (id:ByteArray) (off:Int) (dat:List Int) (j:Nat) (s:A7):Prop where
  ep:s.2.1=st.2.1
  nx:s.2.2.1=st.2.2.1+(j:Int)
  len:s.1.1.length=st.1.1.length
  dk:B0L s.1
  up:Ups s.2.2.2
  has:G7 s.2.2.2 id=true
  ix:B4 s.2.2.2 id=B4 st.2.2.2 id
  val:rd kUp s.2.2.2 (B4 s.2.2.2 id:Int)=((rd kUp st.2.2.2 (B4 st.2.2.2 id:Int)).1,(rd kUp st.2.2.2 (B4 st.2.2.2 id:Int)).2.1,(rd kUp st.2.2.2 (B4 st.2.2.2 id:Int)).2.2.1++dat.take (j*24),false)
theorem B7H(dat:List Int)(j:Nat)(h:j*24<dat.length):1≤(L1 24 dat j).length∧(L1 24 dat j).length≤24∧(L1 24 dat j).length=min (j*24+24) dat.length-j*24:=by
  have e:(L1 24 dat j).length=min (j*24+24) dat.length-j*24:=by unfold L1;rw [List.length_drop,List.length_take]
  rw [e]
  refine ⟨by omega,by omega,rfl⟩
theorem D1w(dat:List Int)(j:Nat):dat.take (j*24)++L1 24 dat j=dat.take ((j+1)*24):=by
  have h:=List.take_append_drop (j*24) (dat.take (j*24+24))
  rw [List.take_take,Nat.min_eq_left (by omega)] at h
  rw [show (j+1)*24=j*24+24 by omega]
  exact h
theorem B41{dat:List Int}{j:Nat}:j<nPc dat↔j*24<dat.length:=by
  unfold nPc
  omega
theorem B42{st:A7}{id:ByteArray}{off:Int}{dat:List Int}(hc:D4r st id off dat){j:Nat}{s:A7}(h:E1s st id off dat j s)(hj:j<nPc dat) :
    P4 (s.2.1,s.2.2.1,2,id,off+((j*24:Nat):Int),L1 24 dat j)=true∧K1 s.2.2.2 (s.2.1,s.2.2.1,2,id,off+((j*24:Nat):Int),L1 24 dat j)=some (B8P s.2.2.2 id (L1 24 dat j))∧
      E1s st id off dat (j+1) (D4q s id (off+((j*24:Nat):Int)) (L1 24 dat j)):=by
  obtain ⟨p1,p2,p3⟩:=B7H dat j (B41.1 hj)
  have hj2:=B41.1 hj
  have hlen0:(List.length (dat.take (j*24)):Int)=((j*24:Nat):Int):=by rw [List.length_take];omega
  obtain ⟨hlt,_⟩:=I4.1 hc.has
  have hu:=hc.up.2.2 _ (List.getElem_mem hlt)
  rw [← C8 (k:=kUp) hlt] at hu
  have hu1:=hu.1
  have hu2:=hu.2.1
  have hat:=hc.at'
  have hft:=hc.fits
  have hn1:=hc.nx.1
  have hn2:=hc.nx.2
  have hl:=hc.len
  have hnx:=h.nx
  have hbp:Byt (L1 24 dat j):=A65 (A2a hc.byt _) _
  have hr:P4 (s.2.1,s.2.2.1,2,id,off+((j*24:Nat):Int),L1 24 dat j)=true:=by
    simp only [P4,hc.idok,h.ep]
    rw [A0 hc.ep,A0 (show 0≤s.2.2.1∧s.2.2.1≤199 by omega),if_neg (by omega),if_pos trivial,A0 (show 0≤off+((j*24:Nat):Int)∧off+((j*24:Nat):Int)≤1000000000 by omega),A0 (show 1≤(List.length (L1 24 dat j):Int)∧(List.length (L1 24 dat j):Int)≤24 by omega)]
    rfl
  have hf:K1 s.2.2.2 (s.2.1,s.2.2.1,2,id,off+((j*24:Nat):Int),L1 24 dat j)=some (B8P s.2.2.2 id (L1 24 dat j)):=by
    have e1:(List.length (rd kUp s.2.2.2 (B4 s.2.2.2 id:Int)).2.2.1:Int)=off+((j*24:Nat):Int):=by
      rw [h.val];simp only [List.length_append];omega
    have e2:(rd kUp s.2.2.2 (B4 s.2.2.2 id:Int)).2.2.2=false:=by rw [h.val]
    have e3:@Eq Int (rd kUp s.2.2.2 (B4 s.2.2.2 id:Int)).2.1 (rd kUp st.2.2.2 (B4 st.2.2.2 id:Int)).2.1:=by rw [h.val]
    simp only [K1,h.has,e2,B8P]
    rw [if_neg (by omega),if_neg (by simp),if_pos trivial,if_neg (fun hx=>by
      rcases hx with hx | hx | hx
      · cases hx
      · exact hx e1.symm
      · have hx2:(List.length (rd kUp s.2.2.2 (B4 s.2.2.2 id:Int)).2.2.1:Int)+(List.length (L1 24 dat j):Int)>(rd kUp st.2.2.2 (B4 st.2.2.2 id:Int)).2.1:=by rw [← e3];exact hx
        omega)]
  have hus:=B3y h.up ⟨hr,hbp⟩ hf
  obtain ⟨k1,k2,k3⟩:=D83 h.has ((rd kUp s.2.2.2 (B4 s.2.2.2 id:Int)).1,(rd kUp s.2.2.2 (B4 s.2.2.2 id:Int)).2.1,(rd kUp s.2.2.2 (B4 s.2.2.2 id:Int)).2.2.1++L1 24 dat j,(rd kUp s.2.2.2 (B4 s.2.2.2 id:Int)).2.2.2) rfl
  refine ⟨hr,hf,h.ep,?_,?_,D4p h.dk hr _,hus,k1,k2.trans h.ix,?_⟩
  · show s.2.2.1+1=st.2.2.1+((j+1:Nat):Int)
    omega
  · show (s.1.1.set _ _).length=_
    rw [List.length_set];exact h.len
  · show rd kUp (s.2.2.2.set (B4 s.2.2.2 id) _) ((B4 (s.2.2.2.set (B4 s.2.2.2 id) _) id:Nat):Int)=_
    rw [k2,k3,h.val]
    simp only [List.append_assoc,D1w]
theorem E0F{st:A7}{id:ByteArray}{off:Int}{dat:List Int}(hc:D4r st id off dat):E1s st id off dat 0 st:=
  ⟨rfl,by simp,rfl,hc.dk,hc.up,hc.has,rfl,by
    have e2:(rd kUp st.2.2.2 (B4 st.2.2.2 id:Int)).2.2.2=false:=hc.nd
    rw [Nat.zero_mul,List.take_zero,List.append_nil,← e2]⟩
theorem B5I{st:A7}{id:ByteArray}{off:Int}{dat:List Int}(hc:D4r st id off dat):∀ j,j≤nPc dat→E1s st id off dat j (putAt st id off dat j)
  | 0,_=>E0F hc
  | j+1,hj=>(B42 hc (B5I hc j (by omega)) (by omega)).2.2
theorem C4i{st:A7}{id:ByteArray}{off:Int}{dat:List Int}(hc:D4r st id off dat):∀ (k j:Nat),j+k=nPc dat→∀ o:Int,(j<nPc dat→o=off+((j*24:Nat):Int))→
    ∃ o',B5j (A13 C6 id) ((pieces 24 dat).drop j) (o,(putAt st id off dat j).2.1,(putAt st id off dat j).2.2.1,(putAt st id off dat j).1.1,(putAt st id off dat j).1.2,(putAt st id off dat j).2.2.2,()) =
      some (o',(putAt st id off dat (nPc dat)).2.1,(putAt st id off dat (nPc dat)).2.2.1,(putAt st id off dat (nPc dat)).1.1,(putAt st id off dat (nPc dat)).1.2,(putAt st id off dat (nPc dat)).2.2.2,())
  | 0,j,hj,o,_=>by
    rw [Nat.add_zero] at hj
    subst hj
    have:(pieces 24 dat).length=nPc dat:=by simp [pieces,nPc]
    rw [← this,List.drop_length]
    exact ⟨o,rfl⟩
  | k+1,j,hj,o,ho=>by
    have hlt:j<nPc dat:=by omega
    have hlen:(pieces 24 dat).length=nPc dat:=by simp [pieces,nPc]
    have hdrop:(pieces 24 dat).drop j=L1 24 dat j::(pieces 24 dat).drop (j+1):=by
      rw [List.drop_eq_getElem_cons (by omega)];simp [pieces]
    have ho:=ho hlt
    have hI:=B5I hc j (by omega)
    obtain ⟨hr,hf,hn⟩:=B42 hc hI hlt
    have hl:=hc.len
    have hn1:=hc.nx.1
    have hn2:=hc.nx.2
    have hnx:=hI.nx
    have hle:=hI.len
    obtain ⟨hlt',_⟩:=I4.1 hc.has
    have hu:=hc.up.2.2 _ (List.getElem_mem hlt')
    rw [← C8 (k:=kUp) hlt'] at hu
    have hu2:=hu.2.1
    have hat:=hc.at'
    have hft:=hc.fits
    obtain ⟨p1,p2,p3⟩:=B7H dat j (B41.1 hlt)
    have hj2:=B41.1 hlt
    have hw:=B1w (putAt st id off dat j) 2 id (off+((j*24:Nat):Int)) (L1 24 dat j) hI.up hr (A65 (A2a hc.byt _) _) (by omega) (by omega) (by omega) _ hf
    rw [hdrop]
    simp only [B5j,A13]
    have hw':C6 (((putAt st id off dat j).1.1,(putAt st id off dat j).1.2),((putAt st id off dat j).2.1,((putAt st id off dat j).2.2.1,(putAt st id off dat j).2.2.2))) 2 id o (L1 24 dat j)=some (putAt st id off dat (j+1),()):=by
      rw [ho];exact hw
    rw [hw',w64 (by omega) (by omega)]
    simp only [A4]
    exact C4i hc k (j+1) (by omega) _ (fun hl2=>by have:=B41.1 hl2;omega)
theorem D4s{st:A7}{id:ByteArray}{off:Int}{dat:List Int}(hc:D4r st id off dat)(h400:dat.length≤400) :
    B8 (A11 E9 dat id off) (0,st.2.1,st.2.2.1,st.2.2.2,st.1.1,st.1.2,()) =
      some ((putAt st id off dat (nPc dat)).2.1,(putAt st id off dat (nPc dat)).2.2.1,(putAt st id off dat (nPc dat)).2.2.2,(putAt st id off dat (nPc dat)).1.1,(putAt st id off dat (nPc dat)).1.2,()):=by
  obtain ⟨z,e,hz⟩:=A0C (A11 E9 dat id off) (fun l=>((dat.length:Int)+24-l.1).toNat)
    (fun l=>∃ j:Nat,j≤nPc dat∧l=(((j*24:Nat):Int),(putAt st id off dat j).2.1,(putAt st id off dat j).2.2.1,(putAt st id off dat j).2.2.2,(putAt st id off dat j).1.1,(putAt st id off dat j).1.2,()))
    (fun z=>z=((putAt st id off dat (nPc dat)).2.1,(putAt st id off dat (nPc dat)).2.2.1,(putAt st id off dat (nPc dat)).2.2.2,(putAt st id off dat (nPc dat)).1.1,(putAt st id off dat (nPc dat)).1.2,())) (fun l hl=>by
      obtain ⟨j,hj,rfl⟩:=hl
      have hI:=B5I hc j hj
      have hl:=hc.len
      have hn1:=hc.nx.1
      have hn2:=hc.nx.2
      have hnx:=hI.nx
      have hle:=hI.len
      obtain ⟨hlt',_⟩:=I4.1 hc.has
      have hu:=hc.up.2.2 _ (List.getElem_mem hlt')
      rw [← C8 (k:=kUp) hlt'] at hu
      have hu2:=hu.2.1
      have hat:=hc.at'
      have hft:=hc.fits
      simp only [A11]
      by_cases hi:j<nPc dat
      · have hj2:=B41.1 hi
        obtain ⟨hr,hf,hn⟩:=B42 hc hI hi
        obtain ⟨p1,p2,p3⟩:=B7H dat j hj2
        rw [A0 (show ((j*24:Nat):Int)<(dat.length:Int) by omega),w64 (n:=((j*24:Nat):Int)+24) (by omega) (by omega)]
        obtain ⟨to,hto,hto2⟩:∃ to:Int,(bif decide (((j*24:Nat):Int)+24>(dat.length:Int)) then some ((dat.length:Int),()) else some (((j*24:Nat):Int)+24,()))=some (to,())∧(to.toNat=min (j*24+24) dat.length∧0≤to):=by
          by_cases hcc:((j*24:Nat):Int)+24>(dat.length:Int)
          · rw [A0 hcc];exact ⟨_,rfl,by omega,by omega⟩
          · rw [A3 hcc];exact ⟨_,rfl,by omega,by omega⟩
        simp only [cond_true,hto,bO]
        have hpc:(dat.take to.toNat).drop ((j*24:Nat):Int).toNat=L1 24 dat j:=by
          rw [hto2.1,Int.toNat_natCast,L1,List.take_eq_take_iff.2 (show min (min (j*24+24) dat.length) dat.length=min (j*24+24) dat.length by omega)]
        rw [hpc,A0 (show 0≤((j*24:Nat):Int) by omega),A0 (show ((j*24:Nat):Int)≤to by omega),A0 (show to≤(dat.length:Int) by omega),A0 (by simp;omega),A0 (by simp;omega),w64 (n:=off+((j*24:Nat):Int)) (by omega) (by omega)]
        simp only [cond_true,List.nil_append]
        have hw:=B1v (putAt st id off dat j) 0 0 2 id (off+((j*24:Nat):Int)) (L1 24 dat j) hI.up hr (A65 (A2a hc.byt _) _) (by omega) (by omega) (by omega) _ hf
        have hw':E9 (((putAt st id off dat j).1.1,(putAt st id off dat j).1.2),((putAt st id off dat j).2.1,((putAt st id off dat j).2.2.1,(putAt st id off dat j).2.2.2))) (0,(0,(2,(id,(off+((j*24:Nat):Int),L1 24 dat j)))))=some (putAt st id off dat (j+1),()):=hw
        rw [hw']
        simp only [bO]
        refine .inl ⟨_,rfl,⟨j+1,by omega,?_⟩,by simp only;omega⟩
        rw [show ((j*24:Nat):Int)+24=(((j+1)*24:Nat):Int) by omega]
      · have:j=nPc dat:=by omega
        subst this
        have:¬ nPc dat*24<dat.length:=fun h=>hi (B41.2 h)
        rw [A3 (show ¬ ((nPc dat*24:Nat):Int)<(dat.length:Int) by omega)]
        exact .inr ⟨_,rfl,rfl⟩) (0,st.2.1,st.2.2.1,st.2.2.2,st.1.1,st.1.2,()) ⟨0,by omega,rfl⟩
  rw [e,hz]
def A4S(st:A7)(id:ByteArray)(off:Int)(dat:List Int):A7×Int:=
  if idB id=true∧1≤dat.length∧dat.length≤400 then
    (if G7 st.2.2.2 id=true then
      (if (rd kUp st.2.2.2 (B4 st.2.2.2 id:Int)).2.2.2=true∨off≠(List.length (rd kUp st.2.2.2 (B4 st.2.2.2 id:Int)).2.2.1:Int)∨off+(dat.length:Int)>(rd kUp st.2.2.2 (B4 st.2.2.2 id:Int)).2.1 then (st,4)
       else if (st.1.1.length:Int)-st.2.2.1<(nPc dat:Int) then (st,5) else (putAt st id off dat (nPc dat),0))
     else (st,2))
  else (st,1)
theorem E0G(dat:List Int)(h:dat.length≤400):(IntKind.i64.wrap ((IntKind.i64.wrap ((IntKind.i64.wrap ((dat.length:Int)+24))-1)).tdiv 24))=(nPc dat:Int):=by
  have htd:((dat.length:Int)+24-1).tdiv 24=(nPc dat:Int):=by
    rw [Int.tdiv_eq_ediv_of_nonneg (by omega)]
    unfold nPc
    omega
  rw [w64 (n:=(dat.length:Int)+24) (by omega) (by omega),w64 (n:=(dat.length:Int)+24-1) (by omega) (by omega),htd,w64 (by unfold nPc;omega) (by unfold nPc;omega)]
structure Rt (st:A7):Prop where
  g:C4Z st
  up:Ups st.2.2.2
  dk:B0L st.1
theorem B5J{st:A7}{id:ByteArray}{off:Int}{dat:List Int}(h:Rt st)(hb:Byt dat)(h1:idB id=true)(h2:1≤dat.length∧dat.length≤400)(h3:G7 st.2.2.2 id=true)
    (h4:¬ ((rd kUp st.2.2.2 (B4 st.2.2.2 id:Int)).2.2.2=true∨off≠(List.length (rd kUp st.2.2.2 (B4 st.2.2.2 id:Int)).2.2.1:Int)∨off+(dat.length:Int)>(rd kUp st.2.2.2 (B4 st.2.2.2 id:Int)).2.1))
    (h5:¬ (st.1.1.length:Int)-st.2.2.1<(nPc dat:Int)):D4r st id off dat:=by
  obtain ⟨g1,g2,g3,g4,⟨g5,g6⟩,_⟩:=h.g
  rw [not_or,not_or] at h4
  refine ⟨h1,⟨g1,g2⟩,⟨g5,by omega⟩,g4,h.dk,h.up,h3,by simpa using h4.1,Decidable.not_not.1 h4.2.1,by have h6:=h4.2.2;exact Int.not_lt.1 h6,hb,h2.1⟩
theorem D4t(st:A7)(id:ByteArray)(off:Int)(dat:List Int)(hid:id.size≤maxLen)(h:Rt st)(hb:Byt dat)(hd:dat.length≤1048576)(ho:-9223372036854775808≤off∧off≤9223372036854775807) :
    A0h st id off dat=some ((A4S st id off dat).2,(A4S st id off dat).1,()):=by
  obtain ⟨g1,g2,g3,g4,⟨g5,g6⟩,_⟩:=h.g
  have hU:=h.up
  have hl:st.1.1.length≤1048576:=by omega
  have hul:=hU.2.1
  simp only [A0h,A6I,B1r id hid,L2,bO,A4S]
  cases hidb:idB id with
  | false=>simp [B6]
  | true=>
    simp only [Bool.not_true,cond_false,true_and]
    by_cases hlen:1≤(dat.length:Int)∧(dat.length:Int)≤400
    · rw [A0 hlen,if_pos (show 1≤dat.length∧dat.length≤400 by omega)]
      simp only [Bool.not_true,cond_false,B6]
      rw [A7D st.2.2.2 id (by simp only [maxLen];omega),B5G st g5 g6 hl,E0G dat (by omega)]
      cases hh:G7 st.2.2.2 id with
      | false=>
        simp only [Bool.false_eq_true,if_false,bO]
        rw [A0 (show (-1:Int)<0 by omega)]
        rfl
      | true=>
        obtain ⟨hlt,hid2⟩:=I4.1 hh
        have hu:=hU.2.2 _ (List.getElem_mem hlt)
        rw [← C8 (k:=kUp) hlt] at hu
        have hu1:=hu.1
        have hu2:=hu.2.1
        simp only [if_true,bO]
        rw [A3 (show ¬ (B4 st.2.2.2 id:Int)<0 by omega)]
        simp only [cond_false]
        cases hdn:(rd kUp st.2.2.2 (B4 st.2.2.2 id:Int)).2.2.2 with
        | true=>simp [bO]
        | false=>
          simp only [cond_false]
          cases ho':decide (off=(List.length (rd kUp st.2.2.2 (B4 st.2.2.2 id:Int)).2.2.1:Int)) with
          | false=>
            have ho:=of_decide_eq_false ho'
            rw [if_pos (.inr (.inl ho))]
            rfl
          | true=>
            have ho:=of_decide_eq_true ho'
            simp only [Bool.not_true,cond_false,bO]
            rw [w64 (n:=off+(dat.length:Int)) (by omega) (by omega)]
            by_cases hw:off+(dat.length:Int)>(rd kUp st.2.2.2 (B4 st.2.2.2 id:Int)).2.1
            · rw [A0 hw,if_pos (.inr (.inr hw))]
              rfl
            · have hno:¬ ((rd kUp st.2.2.2 (B4 st.2.2.2 id:Int)).2.2.2=true∨off≠(List.length (rd kUp st.2.2.2 (B4 st.2.2.2 id:Int)).2.2.1:Int)∨off+(dat.length:Int)>(rd kUp st.2.2.2 (B4 st.2.2.2 id:Int)).2.1):=by
                rw [hdn];rintro (hx | hx | hx)
                · cases hx
                · exact hx ho
                · exact hw hx
              have hno':=hno
              rw [hdn] at hno'
              rw [A3 hw,if_neg hno']
              simp only [cond_false,bO]
              by_cases hleft:(st.1.1.length:Int)-st.2.2.1<(nPc dat:Int)
              · rw [A0 hleft,if_pos hleft]
                rfl
              · rw [A3 hleft,if_neg hleft,A0 (show dat.length≤1152921504606846976 by omega)]
                simp only [cond_false,cond_true]
                have hc:=B5J h hb hidb ⟨by omega,by omega⟩ hh hno hleft
                obtain ⟨o',e⟩:=C4i hc (nPc dat) 0 (by omega) off (fun _=>by simp)
                rw [List.drop_zero] at e
                have e':B5j (A13 C6 id) (pieces 24 dat) (off,st.2.1,st.2.2.1,st.1.1,st.1.2,st.2.2.2,())=_:=e
                rw [e']
                rfl
    · rw [A3 hlen,if_neg (show ¬ (1≤dat.length∧dat.length≤400) by omega)]
      rfl
theorem D4u(st:A7)(id:ByteArray)(off:Int)(dat:List Int)(hid:id.size≤maxLen)(h:Rt st)(hS:A7s st)(hok:F4 st=some (true,()))(hb:Byt dat)(hd:dat.length≤1048576)(ho:-9223372036854775808≤off∧off≤9223372036854775807) :
    A0f st id off dat=some ((A4S st id off dat).1,(A4S st id off dat).2,()):=by
  obtain ⟨g1,g2,g3,g4,⟨g5,g6⟩,_⟩:=h.g
  have hU:=h.up
  have hl:st.1.1.length≤1048576:=by omega
  simp only [A0f,A6G,A4R st hS,hok,A7p id hid,N6,bO,A4S]
  cases hidb:idB id with
  | false=>simp [B6]
  | true=>
    simp only [Bool.not_true,cond_false,true_and]
    by_cases hlen:1≤(dat.length:Int)∧(dat.length:Int)≤400
    · rw [A0 hlen,if_pos (show 1≤dat.length∧dat.length≤400 by omega)]
      simp only [Bool.not_true,cond_false,B6]
      rw [B8O st.2.2.2 id hU,B5H st g5 g6 hl,E0G dat (by omega)]
      cases hh:G7 st.2.2.2 id with
      | false=>
        simp only [Bool.false_eq_true,if_false,bO]
        rw [A0 (show (-1:Int)<0 by omega)]
        rfl
      | true=>
        obtain ⟨hlt,hid2⟩:=I4.1 hh
        have hu:=hU.2.2 _ (List.getElem_mem hlt)
        rw [← C8 (k:=kUp) hlt] at hu
        have hu1:=hu.1
        have hu2:=hu.2.1
        simp only [if_true,bO]
        rw [A3 (show ¬ (B4 st.2.2.2 id:Int)<0 by omega),A0 (show (0:Int)≤(B4 st.2.2.2 id:Int) by omega),A0 (show (B4 st.2.2.2 id:Int)<(st.2.2.2.length:Int) by omega)]
        simp only [cond_true,cond_false]
        cases hdn:(rd kUp st.2.2.2 (B4 st.2.2.2 id:Int)).2.2.2 with
        | true=>simp [bO]
        | false=>
          simp only [cond_false]
          cases ho':decide (off=(List.length (rd kUp st.2.2.2 (B4 st.2.2.2 id:Int)).2.2.1:Int)) with
          | false=>
            have ho:=of_decide_eq_false ho'
            rw [if_pos (.inr (.inl ho))]
            rfl
          | true=>
            have ho:=of_decide_eq_true ho'
            simp only [Bool.not_true,cond_false,bO]
            rw [w64 (n:=off+(dat.length:Int)) (by omega) (by omega)]
            by_cases hw:off+(dat.length:Int)>(rd kUp st.2.2.2 (B4 st.2.2.2 id:Int)).2.1
            · rw [A0 hw,if_pos (.inr (.inr hw))]
              rfl
            · have hno:¬ ((rd kUp st.2.2.2 (B4 st.2.2.2 id:Int)).2.2.2=true∨off≠(List.length (rd kUp st.2.2.2 (B4 st.2.2.2 id:Int)).2.2.1:Int)∨off+(dat.length:Int)>(rd kUp st.2.2.2 (B4 st.2.2.2 id:Int)).2.1):=by
                rw [hdn];rintro (hx | hx | hx)
                · cases hx
                · exact hx ho
                · exact hw hx
              have hno':=hno
              rw [hdn] at hno'
              rw [A3 hw,if_neg hno']
              simp only [cond_false,bO]
              by_cases hleft:(st.1.1.length:Int)-st.2.2.1<(nPc dat:Int)
              · rw [A0 hleft,if_pos hleft]
                rfl
              · rw [A3 hleft,if_neg hleft]
                simp only [cond_false]
                have hc:=B5J h hb hidb ⟨by omega,by omega⟩ hh hno hleft
                rw [D4s hc (by omega)]
                rfl
    · rw [A3 hlen,if_neg (show ¬ (1≤dat.length∧dat.length≤400) by omega)]
      rfl
theorem D1x{st:A7}{id:ByteArray}{off:Int}{dat:List Int}(h:Rt st)(hb:Byt dat):Ups (A4S st id off dat).1.2.2.2∧B0L (A4S st id off dat).1.1:=by
  unfold A4S
  split
  · rename_i h1
    split
    · rename_i h3
      split
      · exact ⟨h.up,h.dk⟩
      · rename_i h4
        split
        · exact ⟨h.up,h.dk⟩
        · rename_i h5
          have:=B5I (B5J h hb h1.1 h1.2 h3 h4 h5) _ (Nat.le_refl _)
          exact ⟨this.up,this.dk⟩
    · exact ⟨h.up,h.dk⟩
  · exact ⟨h.up,h.dk⟩
theorem D4v{s:A7}(hd:B0L s.1)(hu:Ups s.2.2.2):A7s s:=⟨hd,by have:=hu.2.1;omega,A90 hu⟩
def A2F(st:A7)(id:ByteArray)(want:Int):A7×Int:=
  if idB id=true∧0≤want∧want≤1000000 then
    (if G7 st.2.2.2 id=true then (st,3)
     else if (st.1.1.length:Int)-st.2.2.1<1∨10≤st.2.2.2.length then (st,5)
     else (wrote st (st.2.1,st.2.2.1,1,id,want,[]) (st.2.2.2.take (B4 st.2.2.2 id)++(id,want,[],false)::st.2.2.2.drop (B4 st.2.2.2 id)),0))
  else (st,1)
def A1m(st:A7)(id:ByteArray)(sum:Int):A7×Int:=
  if idB id=true then
    (if G7 st.2.2.2 id=true then
      (if (List.length (rd kUp st.2.2.2 (B4 st.2.2.2 id:Int)).2.2.1:Int)<(rd kUp st.2.2.2 (B4 st.2.2.2 id:Int)).2.1 then (st,4)
       else if sum≠((A63 (rd kUp st.2.2.2 (B4 st.2.2.2 id:Int)).2.2.1 ^^^ 4294967295:Nat):Int) then (st,6)
       else if (rd kUp st.2.2.2 (B4 st.2.2.2 id:Int)).2.2.2=true then (st,0)
       else if (st.1.1.length:Int)-st.2.2.1<1 then (st,5)
       else (wrote st (st.2.1,st.2.2.1,3,id,0,[]) (st.2.2.2.set (B4 st.2.2.2 id) ((rd kUp st.2.2.2 (B4 st.2.2.2 id:Int)).1,(rd kUp st.2.2.2 (B4 st.2.2.2 id:Int)).2.1,(rd kUp st.2.2.2 (B4 st.2.2.2 id:Int)).2.2.1,true)),0))
     else (st,2))
  else (st,1)
def A4q(st:A7)(id:ByteArray):A7×Int:=
  if idB id=true then
    (if G7 st.2.2.2 id=true then
      (if (st.1.1.length:Int)-st.2.2.1<1 then (st,5)
       else (wrote st (st.2.1,st.2.2.1,4,id,0,[]) (st.2.2.2.take (B4 st.2.2.2 id)++st.2.2.2.drop (B4 st.2.2.2 id+1)),0))
     else (st,2))
  else (st,1)
theorem A7t{st:A7}(h:C4Z st)(k n:Int)(id:ByteArray)(hid:idB id=true)(hl:¬ (st.1.1.length:Int)-st.2.2.1<1)(hk:k=1∧0≤n∧n≤1000000000∨(k=3∨k=4)∧n=0):P4 (st.2.1,st.2.2.1,k,id,n,[])=true:=by
  obtain ⟨g1,g2,g3,g4,⟨g5,g6⟩,_⟩:=h
  simp only [P4,hid,List.length_nil]
  rw [A0 (show 0≤st.2.1∧st.2.1≤10000 by omega),A0 (show 0≤st.2.2.1∧st.2.2.1≤199 by omega)]
  rcases hk with ⟨rfl,h0,h1⟩ | ⟨rfl | rfl,rfl⟩
  · rw [if_pos rfl,A0 (show 0≤n∧n≤1000000000 from ⟨h0,h1⟩)];rfl
  · rfl
  · rfl
theorem B5K{st:A7}{id:ByteArray}{want:Int}(h1:¬ G7 st.2.2.2 id=true)(h2:¬ 10≤st.2.2.2.length):K1 st.2.2.2 (st.2.1,st.2.2.1,1,id,want,[])=some (st.2.2.2.take (B4 st.2.2.2 id)++(id,want,[],false)::st.2.2.2.drop (B4 st.2.2.2 id)):=by
  simp only [K1,if_true]
  rw [if_neg (fun h=>h.elim h1 h2)]
theorem B5L{st:A7}{id:ByteArray}(hU:Ups st.2.2.2)(h1:G7 st.2.2.2 id=true)(h2:¬ (List.length (rd kUp st.2.2.2 (B4 st.2.2.2 id:Int)).2.2.1:Int)<(rd kUp st.2.2.2 (B4 st.2.2.2 id:Int)).2.1)(h3:¬ (rd kUp st.2.2.2 (B4 st.2.2.2 id:Int)).2.2.2=true) :
    K1 st.2.2.2 (st.2.1,st.2.2.1,3,id,0,[])=some (st.2.2.2.set (B4 st.2.2.2 id) ((rd kUp st.2.2.2 (B4 st.2.2.2 id:Int)).1,(rd kUp st.2.2.2 (B4 st.2.2.2 id:Int)).2.1,(rd kUp st.2.2.2 (B4 st.2.2.2 id:Int)).2.2.1,true)):=by
  obtain ⟨hlt,hid2⟩:=I4.1 h1
  have hu:=hU.2.2 _ (List.getElem_mem hlt)
  rw [← C8 (k:=kUp) hlt] at hu
  have hu1:=hu.1
  simp only [K1,h1]
  rw [if_neg (by omega),if_neg (by simp),if_neg (by omega),if_pos trivial,if_neg (fun h=>h.elim h3 (fun h=>h (Int.le_antisymm hu1 (Int.not_lt.1 h2))))]
theorem C0B{st:A7}{id:ByteArray}(h1:G7 st.2.2.2 id=true):K1 st.2.2.2 (st.2.1,st.2.2.1,4,id,0,[])=some (st.2.2.2.take (B4 st.2.2.2 id)++st.2.2.2.drop (B4 st.2.2.2 id+1)):=by
  simp only [K1,h1]
  rw [if_neg (by omega),if_neg (by simp),if_neg (by omega),if_neg (by omega),if_pos trivial]
theorem D1y(st:A7)(id:ByteArray)(want:Int)(hid:id.size≤maxLen)(h:Rt st):A07 st id want=some ((A2F st id want).2,(A2F st id want).1,()):=by
  obtain ⟨g1,g2,g3,g4,⟨g5,g6⟩,_⟩:=h.g
  have hU:=h.up
  have hl:st.1.1.length≤1048576:=by omega
  have hul:=hU.2.1
  simp only [A07,A5D,B1r id hid,L2,bO,A2F]
  cases hidb:idB id with
  | false=>simp [B6,bO]
  | true=>
    simp only [Bool.not_true,cond_false,true_and]
    by_cases hw:0≤want∧want≤1000000
    · rw [A0 hw,if_pos hw]
      simp only [Bool.not_true,cond_false,B6]
      rw [A7D st.2.2.2 id (by simp only [maxLen];omega),B5G st g5 g6 hl]
      cases hh:G7 st.2.2.2 id with
      | true=>
        simp only [if_true,bO]
        rw [A3 (show ¬ (B4 st.2.2.2 id:Int)<0 by omega)]
        rfl
      | false=>
        simp only [Bool.false_eq_true,if_false,bO]
        rw [A0 (show (-1:Int)<0 by omega)]
        simp only [cond_true]
        by_cases hleft:(st.1.1.length:Int)-st.2.2.1<1
        · rw [A0 hleft,if_pos (.inl hleft)]
          rfl
        · rw [A3 hleft]
          simp only [cond_false]
          by_cases h10:10≤st.2.2.2.length
          · rw [A0 (show (st.2.2.2.length:Int)≥10 by omega),if_pos (.inr h10)]
            rfl
          · rw [A3 (show ¬ (st.2.2.2.length:Int)≥10 by omega),if_neg (fun hx=>hx.elim hleft h10)]
            simp only [cond_false]
            have hr:=A7t h.g 1 want id hidb hleft (.inl ⟨rfl,hw.1,by omega⟩)
            have hf:=B5K (st:=st) (id:=id) (want:=want) (by rw [hh];simp) h10
            rw [B1w st 1 id want [] hU hr A01 g5 (by omega) hl _ hf]
            rfl
    · rw [A3 hw,if_neg hw]
      rfl
theorem D1z(st:A7)(id:ByteArray)(want:Int)(hid:id.size≤maxLen)(h:Rt st)(hS:A7s st)(hok:F4 st=some (true,())):A03 st id want=some ((A2F st id want).1,(A2F st id want).2,()):=by
  obtain ⟨g1,g2,g3,g4,⟨g5,g6⟩,_⟩:=h.g
  have hU:=h.up
  have hl:st.1.1.length≤1048576:=by omega
  have hul:=hU.2.1
  simp only [A03,A55,A4R st hS,hok,A7p id hid,N6,bO,A2F]
  cases hidb:idB id with
  | false=>simp [B6,bO]
  | true=>
    simp only [Bool.not_true,cond_false,true_and]
    by_cases hw:0≤want∧want≤1000000
    · rw [A0 hw,if_pos hw]
      simp only [Bool.not_true,cond_false,B6]
      rw [B8O st.2.2.2 id hU,B5H st g5 g6 hl]
      cases hh:G7 st.2.2.2 id with
      | true=>
        simp only [if_true,bO]
        rw [A0 (show (B4 st.2.2.2 id:Int)≥0 by omega)]
        rfl
      | false=>
        simp only [Bool.false_eq_true,if_false,bO]
        rw [A3 (show ¬ (-1:Int)≥0 by omega)]
        simp only [cond_false]
        by_cases hleft:(st.1.1.length:Int)-st.2.2.1<1
        · rw [A0 hleft,if_pos (.inl hleft)]
          rfl
        · rw [A3 hleft]
          simp only [cond_false]
          by_cases h10:10≤st.2.2.2.length
          · rw [A0 (show (st.2.2.2.length:Int)=10 by omega),if_pos (.inr h10)]
            rfl
          · rw [A3 (show ¬ (st.2.2.2.length:Int)=10 by omega),if_neg (fun hx=>hx.elim hleft h10)]
            simp only [cond_false]
            have hr:=A7t h.g 1 want id hidb hleft (.inl ⟨rfl,hw.1,by omega⟩)
            have hf:=B5K (st:=st) (id:=id) (want:=want) (by rw [hh];simp) h10
            rw [B1v st 0 0 1 id want [] hU hr A01 g5 (by omega) hl _ hf]
            rfl
    · rw [A3 hw,if_neg hw]
      rfl
theorem D20(st:A7)(id:ByteArray)(sum:Int)(hid:id.size≤maxLen)(h:Rt st):A08 st id sum=some ((A1m st id sum).2,(A1m st id sum).1,()):=by
  obtain ⟨g1,g2,g3,g4,⟨g5,g6⟩,_⟩:=h.g
  have hU:=h.up
  have hl:st.1.1.length≤1048576:=by omega
  have hul:=hU.2.1
  simp only [A08,A5E,B1r id hid,bO,A1m]
  cases hidb:idB id with
  | false=>rfl
  | true=>
    simp only [Bool.not_true,cond_false,if_true]
    rw [A7D st.2.2.2 id (by simp only [maxLen];omega),B5G st g5 g6 hl]
    cases hh:G7 st.2.2.2 id with
    | false=>
      simp only [Bool.false_eq_true,if_false,bO]
      rw [A0 (show (-1:Int)<0 by omega)]
      rfl
    | true=>
      obtain ⟨hlt,hid2⟩:=I4.1 hh
      have hu:=hU.2.2 _ (List.getElem_mem hlt)
      have hdl:=A90 hU _ (List.getElem_mem hlt)
      rw [← C8 (k:=kUp) hlt] at hu hdl
      simp only [if_true,bO]
      rw [A3 (show ¬ (B4 st.2.2.2 id:Int)<0 by omega)]
      simp only [cond_false]
      rw [C4Q _ hu.2.2.2 (by simp only [maxLen];omega)]
      simp only [bO]
      by_cases hd1:(List.length (rd kUp st.2.2.2 (B4 st.2.2.2 id:Int)).2.2.1:Int)<(rd kUp st.2.2.2 (B4 st.2.2.2 id:Int)).2.1
      · rw [A0 hd1,if_pos hd1]
        rfl
      rw [A3 hd1,if_neg hd1]
      simp only [cond_false]
      by_cases hc:sum=((A63 (rd kUp st.2.2.2 (B4 st.2.2.2 id:Int)).2.2.1 ^^^ 4294967295:Nat):Int)
      · rw [A0 hc,if_neg (fun hx=>hx hc)]
        simp only [Bool.not_true,cond_false]
        cases hdn:(rd kUp st.2.2.2 (B4 st.2.2.2 id:Int)).2.2.2 with
        | true=>rfl
        | false=>
          simp only [Bool.not_false,cond_true,cond_false,Bool.false_eq_true,if_false,bO]
          by_cases hleft:(st.1.1.length:Int)-st.2.2.1<1
          · rw [A0 hleft,if_pos hleft]
            rfl
          · rw [A3 hleft,if_neg hleft]
            simp only [cond_false]
            have hr:=A7t h.g 3 0 id hidb hleft (.inr ⟨.inl rfl,rfl⟩)
            have hf:=B5L hU hh hd1 (by rw [hdn];simp)
            have hwi:C6 ((st.1.1,st.1.2),(st.2.1,(st.2.2.1,st.2.2.2))) 3 id 0 []=_:=B1w st 3 id 0 [] hU hr A01 g5 (by omega) hl _ hf
            simp only [B6,Bool.not_false,cond_true]
            rw [hwi]
            rfl
      · rw [A3 hc,if_pos hc]
        rfl
theorem D21(st:A7)(id:ByteArray)(sum:Int)(hid:id.size≤maxLen)(h:Rt st)(hS:A7s st)(hok:F4 st=some (true,())):A04 st id sum=some ((A1m st id sum).1,(A1m st id sum).2,()):=by
  obtain ⟨g1,g2,g3,g4,⟨g5,g6⟩,_⟩:=h.g
  have hU:=h.up
  have hl:st.1.1.length≤1048576:=by omega
  have hul:=hU.2.1
  simp only [A04,A56,A4R st hS,hok,A7p id hid,bO,A1m]
  cases hidb:idB id with
  | false=>rfl
  | true=>
    simp only [Bool.not_true,cond_false,B6,if_true]
    rw [B8O st.2.2.2 id hU,B5H st g5 g6 hl]
    cases hh:G7 st.2.2.2 id with
    | false=>
      simp only [Bool.false_eq_true,if_false,bO]
      rw [A0 (show (-1:Int)<0 by omega)]
      rfl
    | true=>
      obtain ⟨hlt,hid2⟩:=I4.1 hh
      have hu:=hU.2.2 _ (List.getElem_mem hlt)
      have hdl:=A90 hU _ (List.getElem_mem hlt)
      rw [← C8 (k:=kUp) hlt] at hu hdl
      simp only [if_true,bO]
      rw [A3 (show ¬ (B4 st.2.2.2 id:Int)<0 by omega),A0 (show (0:Int)≤(B4 st.2.2.2 id:Int) by omega),A0 (show (B4 st.2.2.2 id:Int)<(st.2.2.2.length:Int) by omega)]
      simp only [cond_true,cond_false]
      rw [C4P _ hu.2.2.2 (by simp only [maxLen];omega)]
      simp only [bO]
      by_cases hd1:(List.length (rd kUp st.2.2.2 (B4 st.2.2.2 id:Int)).2.2.1:Int)<(rd kUp st.2.2.2 (B4 st.2.2.2 id:Int)).2.1
      · rw [A0 hd1,if_pos hd1]
        rfl
      rw [A3 hd1,if_neg hd1]
      simp only [cond_false]
      by_cases hc:sum=((A63 (rd kUp st.2.2.2 (B4 st.2.2.2 id:Int)).2.2.1 ^^^ 4294967295:Nat):Int)
      · rw [A0 hc,if_neg (fun hx=>hx hc)]
        simp only [Bool.not_true,cond_false]
        cases hdn:(rd kUp st.2.2.2 (B4 st.2.2.2 id:Int)).2.2.2 with
        | true=>rfl
        | false=>
          simp only [Bool.not_false,cond_true,cond_false,Bool.false_eq_true,if_false,bO]
          by_cases hleft:(st.1.1.length:Int)-st.2.2.1<1
          · rw [A0 hleft,if_pos hleft]
            rfl
          · rw [A3 hleft,if_neg hleft]
            simp only [cond_false]
            have hr:=A7t h.g 3 0 id hidb hleft (.inr ⟨.inl rfl,rfl⟩)
            have hf:=B5L hU hh hd1 (by rw [hdn];simp)
            rw [B1v st 0 0 3 id 0 [] hU hr A01 g5 (by omega) hl _ hf]
            rfl
      · rw [A3 hc,if_pos hc]
        rfl
theorem D22(st:A7)(id:ByteArray)(hid:id.size≤maxLen)(h:Rt st):A09 st id=some ((A4q st id).2,(A4q st id).1,()):=by
  obtain ⟨g1,g2,g3,g4,⟨g5,g6⟩,_⟩:=h.g
  have hU:=h.up
  have hl:st.1.1.length≤1048576:=by omega
  have hul:=hU.2.1
  simp only [A09,A5F,B1r id hid,bO,A4q]
  cases hidb:idB id with
  | false=>rfl
  | true=>
    simp only [Bool.not_true,cond_false,if_true,B6]
    rw [A7D st.2.2.2 id (by simp only [maxLen];omega),B5G st g5 g6 hl]
    cases hh:G7 st.2.2.2 id with
    | false=>
      simp only [Bool.false_eq_true,if_false,bO]
      rw [A0 (show (-1:Int)<0 by omega)]
      rfl
    | true=>
      simp only [if_true,bO]
      rw [A3 (show ¬ (B4 st.2.2.2 id:Int)<0 by omega)]
      simp only [cond_false,Bool.not_true]
      by_cases hleft:(st.1.1.length:Int)-st.2.2.1<1
      · rw [A0 hleft,if_pos hleft]
        rfl
      · rw [A3 hleft,if_neg hleft]
        simp only [cond_false]
        have hr:=A7t h.g 4 0 id hidb hleft (.inr ⟨.inr rfl,rfl⟩)
        have hf:=C0B (st:=st) hh
        have hwi:C6 ((st.1.1,st.1.2),(st.2.1,(st.2.2.1,st.2.2.2))) 4 id 0 []=_:=B1w st 4 id 0 [] hU hr A01 g5 (by omega) hl _ hf
        rw [hwi]
        rfl
theorem D23(st:A7)(id:ByteArray)(hid:id.size≤maxLen)(h:Rt st)(hS:A7s st)(hok:F4 st=some (true,())):A05 st id=some ((A4q st id).1,(A4q st id).2,()):=by
  obtain ⟨g1,g2,g3,g4,⟨g5,g6⟩,_⟩:=h.g
  have hU:=h.up
  have hl:st.1.1.length≤1048576:=by omega
  have hul:=hU.2.1
  simp only [A05,A57,A4R st hS,hok,A7p id hid,bO,A4q]
  cases hidb:idB id with
  | false=>rfl
  | true=>
    simp only [Bool.not_true,cond_false,B6,if_true]
    rw [B8O st.2.2.2 id hU,B5H st g5 g6 hl]
    cases hh:G7 st.2.2.2 id with
    | false=>
      simp only [Bool.false_eq_true,if_false,bO]
      rw [A0 (show (-1:Int)<0 by omega)]
      rfl
    | true=>
      simp only [if_true,bO]
      rw [A3 (show ¬ (B4 st.2.2.2 id:Int)<0 by omega)]
      simp only [cond_false]
      by_cases hleft:(st.1.1.length:Int)-st.2.2.1<1
      · rw [A0 hleft,if_pos hleft]
        rfl
      · rw [A3 hleft,if_neg hleft]
        simp only [cond_false]
        have hr:=A7t h.g 4 0 id hidb hleft (.inr ⟨.inr rfl,rfl⟩)
        have hf:=C0B (st:=st) hh
        rw [B1v st 0 0 4 id 0 [] hU hr A01 g5 (by omega) hl _ hf]
        rfl
theorem C7A{xs:List Int}(h:Byt xs):bytesOf (strOf xs)=xs:=by
  show ((strOfNums xs).data.toList.map fun b=>(b.toNat:Int))=xs
  rw [strOfNums_data,List.map_map]
  refine (List.map_congr_left fun x hx=>?_).trans (List.map_id _)
  have:=h x hx
  simp only [Function.comp,id]
  have e:(UInt8.ofNat x.toNat).toNat=x.toNat % 256:=UInt8.toNat_ofNat
  rw [e]
  omega
theorem C7B(s:ByteArray):strOf (bytesOf s)=s:=by
  refine B8N ?_
  rw [ByteArray.toList_eq,ByteArray.toList_eq]
  show ((bytesOf s).map fun n=>UInt8.ofNat n.toNat)=s.data.toList
  rw [bytesOf,List.map_map]
  refine (List.map_congr_left fun x hx=>?_).trans (List.map_id _)
  simp
theorem D24(n:Nat):IntKind.u8.wrap (n:Int)=((n % 256:Nat):Int):=by
  simp only [IntKind.wrap,IntKind.bits,IntKind.signed]
  simp
theorem D25(x y:Nat)(h:y<256):(x*256) ||| y=x*256+y:=by
  have:=Nat.two_pow_add_eq_or_of_lt (i:=8) (b:=y) (by simpa using h) x
  rw [Nat.mul_comm x 256]
  exact this.symm
theorem D26(p q:List Int)(n k:Nat):∀ j,j≤k→W7 (p++(big (n:Int) k++q)) p.length j=n / 2 ^ (8*(k-j)) % 2 ^ (8*j)
  | 0,_=>by simp [W7,Nat.mod_one]
  | j+1,hj=>by
    have ih:=D26 p q n k j (by omega)
    have hget:(p++(big (n:Int) k++q)).getD (p.length+j) 0=C4M (n:Int) k j:=by
      simp only [List.getD]
      rw [List.getElem?_append_right (by omega),Nat.add_sub_cancel_left,List.getElem?_append_left (by rw [J1];omega)]
      simp only [big,List.getElem?_map,List.getElem?_range (show j<k by omega),Option.map_some,Option.getD_some]
    have hat:C4M (n:Int) k j=((n / 2 ^ (8*(k-1-j)) % 256:Nat):Int):=by
      unfold C4M
      rw [← D24]
      congr 1
      rw [show (2:Int) ^ (8*(k-1-j))=((2 ^ (8*(k-1-j)):Nat):Int) by rw [Int.natCast_pow];rfl,Int.fdiv_eq_ediv_of_nonneg _ (Int.natCast_nonneg _),← Int.natCast_ediv]
    simp only [W7]
    rw [ih,hget,hat,Int.toNat_natCast,D25 _ _ (Nat.mod_lt _ (by omega))]
    rw [show k-1-j=k-(j+1) by omega]
    have e1:2 ^ (8*(k-j))=2 ^ (8*(k-(j+1)))*256:=by rw [show 8*(k-j)=8*(k-(j+1))+8 by omega,Nat.pow_add]
    have e2:2 ^ (8*(j+1))=256*2 ^ (8*j):=by rw [show 8*(j+1)=8+8*j by omega,Nat.pow_add]
    rw [e1,← Nat.div_div_eq_div_mul,e2,Nat.mod_mul]
    omega
theorem A7E{b:List Int}(p q:List Int)(n:Int)(k a:Nat)(h:b=p++(big n k++q))(ha:a=p.length)(h0:0≤n)(h1:n<2 ^ (8*k)):(W7 b a k:Int)=n:=by
  subst h;subst ha
  obtain ⟨m,rfl⟩:∃ m:Nat,n=(m:Int):=⟨n.toNat,by omega⟩
  rw [D26 p q m k k (Nat.le_refl _),Nat.sub_self,Nat.mul_zero,Nat.pow_zero,Nat.div_one]
  rw [show (2:Int) ^ (8*k)=((2 ^ (8*k):Nat):Int) by rw [Int.natCast_pow];rfl] at h1
  rw [Nat.mod_eq_of_lt (by omega)]
theorem C9u{r:G8}(h:B3x r):bytesOf (V6 r)=B2z r++big (A0D (E2v (B2z r))) 4:=by
  unfold V6
  exact C7A (C9n (C4U r h.2) (D6m _ _))
theorem E1t{r:G8}(h:P4 r=true)(c:List Int):B2z r++c=big r.1 3++(big r.2.1 2++(big r.2.2.1 1++(big (r.2.2.2.1.size:Int) 1++(bytesOf r.2.2.2.1++(big r.2.2.2.2.1 4++(big (List.length r.2.2.2.2.2:Int) 1++(r.2.2.2.2.2++c))))))):=by
  have hb:=A0F h
  have hq:0≤r.2.1:=by
    simp only [P4,Bool.and_eq_true] at h
    exact (of_decide_eq_true h.1.1.2).1
  unfold B2z
  rw [A4Q (n:=r.1) (by omega),A4Q (n:=r.2.1) hq,A4Q (n:=r.2.2.1) (by omega),A4Q (n:=(r.2.2.2.1.size:Int)) (by omega),A4Q (n:=r.2.2.2.2.1) (by omega),A4Q (n:=(List.length r.2.2.2.2.2:Int)) (by omega)]
  simp only [List.append_assoc]
theorem D85{r:G8}(h:P4 r=true):0≤r.2.1∧r.2.1≤199:=by
  simp only [P4,Bool.and_eq_true] at h
  exact of_decide_eq_true h.1.1.2
theorem D86{r:G8}(h:P4 r=true)(c:List Int):D6 (B2z r++c)=r.2.2.2.1.size∧O5 (B2z r++c)=List.length r.2.2.2.2.2∧recAt (B2z r++c)=r:=by
  have hb:=A0F h
  have hq:=D85 h
  have e:=E1t h c
  generalize B2z r++c=b at e
  have b6:(W7 b 6 1:Int)=(r.2.2.2.1.size:Int):=A7E (big r.1 3++(big r.2.1 2++big r.2.2.1 1)) _ _ 1 6 (by rw [e];simp only [List.append_assoc];rfl) (by simp [J1]) (by omega) (by omega)
  have hid:D6 b=r.2.2.2.1.size:=by unfold D6;omega
  have b11:(W7 b (11+D6 b) 1:Int)=(List.length r.2.2.2.2.2:Int):=
    A7E (big r.1 3++(big r.2.1 2++(big r.2.2.1 1++(big (r.2.2.2.1.size:Int) 1++(bytesOf r.2.2.2.1++big r.2.2.2.2.1 4))))) _ _ 1 _ (by rw [e];simp only [List.append_assoc];rfl) (by simp [J1,bytesOf_length,hid];omega) (by omega) (by omega)
  have hdl:O5 b=List.length r.2.2.2.2.2:=by unfold O5;omega
  refine ⟨hid,hdl,?_⟩
  have b0:(W7 b 0 3:Int)=r.1:=A7E [] _ _ 3 0 (by rw [e];rfl) rfl (by omega) (by omega)
  have b3:(W7 b 3 2:Int)=r.2.1:=A7E (big r.1 3) _ _ 2 3 (by rw [e]) (by simp [J1]) (by omega) (by omega)
  have b5:(W7 b 5 1:Int)=r.2.2.1:=A7E (big r.1 3++big r.2.1 2) _ _ 1 5 (by rw [e];simp only [List.append_assoc];rfl) (by simp [J1]) (by omega) (by omega)
  have b7:(W7 b (7+D6 b) 4:Int)=r.2.2.2.2.1:=A7E (big r.1 3++(big r.2.1 2++(big r.2.2.1 1++(big (r.2.2.2.1.size:Int) 1++bytesOf r.2.2.2.1)))) _ _ 4 _ (by rw [e];simp only [List.append_assoc];rfl) (by simp [J1,bytesOf_length,hid];omega) (by omega) (by omega)
  have t1:(b.take (7+D6 b)).drop 7=bytesOf r.2.2.2.1:=by
    have e7:b=(big r.1 3++(big r.2.1 2++(big r.2.2.1 1++big (r.2.2.2.1.size:Int) 1)))++(bytesOf r.2.2.2.1++(big r.2.2.2.2.1 4++(big (List.length r.2.2.2.2.2:Int) 1++(r.2.2.2.2.2++c)))):=by rw [e];simp only [List.append_assoc]
    have hl7:(big r.1 3++(big r.2.1 2++(big r.2.2.1 1++big (r.2.2.2.1.size:Int) 1))).length=7:=by simp [J1]
    rw [hid,List.drop_take,Nat.add_sub_cancel_left,e7,← hl7,List.drop_left,← bytesOf_length,List.take_left]
  have t2:(b.take (12+D6 b+O5 b)).drop (12+D6 b)=r.2.2.2.2.2:=by
    have e12:b=(big r.1 3++(big r.2.1 2++(big r.2.2.1 1++(big (r.2.2.2.1.size:Int) 1++(bytesOf r.2.2.2.1++(big r.2.2.2.2.1 4++big (List.length r.2.2.2.2.2:Int) 1))))))++(r.2.2.2.2.2++c):=by rw [e];simp only [List.append_assoc]
    have hl12:(big r.1 3++(big r.2.1 2++(big r.2.2.1 1++(big (r.2.2.2.1.size:Int) 1++(bytesOf r.2.2.2.1++(big r.2.2.2.2.1 4++big (List.length r.2.2.2.2.2:Int) 1)))))).length=12+r.2.2.2.1.size:=by simp [J1,bytesOf_length];omega
    rw [hid,hdl,List.drop_take,Nat.add_sub_cancel_left,e12,← hl12,List.drop_left,List.take_left]
  unfold recAt
  rw [b0,b3,b5,b7,t1,t2,C7B]
theorem C4j{r:G8}(h:B3x r):D3 (V6 r)=(r,true,()):=by
  have hpb:=C9u h
  obtain ⟨h1,h2,h3⟩:=D86 h.1 (big (A0D (E2v (B2z r))) 4)
  have hsz:(V6 r).size=12+r.2.2.2.1.size+List.length r.2.2.2.2.2+4:=by
    unfold V6
    rw [B1t,List.length_append,B3u,J1]
  have hg:A8y (V6 r)=true:=by
    unfold A8y
    rw [hpb,h1,h2,h3,hsz,A0 (by omega),h.1]
    simp
  unfold D3
  rw [if_pos hg,hpb,h3]
theorem D87{r:G8}(h:P4 r=true):(V6 r).size≤64:=by
  have hb:=A0F h
  unfold V6
  rw [B1t,List.length_append,B3u,J1]
  omega
def A1n(last:Int)(i:Nat)(s:ByteArray):Bool:=(D3 s).2.1&&decide ((D3 s).1.2.1=(i:Int))&&!decide ((D3 s).1.1<last)
def I6(last:Int)(i:Nat):List ByteArray→List G8
  | []=> []
  | s::l=>if A1n last i s=true then (D3 s).1::I6 (D3 s).1.1 (i+1) l else []
def B7(now:List ByteArray):List G8:=I6 0 0 now
def A0n:Int→List G8→Int
  | e,[]=>e
  | _,r::l=>A0n r.1 l
theorem A7F(last:Int)(i:Nat)(l:List ByteArray):(I6 last i l).length≤l.length:=by
  induction l generalizing last i with
  | nil=>exact Nat.le_refl _
  | cons s l ih=>
    simp only [I6]
    split
    · have:=ih (D3 s).1.1 (i+1);simp only [List.length_cons];omega
    · simp
theorem B7I(last:Int)(i:Nat)(l:List ByteArray):∀ r∈I6 last i l,B3x r:=by
  induction l generalizing last i with
  | nil=>intro r hr;cases hr
  | cons s l ih=>
    intro r hr
    simp only [I6] at hr
    split at hr
    · rename_i hg
      simp only [A1n,Bool.and_eq_true] at hg
      rcases List.mem_cons.1 hr with rfl | hr
      · exact C1M hg.1.1
      · exact ih _ _ r hr
    · cases hr
theorem E0H(last:Int)(i:Nat)(l:List ByteArray):last≤A0n last (I6 last i l)∧∀ r∈I6 last i l,r.1≤A0n last (I6 last i l):=by
  induction l generalizing last i with
  | nil=>exact ⟨Int.le_refl _,fun r hr=>by cases hr⟩
  | cons s l ih=>
    simp only [I6]
    split
    · rename_i hg
      obtain ⟨h1,h2⟩:=ih (D3 s).1.1 (i+1)
      simp only [A1n,Bool.and_eq_true,Bool.not_eq_true',decide_eq_false_iff_not] at hg
      have h3:=hg.2
      simp only [A0n]
      refine ⟨by omega,fun r hr=>?_⟩
      rcases List.mem_cons.1 hr with rfl | hr
      · exact h1
      · exact h2 r hr
    · exact ⟨Int.le_refl _,fun r hr=>by cases hr⟩
theorem C8g(last:Int)(i:Nat)(a b:List ByteArray)(h:(I6 last i a).length=a.length):I6 last i (a++b)=I6 last i a++I6 (A0n last (I6 last i a)) (i+a.length) b:=by
  induction a generalizing last i with
  | nil=>simp [I6,A0n]
  | cons s a ih=>
    simp only [I6,List.cons_append] at h ⊢
    split
    · rename_i hg
      rw [if_pos hg] at h
      simp only [List.length_cons,Nat.add_right_cancel_iff] at h
      rw [ih _ _ h,List.cons_append,A0n,List.length_cons]
      congr 3
      omega
    · rename_i hg
      rw [if_neg hg] at h
      simp at h
theorem D4w(last:Int)(i:Nat)(l:List ByteArray):I6 last i (l.take (I6 last i l).length)=I6 last i l:=by
  induction l generalizing last i with
  | nil=>rfl
  | cons s l ih=>
    simp only [I6]
    split
    · rename_i hg
      simp only [List.length_cons,List.take_succ_cons,I6,if_pos hg,ih]
    · rfl
theorem B7J(last:Int)(i:Nat)(l:List ByteArray)(h:∀ s,l.head? = some s→A1n last i s=false):I6 last i l = []:=by
  cases l with
  | nil=>rfl
  | cons s l=>simp only [I6,h s rfl,Bool.false_eq_true,if_false]
theorem B1x(last:Int)(i:Nat)(s:ByteArray)(l:List ByteArray):I6 last i (s::l)=bif A1n last i s then (D3 s).1::I6 (D3 s).1.1 (i+1) l else []:=by
  simp only [I6]
  cases A1n last i s<;>rfl
set_option maxRecDepth 100000 in
theorem C8h(d:F5)(h:B3z d.1):X4 d=some (B7 d.1,()):=by
  have hl:=h.1
  obtain ⟨z,e,hz⟩:=A0C (R7 K4 d) (fun l=>((d.1.length:Int)-l.2.1).toNat) (fun l=>∃ i:Nat,l.2.1=(i:Int)∧i≤d.1.length∧List.length l.2.2.1=i∧B7 d.1=l.2.2.1++I6 l.1 i (d.1.drop i))
    (fun z=>z=(B7 d.1,())) (fun l hl=>by
      obtain ⟨i,h0,h1,h2,h3⟩:=hl
      simp only [R7]
      by_cases hi:i<d.1.length
      · rw [h0,A0 (show (i:Int)<(d.1.length:Int) by omega),A0 (show (0:Int)≤(i:Int) by omega)]
        simp only [cond_true]
        rw [A66 _ (A92 h hi)]
        simp only [A4]
        rw [A5K hi]
        have hdrop:d.1.drop i=d.1[i]::d.1.drop (i+1):=List.drop_eq_getElem_cons hi
        rw [hdrop] at h3
        rw [B1x] at h3
        simp only [A1n] at h3
        obtain ⟨g,hg⟩:∃ g,D3 d.1[i]=g:=⟨_,rfl⟩
        rw [hg] at h3 ⊢
        cases hk:g.2.1 with
        | false=>
          rw [hk] at h3
          simp only [Bool.false_and,cond_false,List.append_nil] at h3
          exact .inr ⟨_,rfl,by rw [h3]⟩
        | true=>
          rw [hk] at h3
          simp only [Bool.true_and] at h3
          simp only [Bool.not_true,cond_false]
          by_cases e1:g.1.2.1=(i:Int)
          · rw [A0 e1] at h3 ⊢
            by_cases e2:g.1.1<l.1
            · rw [A0 e2] at h3 ⊢
              simp only [Bool.not_true,Bool.and_false,cond_false,List.append_nil] at h3
              exact .inr ⟨_,rfl,by rw [h3]⟩
            · rw [A3 e2] at h3 ⊢
              simp only [Bool.not_false,Bool.and_true,cond_true,Bool.true_and] at h3
              simp only [Bool.not_true,cond_false]
              rw [A0 (by simp;omega),A0 (by simp;omega),w64 (by omega) (by omega)]
              refine .inl ⟨_,rfl,⟨i+1,by simp only;omega,by omega,by simp;omega,?_⟩,by simp only;omega⟩
              simp only
              rw [h3,List.append_assoc]
              rfl
          · rw [A3 e1] at h3 ⊢
            simp only [Bool.false_and,cond_false,List.append_nil] at h3
            exact .inr ⟨_,rfl,by rw [h3]⟩
      · rw [h0,A3 (show ¬ (i:Int)<(d.1.length:Int) by omega)]
        rw [List.drop_eq_nil_of_le (by omega)] at h3
        simp only [I6,List.append_nil] at h3
        exact .inr ⟨_,rfl,by rw [h3]⟩) (0,0,[],()) ⟨0,rfl,by omega,rfl,by simp [B7]⟩
  have e':X4 d=some z:=e
  rw [e',hz]
structure GoodS (st:A7):Prop where
  dk:A6W st.1=true
  ep:0≤st.2.1∧st.2.1≤10000
  up:I1 [] (B7 st.1.1)=some st.2.2.2
  nx:st.2.2.1=(List.length (B7 st.1.1):Int)
  le:A0n 0 (B7 st.1.1)≤st.2.1
  tl:((st.1.1.drop (B7 st.1.1).length).all fun s=>!A2c st.2.1 s)=true
theorem A93{d:F5}(h:A6W d=true):B0L d∧d.1.length=d.2.length∧d.1.length≤200∧(∀ s∈d.1,s.size≤64)∧∀ s∈d.2,s.size≤64:=by
  simp only [A6W,Bool.and_eq_true] at h
  obtain ⟨h1,h2⟩:=h
  have h1:=of_decide_eq_true h1
  have k1:∀ s∈d.1,s.size≤64:=fun s hs=>by
    obtain ⟨i,hi,rfl⟩:=List.getElem_of_mem hs
    have:=List.all_eq_true.1 h2 i (List.mem_range.2 hi)
    simp only [Bool.and_eq_true,Bool.not_eq_true',decide_eq_false_iff_not] at this
    have h3:=this.1
    rw [A5K hi] at h3
    omega
  have k2:∀ s∈d.2,s.size≤64:=fun s hs=>by
    obtain ⟨i,hi,rfl⟩:=List.getElem_of_mem hs
    have:=List.all_eq_true.1 h2 i (List.mem_range.2 (by omega))
    simp only [Bool.and_eq_true,Bool.not_eq_true',decide_eq_false_iff_not] at this
    have h3:=this.2
    rw [A5K hi] at h3
    omega
  exact ⟨⟨⟨by omega,fun s hs=>by have:=k1 s hs;omega⟩,by omega,fun s hs=>by have:=k2 s hs;omega⟩,h1.1,h1.2,k1,k2⟩
theorem C4k{d:F5}(h1:d.1.length=d.2.length)(h2:d.1.length≤200)(h3:∀ s∈d.1,s.size≤64)(h4:∀ s∈d.2,s.size≤64):A6W d=true:=by
  simp only [A6W,Bool.and_eq_true]
  refine ⟨decide_eq_true ⟨h1,h2⟩,List.all_eq_true.2 fun i hi=>?_⟩
  have hi:=List.mem_range.1 hi
  rw [A5K hi,A5K (show i<d.2.length by omega)]
  have k1:=h3 _ (List.getElem_mem hi)
  have k2:=h4 _ (List.getElem_mem (show i<d.2.length by omega))
  rw [A3 (by omega),A3 (by omega)]
  rfl
theorem D4x(l:List G8)(h:0<l.length)(e:Int):(rd A6l l ((l.length:Int)-1)).1=A0n e l:=by
  induction l generalizing e with
  | nil=>simp at h
  | cons r l ih=>
    cases l with
    | nil=>rfl
    | cons r' l=>
      have h2:=ih (by simp) r.1
      simp only [A0n] at h2 ⊢
      rw [← h2]
      have e1:((r::r'::l).length:Int)-1=(((l.length+1):Nat):Int):=by simp only [List.length_cons];omega
      have e2:((r'::l).length:Int)-1=((l.length:Nat):Int):=by simp only [List.length_cons];omega
      rw [e1,e2,C8 (k:=A6l) (xs:=r::r'::l) (by simp),C8 (k:=A6l) (xs:=r'::l) (by simp)]
      rfl
theorem D27(st:A7)(h:B3z st.1.1)(hb:∀ u∈st.2.2.2,Byt u.2.2.1):∃ b,F4 st=some (b,())∧A1a st=some (b,())∧(b=true↔GoodS st):=by
  obtain ⟨b,hs,hi,_⟩:=C4a st h
  refine ⟨b,hs,hi,?_⟩
  have hl:=h.1
  have hrg:=B7I 0 0 st.1.1
  have hll:=A7F 0 0 st.1.1
  have hfs:=A9k (B7 st.1.1) (by simp only [maxLen,B7];omega) hrg
  simp only [F4,A8a,B40,C8h st.1 h,hfs,N6,A4] at hs
  have hsc:I6 0 0 st.1.1=B7 st.1.1:=rfl
  rw [hsc] at hrg hll
  cases hbd:A6W st.1 with
  | false=>
    rw [hbd] at hs
    have:b=false:=by
      simp only [Bool.not_false,cond_true] at hs
      first | (injection hs with hs;injection hs with hs;exact hs.symm) | (simp [B6] at hs;exact hs.symm)
    rw [this]
    exact ⟨fun e=>by (cases e),fun g=>by rw [g.dk] at hbd;cases hbd⟩
  | true=>
    rw [hbd] at hs
    simp only [Bool.not_true,cond_false] at hs
    by_cases he:0≤st.2.1∧st.2.1≤10000
    · rw [A0 he] at hs
      simp only [Bool.not_true,cond_false,B6] at hs
      unfold A2b at hs
      cases hf:I1 [] (B7 st.1.1) with
      | none=>
        rw [hf] at hs
        have:b=false:=by
          first | (injection hs with hs;injection hs with hs;exact hs.symm) | (simp at hs;exact hs.symm)
        rw [this]
        exact ⟨fun e=>by (cases e),fun g=>by rw [g.up] at hf;cases hf⟩
      | some us=>
        have hu:=A91 C3V hrg hf
        have hul:=hu.2.1
        rw [hf] at hs
        simp only at hs
        rw [C8c _ _ (show us.length≤maxLen by simp only [maxLen];omega)] at hs
        simp only [Bool.not_true,cond_false] at hs
        cases hsm:A0m us st.2.2.2 with
        | false=>
          rw [hsm] at hs
          have:b=false:=by
            first | (injection hs with hs;injection hs with hs;exact hs.symm) | (simp at hs;exact hs.symm)
          rw [this]
          refine ⟨fun e=>by (cases e),fun g=>?_⟩
          have:=g.up
          rw [hf] at this
          injection this with this
          rw [this,B5t] at hsm
          cases hsm
        | true=>
          have heq:=D4o (fun u hu'=>(hu.2.2 u hu').2.2.2) hb hsm
          rw [hsm] at hs
          simp only [Bool.not_true,cond_false] at hs
          by_cases hn:st.2.2.1=(List.length (B7 st.1.1):Int)
          · rw [A0 hn] at hs
            simp only [Bool.not_true,cond_false] at hs
            have htail:=C8d st h (B7 st.1.1).length hll
            rw [hn] at hs
            rw [htail] at hs
            by_cases hl0:(List.length (B7 st.1.1):Int)>0
            · rw [A0 hl0,w64 (n:=(List.length (B7 st.1.1):Int)-1) (by omega) (by omega),A0 (show (0:Int)≤(List.length (B7 st.1.1):Int)-1 by omega),A0 (show (List.length (B7 st.1.1):Int)-1<(List.length (B7 st.1.1):Int) by omega),D4x (B7 st.1.1) (by omega) 0] at hs
              simp only [cond_true] at hs
              by_cases hle:A0n 0 (B7 st.1.1)>st.2.1
              · rw [A0 hle] at hs
                have:b=false:=by
                  first | (injection hs with hs;injection hs with hs;exact hs.symm) | (simp at hs;exact hs.symm)
                rw [this]
                exact ⟨fun e=>by (cases e),fun g=>by have:=g.le;omega⟩
              · rw [A3 hle] at hs
                simp only [cond_false] at hs
                have:b=((st.1.1.drop (B7 st.1.1).length).all fun s=>!A2c st.2.1 s):=by
                  first | (injection hs with hs;injection hs with hs;exact hs.symm) | (simp at hs;exact hs.symm)
                rw [this]
                exact ⟨fun e=>⟨hbd,he,by rw [hf,heq],hn,by omega,e⟩,fun g=>g.tl⟩
            · rw [A3 hl0] at hs
              simp only [cond_false] at hs
              have:b=((st.1.1.drop (B7 st.1.1).length).all fun s=>!A2c st.2.1 s):=by
                first | (injection hs with hs;injection hs with hs;exact hs.symm) | (simp at hs;exact hs.symm)
              rw [this]
              have hnil:B7 st.1.1 = []:=List.length_eq_zero_iff.1 (by omega)
              exact ⟨fun e=>⟨hbd,he,by rw [hf,heq],hn,by rw [hnil];exact he.1,e⟩,fun g=>g.tl⟩
          · rw [A3 hn] at hs
            have:b=false:=by
              first | (injection hs with hs;injection hs with hs;exact hs.symm) | (simp at hs;exact hs.symm)
            rw [this]
            exact ⟨fun e=>by (cases e),fun g=>absurd g.nx hn⟩
    · rw [A3 he] at hs
      have:b=false:=by
        first | (injection hs with hs;injection hs with hs;exact hs.symm) | (simp [B6] at hs;exact hs.symm)
      rw [this]
      exact ⟨fun e=>by (cases e),fun g=>absurd g.ep he⟩
theorem C9v{st:A7}(h:GoodS st)(hr:Ups st.2.2.2):Rt st:=by
  obtain ⟨k1,k2,k3,k4,k5⟩:=A93 h.dk
  have:=A7F 0 0 st.1.1
  have hn:=h.nx
  exact ⟨⟨h.ep.1,h.ep.2,k2,k3,by simp only [B7] at hn;omega,st.2.2.2,hr,B5t _⟩,hr,k1⟩
theorem B43{st:A7}(h:GoodS st):Ups st.2.2.2:=A91 C3V (B7I 0 0 st.1.1) h.up
theorem B44:∀ (l l':List G8) (us:List TUp),I1 us (l++l')=(I1 us l).bind fun us'=>I1 us' l'
  | [],l',us=>rfl
  | r::l,l',us=>by
    simp only [List.cons_append,I1]
    cases K1 us r with
    | none=>rfl
    | some us'=>exact B44 l l' us'
theorem D88(l:List G8)(r:G8)(e:Int):A0n e (l ++ [r])=r.1:=by
  induction l generalizing e with
  | nil=>rfl
  | cons x l ih=>exact ih x.1
theorem B7K{st:A7}(h:GoodS st){r:G8}(hr:B3x r)(h1:r.1=st.2.1)(h2:r.2.1=st.2.2.1)(hlt:st.2.2.1<(st.1.1.length:Int)){us:List TUp}(hf:K1 st.2.2.2 r=some us) :
    GoodS (wrote st r us)∧B7 (wrote st r us).1.1=B7 st.1.1 ++ [r]:=by
  obtain ⟨k1,k2,k3,k4,k5⟩:=A93 h.dk
  have hn:=h.nx
  generalize hL:B7 st.1.1=L at *
  have hll:L.length≤st.1.1.length:=by rw [← hL];exact A7F 0 0 st.1.1
  have hlt':L.length<st.1.1.length:=by omega
  have hto:st.2.2.1.toNat=L.length:=by omega
  have hset:st.1.1.set L.length (V6 r)=st.1.1.take L.length++V6 r::st.1.1.drop (L.length+1):=by
    rw [List.set_eq_take_append_cons_drop,if_pos hlt']
  have htake:I6 0 0 (st.1.1.take L.length)=L:=by
    have:=D4w 0 0 st.1.1
    rw [show I6 0 0 st.1.1=L from hL] at this
    exact this
  have hgo:A1n (A0n 0 L) L.length (V6 r)=true:=by
    simp only [A1n,C4j hr,Bool.true_and]
    rw [h1,h2,A0 (by omega),A3 (by have:=h.le;rw [hL] at this;omega)]
    rfl
  have htl:=h.tl
  rw [hL] at htl
  have hscan:B7 (wrote st r us).1.1=L ++ [r]:=by
    show I6 0 0 (st.1.1.set st.2.2.1.toNat (V6 r))=_
    rw [hto,hset,C8g _ _ _ _ (by rw [htake,List.length_take];omega),htake]
    congr 1
    have hle:(st.1.1.take L.length).length=L.length:=by rw [List.length_take];omega
    simp only [I6,hle,Nat.zero_add,hgo,if_true,C4j hr]
    congr 1
    refine B7J _ _ _ fun s hs=>?_
    have hmem:s∈st.1.1.drop (L.length+1):=List.mem_of_mem_head? hs
    have hmem2:s∈st.1.1.drop L.length:=by
      rw [List.drop_eq_getElem_cons hlt']
      exact List.mem_cons_of_mem _ hmem
    have:=List.all_eq_true.1 htl s hmem2
    simp only [A2c,Bool.not_eq_true',Bool.and_eq_false_iff,decide_eq_false_iff_not] at this
    simp only [A1n,h1]
    rcases this with h3 | h3
    · rw [h3];rfl
    · rw [A0 (show (D3 s).1.1<st.2.1 by omega)]
      simp
  have hlen:(L ++ [r]).length=L.length+1:=by simp
  refine ⟨⟨?_,h.ep,?_,?_,?_,?_⟩,hscan⟩
  · refine C4k ?_ ?_ (fun s hs=>?_) k5
    · show (st.1.1.set _ _).length=_;rw [List.length_set];exact k2
    · show (st.1.1.set _ _).length≤_;rw [List.length_set];exact k3
    · rcases List.mem_or_eq_of_mem_set hs with hs | rfl
      · exact k4 s hs
      · exact D87 hr.1
  · have hup:=h.up
    rw [hL] at hup
    rw [hscan,B44,hup]
    show I1 st.2.2.2 [r]=some us
    simp only [I1,hf]
  · rw [hscan,hlen]
    show st.2.2.1+1=_
    omega
  · rw [hscan,D88,h1]
    exact Int.le_refl _
  · rw [hscan,hlen]
    show ((st.1.1.set st.2.2.1.toNat (V6 r)).drop (L.length+1)).all _=true
    rw [hto,List.drop_set_of_lt (by omega)]
    rw [List.drop_eq_getElem_cons hlt',List.all_cons,Bool.and_eq_true] at htl
    exact htl.2
def U8(now sure:List ByteArray)(k:List Bool):List ByteArray:=(List.range now.length).map fun i=>bif k.getD i false then now.getD i ⟨#[]⟩ else sure.getD i ⟨#[]⟩
def D6r(d:F5)(k:List Bool):F5:=(U8 d.1 d.2 k,U8 d.1 d.2 k)
theorem B8Q(now sure:List ByteArray)(k:List Bool):(U8 now sure k).length=now.length:=by simp [U8]
theorem B8R{now sure:List ByteArray}{k:List Bool}(h:now.length=sure.length){i:Nat}(hi:i<now.length):(U8 now sure k)[i]? = if k.getD i false=true then now[i]? else sure[i]?:=by
  simp only [U8,List.getElem?_map,List.getElem?_range hi,Option.map_some]
  rw [List.getElem?_eq_getElem hi,List.getElem?_eq_getElem (show i<sure.length by omega)]
  have e1:now.getD i ⟨#[]⟩=now[i]:=by simp [List.getD,hi]
  have e2:sure.getD i ⟨#[]⟩=sure[i]'(by omega):=by simp [List.getD,show i<sure.length by omega]
  rw [e1,e2]
  by_cases hb:k.getD i false=true
  · rw [if_pos hb,hb];rfl
  · rw [if_neg hb,Bool.eq_false_iff.2 hb];rfl
def A72{α:Type}(l x:List α)(i:Nat):List α:=l.take i++x.drop i
theorem B8S{α:Type}{l x:List α}(h:l.length=x.length)(i:Nat):(A72 l x i).length=x.length:=by simp [A72];omega
theorem B8T{α:Type}{l x:List α}(h:l.length=x.length){i:Nat}(hi:i<l.length):(A72 l x i).set i l[i]=A72 l x (i+1):=by
  have hl:(l.take i).length=i:=by rw [List.length_take];omega
  unfold A72
  rw [List.drop_eq_getElem_cons (show i<x.length by omega)]
  have e:(l.take i++x[i]'(by omega)::x.drop (i+1)).set i l[i]=l.take i++(x[i]'(by omega)::x.drop (i+1)).set (i-(l.take i).length) l[i]:=List.set_append_right _ _ (by omega)
  rw [e,hl,Nat.sub_self,List.set_cons_zero,List.take_succ_eq_append_getElem hi,List.append_assoc]
  rfl
theorem C8i{α:Type}{l x:List α}(h:l.length=x.length){i:Nat}(hi:i<l.length)(he:l[i]? = x[i]?):A72 l x i=A72 l x (i+1):=by
  unfold A72
  rw [List.drop_eq_getElem_cons (show i<x.length by omega),List.take_succ_eq_append_getElem hi,List.append_assoc]
  rw [List.getElem?_eq_getElem hi,List.getElem?_eq_getElem (show i<x.length by omega)] at he
  injection he with he
  rw [he]
  rfl
theorem C4l{α:Type}{l x:List α}(h:l.length=x.length){i:Nat}(hi:i<x.length):(A72 l x i)[i]? = x[i]?:=by
  unfold A72
  rw [List.getElem?_append_right (by rw [List.length_take];omega),List.length_take,Nat.min_eq_left (by omega),Nat.sub_self,List.getElem?_drop,Nat.add_zero]
theorem D89(d:F5)(k:List Bool)(hd:A6W d=true):A43 d k=some (D6r d k,()):=by
  obtain ⟨hS,hlen,h200,_,_⟩:=A93 hd
  have hml:=B8Q d.1 d.2 k
  simp only [A43,B1P,A9l d hS,B40,hd,bO,Bool.not_true,cond_false]
  have key:=D7 (A42 k) (fun i=>((i:Int),A72 (U8 d.1 d.2 k) d.1 i,A72 (U8 d.1 d.2 k) d.2 i,())) d.1.length (D6r d k,()) (fun i hi=>?_) ?_
  · exact key
  · have l1:=B8S (l:=U8 d.1 d.2 k) (x:=d.1) hml i
    have l2:=B8S (l:=U8 d.1 d.2 k) (x:=d.2) (by omega) i
    have g1:=C4l (l:=U8 d.1 d.2 k) (x:=d.1) hml hi
    have g2:=C4l (l:=U8 d.1 d.2 k) (x:=d.2) (by omega) (show i<d.2.length by omega)
    have hm:=B8R (k:=k) hlen hi
    have hmi:i<(U8 d.1 d.2 k).length:=by omega
    simp only [A42,l1]
    rw [A0 (show (i:Int)<(d.1.length:Int) by omega)]
    have hb:(bif decide ((i:Int)<(k.length:Int)) then bif decide (0≤(i:Int)) then bif decide ((i:Int)<(k.length:Int)) then (some ((rd .bool k (i:Int)),()):Option (Bool×Unit)) else none else none else some (false,()))=some (k.getD i false,()):=by
      by_cases hik:i<k.length
      · rw [A0 (show (i:Int)<(k.length:Int) by omega),A0 (show (0:Int)≤(i:Int) by omega)]
        simp only [cond_true]
        rw [C8 (k:=.bool) hik]
        simp [List.getD,hik]
      · rw [A3 (show ¬ (i:Int)<(k.length:Int) by omega)]
        simp [List.getD,List.getElem?_eq_none (show k.length≤i by omega)]
    rw [hb]
    simp only [cond_true,bO,l2,hlen]
    rw [A0 (show (0:Int)≤(i:Int) by omega),A0 (show (i:Int)<(d.2.length:Int) by omega),w64 (by omega) (by omega)]
    have r1:rd .str (A72 (U8 d.1 d.2 k) d.1 i) (i:Int)=d.1[i]:=by
      rw [A5K (by omega)]
      have:=g1
      rw [List.getElem?_eq_getElem (by omega),List.getElem?_eq_getElem hi] at this
      injection this
    have r2:rd .str (A72 (U8 d.1 d.2 k) d.2 i) (i:Int)=d.2[i]:=by
      rw [A5K (by omega)]
      have:=g2
      rw [List.getElem?_eq_getElem (by omega),List.getElem?_eq_getElem (show i<d.2.length by omega)] at this
      injection this
    rw [r1,r2,Int.toNat_natCast]
    rw [List.getElem?_eq_getElem hmi,List.getElem?_eq_getElem hi,List.getElem?_eq_getElem (show i<d.2.length by omega)] at hm
    cases hkb:k.getD i false with
    | true=>
      rw [hkb,if_pos rfl] at hm
      injection hm with hm
      simp only [cond_true]
      rw [← hm,B8T (by omega) hmi,C8i (l:=U8 d.1 d.2 k) (x:=d.1) hml hmi (by rw [List.getElem?_eq_getElem hmi,List.getElem?_eq_getElem hi,hm])]
      rfl
    | false=>
      rw [hkb,if_neg (by simp)] at hm
      injection hm with hm
      simp only [cond_true,cond_false]
      rw [← hm,B8T hml hmi,C8i (l:=U8 d.1 d.2 k) (x:=d.2) (by omega) hmi (by rw [List.getElem?_eq_getElem hmi,List.getElem?_eq_getElem (show i<d.2.length by omega),hm])]
      rfl
  · have e1:A72 (U8 d.1 d.2 k) d.1 d.1.length=U8 d.1 d.2 k:=by unfold A72;rw [List.drop_length,List.append_nil,List.take_of_length_le (by omega)]
    have e2:A72 (U8 d.1 d.2 k) d.2 d.1.length=U8 d.1 d.2 k:=by unfold A72;rw [hlen,List.drop_length,List.append_nil,List.take_of_length_le (by omega)]
    simp only [A42,e1,e2]
    rw [A3 (by omega)]
    rfl
theorem D28(last:Int)(i:Nat)(l:List ByteArray)(j:Nat):I6 last i (l.take j)=(I6 last i l).take j:=by
  induction l generalizing last i j with
  | nil=>simp [I6]
  | cons s l ih=>
    cases j with
    | zero=>simp [I6]
    | succ j=>
      simp only [List.take_succ_cons,B1x,ih]
      cases A1n last i s<;>simp
theorem C8j(last:Int)(j:Nat)(l:List ByteArray)(i:Nat)(hi:i<(I6 last j l).length):∃ s,l[i]? = some s∧D3 s=((I6 last j l)[i],true,()):=by
  induction l generalizing last j i with
  | nil=>simp [I6] at hi
  | cons s l ih=>
    have e:=B1x last j s l
    cases hg:A1n last j s with
    | false=>rw [hg] at e;rw [e] at hi;simp at hi
    | true=>
      rw [hg] at e
      simp only [cond_true] at e
      cases i with
      | zero=>
        refine ⟨s,rfl,?_⟩
        simp only [A1n,Bool.and_eq_true] at hg
        have h0:(I6 last j (s::l))[0]=(D3 s).1:=by simp only [e];rfl
        rw [h0]
        have:=hg.1.1
        generalize D3 s=g at this
        obtain ⟨a,b,u⟩:=g
        simp only at this
        rw [this]
      | succ i=>
        have hi2:i<(I6 (D3 s).1.1 (j+1) l).length:=by rw [e] at hi;simpa using hi
        obtain ⟨s',h1,h2⟩:=ih _ _ i hi2
        refine ⟨s',h1,?_⟩
        rw [h2]
        congr 1
        simp only [e,List.getElem_cons_succ]
end Go.Proofs.YtpdcljonclhhpaaGreat.Ev
