/- What the plain functions of the program and of the reference answer: laws of plain data. -/
import Derived.Test.YtfnmpcbehimkgaaPu
import Derived.Laws.Strings
set_option linter.unusedVariables false
set_option linter.unusedSimpArgs false
namespace Go.Proofs.Ytfnmpcbehimkgaa.Ev
theorem w64{n:Int}(h0:-9223372036854775808≤n)(h1:n<9223372036854775808):IntKind.i64.wrap n=n:=by
  simp only [IntKind.wrap,IntKind.bits,IntKind.signed,Bool.true_and]
  simp
  split<;>omega
theorem A0Q{α β:Type}(f:α→Option (α⊕β))(μ:α→Nat)(I:α→Prop)(Q:β→Prop)
    (h:∀ x,I x→(∃ y,f x=some (.inl y)∧I y∧μ y<μ x)∨∃ z,f x=some (.inr z)∧Q z):∀ x,I x→∃ z,C3 f x=some z∧Q z:=by
  intro x
  generalize hn:μ x=n
  induction n using Nat.strongRecOn generalizing x with
  | ind n ih=>
    intro hx
    rw [V5]
    rcases h x hx with ⟨y,e,hy,hl⟩ | ⟨z,e,hz⟩
    · rw [e];exact ih (μ y) (by omega) y rfl hy
    · rw [e];exact ⟨z,rfl,hz⟩
theorem I7{α β:Type}(f:α→Option (α⊕β))(s:Nat→α)(n:Nat)(z:β)(h:∀ i,i<n→f (s i)=some (.inl (s (i+1))))(he:f (s n)=some (.inr z)):C3 f (s 0)=some z:=by
  have key:∀ k i,i+k=n→C3 f (s i)=some z:=by
    intro k
    induction k with
    | zero=>intro i hi;rw [V5,show i=n by omega,he]
    | succ k ih=>intro i hi;rw [V5,h i (by omega)];exact ih (i+1) (by omega)
  exact key n 0 (by omega)
theorem B9V{α β:Type}(f:α→Option (α⊕β))(s:Nat→α)(n:Nat)(z:Nat→β)(go:Nat→Bool)(h:∀ i,i<n→f (s i)=if go i then some (.inl (s (i+1))) else some (.inr (z i)))(he:f (s n)=some (.inr (z n))) :
    ∃ i,i≤n∧(∀ j,j<i→go j=true)∧(i<n→go i=false)∧C3 f (s 0)=some (z i):=by
  have key:∀ k i,i+k=n→(∀ j,j<i→go j=true)→∃ i',i'≤n∧(∀ j,j<i'→go j=true)∧(i'<n→go i' = false)∧C3 f (s i)=some (z i'):=by
    intro k
    induction k with
    | zero=>
      intro i hi hg
      obtain rfl:i=n:=by omega
      exact ⟨i,Nat.le_refl _,hg,fun h=>absurd h (by omega),by rw [V5,he]⟩
    | succ k ih=>
      intro i hi hg
      cases hgo:go i with
      | true=>
        obtain ⟨i',h1,h2,h3,h4⟩:=ih (i+1) (by omega) (fun j hj=>by
          by_cases h:j<i
          · exact hg j h
          · rw [show j=i by omega];exact hgo)
        refine ⟨i',h1,h2,h3,?_⟩
        rw [V5,h i (by omega),if_pos hgo]
        exact h4
      | false=>
        refine ⟨i,by omega,hg,fun _=>hgo,?_⟩
        rw [V5,h i (by omega),hgo]
        rfl
  exact key n 0 (by omega) (fun j hj=>by omega)
theorem C6T(s:ByteArray)(i:Int):0≤bt s i:=by unfold bt;omega
theorem C6U(s:ByteArray)(i:Int):bt s i<256:=by
  have:=(s.data.toList.getD i.toNat 0).toNat_lt
  unfold bt;omega
theorem C68(s:ByteArray)(i:Int):IntKind.i64.wrap (bt s i)=bt s i:=w64 (by have:=C6T s i;omega) (by have:=C6U s i;omega)
theorem E0{k:K}{xs:List k.T}{i:Nat}(h:i<xs.length):rd k xs (i:Int)=xs[i]:=by
  unfold rd
  rw [Int.toNat_natCast]
  simp [List.getD,h]
theorem B3E{κ:IntKind}{xs:List Int}{i:Nat}(h:i<xs.length):rd (.int κ) xs (i:Int)=xs[i]:=E0 (k:=.int κ) h
theorem A1U{xs:List ByteArray}{i:Nat}(h:i<xs.length):rd .str xs (i:Int)=xs[i]:=E0 (k:=.str) h
def Byt(a:List Int):Prop:=∀ x∈a,0≤x∧x<256
theorem A0{p:Prop} [Decidable p] (h:p):decide p=true:=decide_eq_true h
theorem A4{p:Prop} [Decidable p] (h:¬ p):decide p=false:=decide_eq_false h
def Sm(N:Nat):(k:K)→k.T→Prop
  | .int _,_=>True
  | .bool,_=>True
  | .fnc _,_=>True
  | .str,s=>s.size≤N
  | .sl _ k,xs=>xs.length≤N∧∀ x∈xs,Sm N k x
  | .rs _ k,xs=>xs.length≤N∧∀ x∈xs,Sm N k x
  | .pair a b,x=>Sm N a x.1∧Sm N b x.2
theorem Sm.l{N:Nat}{a b:K}{x:(K.pair a b).T}(h:Sm N (.pair a b) x):Sm N a x.1:=h.1
theorem Sm.r{N:Nat}{a b:K}{x:(K.pair a b).T}(h:Sm N (.pair a b) x):Sm N b x.2:=h.2
theorem A72{α β:Type}{f g:α→Option (α⊕β)}(I:α→Prop)(h:∀ x,I x→f x=g x)(hI:∀ x y,I x→f x=some (.inl y)→I y):∀ n x,I x→A2J f n x=A2J g n x
  | 0,_,_=>rfl
  | n+1,x,hx=>by
    simp only [A2J,← h x hx]
    cases e:f x with
    | none=>rfl
    | some v=>
      cases v with
      | inl y=>exact A72 I h hI n y (hI x y hx e)
      | inr z=>rfl
theorem B7a{α β:Type}{f g:α→Option (α⊕β)}(I:α→Prop)(h:∀ x,I x→f x=g x)(hI:∀ x y,I x→f x=some (.inl y)→I y){x:α}(hx:I x):C3 f x=C3 g x:=by
  cases e:C3 g x with
  | some z=>
    obtain ⟨n,hn⟩:=A1G e
    exact A6i (n:=n) (by rw [A72 I h hI n x hx];exact hn)
  | none=>
    cases e':C3 f x with
    | none=>rfl
    | some z=>
      obtain ⟨n,hn⟩:=A1G e'
      rw [A72 I h hI n x hx] at hn
      rw [A6i hn] at e
      cases e
def K3(go:Nat→Bool):Nat→Nat→Nat
  | i,0=>i
  | i,k+1=>if go i then K3 go (i+1) k else i
theorem B0e(go:Nat→Bool):∀ k i,K3 go i k≤i+k
  | 0,i=>Nat.le_refl _
  | k+1,i=>by
    simp only [K3]
    split
    · have:=B0e go k (i+1);omega
    · omega
theorem A2l(go:Nat→Bool):∀ k i,K3 go i k<i+k→go (K3 go i k)=false
  | 0,i,h=>by simp [K3] at h
  | k+1,i,h=>by
    simp only [K3] at h ⊢
    split
    · rename_i hg
      rw [if_pos hg] at h
      exact A2l go k (i+1) (by omega)
    · rename_i hg
      simpa using hg
theorem A1x{α β:Type}(f:α→Option (α⊕β))(s:Nat→α)(n:Nat)(z:Nat→β)(go:Nat→Bool)(h:∀ i,i<n→f (s i)=if go i then some (.inl (s (i+1))) else some (.inr (z i)))(he:f (s n)=some (.inr (z n))) :
    C3 f (s 0)=some (z (K3 go 0 n)):=by
  have key:∀ k i,i+k=n→C3 f (s i)=some (z (K3 go i k)):=by
    intro k
    induction k with
    | zero=>
      intro i hi
      obtain rfl:i=n:=by omega
      rw [V5,he]
      rfl
    | succ k ih=>
      intro i hi
      rw [V5,h i (by omega)]
      simp only [K3]
      cases go i with
      | true=>simp only [if_true];exact ih (i+1) (by omega)
      | false=>rfl
  exact key n 0 (by omega)
theorem B5T(L:Int×Unit→Option ((Int×Unit)⊕(Bool×Unit)))(n:Nat)(hn:n≤maxLen)(go:Nat→Bool)(hs:∀ i:Nat,i<n→L ((i:Int),())=bif go i then some (.inl (IntKind.i64.wrap ((i:Int)+1),())) else some (.inr (false,())))
    (he:L ((n:Int),())=some (.inr (true,()))):C3 L (0,())=some ((List.range n).all go,()):=by
  have h:=A1x L (fun i=>((i:Int),())) n (fun i=>(decide (i=n),())) go (fun i hi=>by
    rw [hs i hi,w64 (by omega) (by simp only [maxLen] at hn;omega)]
    cases go i with
    | true=>rfl
    | false=>simp only [Bool.false_eq_true,if_false,cond_false];rw [A4 (by omega)]) (by rw [he];simp)
  have h':C3 L (0,())=some (decide (K3 go 0 n=n),()):=h
  rw [h']
  have key:∀ k i,decide (K3 go i k=i+k)=((List.range k).all fun j=>go (i+j)):=by
    intro k
    induction k with
    | zero=>intro i;simp [K3]
    | succ k ih=>
      intro i
      have e:((List.range (k+1)).all fun j=>go (i+j))=(go i&&(List.range k).all fun j=>go (i+1+j)):=by
        rw [List.range_succ_eq_map,List.all_cons,List.all_map]
        simp only [Nat.add_zero]
        congr 2
        funext j
        simp only [Function.comp]
        congr 1
        omega
      rw [e,← ih (i+1)]
      by_cases hg:go i=true
      · have e1:K3 go i (k+1)=K3 go (i+1) k:=by simp only [K3];rw [if_pos hg]
        rw [Bool.eq_iff_iff,hg]
        simp only [decide_eq_true_eq,Bool.true_and,e1]
        omega
      · have e1:K3 go i (k+1)=i:=by simp only [K3];rw [if_neg hg]
        rw [Bool.eq_iff_iff]
        simp only [decide_eq_true_eq,Bool.and_eq_true,e1]
        constructor
        · intro h;omega
        · intro h;exact absurd h.1 hg
  have k0:=key n 0
  simp only [Nat.zero_add] at k0
  rw [k0]
theorem A1j(a b c:Int):K6 a b c=some (decide (b≤a∧a≤c),()):=by
  simp only [K6,B3C]
  by_cases h:b≤a<;>by_cases h2:a≤c<;>simp [h,h2]
theorem A3I(a b c:Int):J9 a b c=some (decide (b≤a∧a≤c),()):=A1j a b c
def B6P(s:ByteArray)(i:Nat):Bool:=decide (97≤bt s i∧bt s i≤122)||decide (48≤bt s i∧bt s i≤57)
def idB(s:ByteArray):Bool:=(List.range s.size).all (B6P s)&&decide (1≤(s.size:Int)∧(s.size:Int)≤8)
theorem B9W(s:ByteArray)(h:s.size≤maxLen)(i:Nat)(hi:i<s.size):A3s K6 s ((i:Int),())=if B6P s i then some (.inl (((i+1:Nat):Int),())) else some (.inr (.inr (false,()))):=by
  have h1:((i:Int)<(s.size:Int)):=by omega
  have h2:(0:Int)≤(i:Int):=by omega
  simp only [A3s,A0 h1,A0 h2,cond_true,C68,A1j,A3]
  rw [w64 (by omega) (by simp only [maxLen] at h;omega)]
  unfold B6P
  cases decide (97≤bt s i∧bt s i≤122)<;>cases decide (48≤bt s i∧bt s i≤57)<;>simp
theorem C24(s:ByteArray)(h:s.size≤maxLen)(i:Nat)(hi:i<s.size):A5Y s ((i:Int),())=if B6P s i then some (.inl (((i+1:Nat):Int),())) else some (.inr (.inr (false,()))):=by
  have h1:((i:Int)<(s.size:Int)):=by omega
  have h2:(0:Int)≤(i:Int):=by omega
  simp only [A5Y,A0 h1,A0 h2,cond_true]
  rw [w64 (by omega) (by simp only [maxLen] at h;omega)]
  unfold B6P
  by_cases a:bt s i≥97<;>by_cases b:bt s i≤122<;>by_cases c:bt s i≥48<;>by_cases d:bt s i≤57<;>simp [a,b,c,d]
theorem C5j{s:ByteArray}{f:Int×Unit→Option ((Int×Unit)⊕(Unit⊕(Bool×Unit)))}(hs:∀ i:Nat,i<s.size→f ((i:Int),())=if B6P s i then some (.inl (((i+1:Nat):Int),())) else some (.inr (.inr (false,()))))
    (he:f ((s.size:Int),())=some (.inr (.inl ()))) (g:Unit→Option (Bool×Unit)) (hg:g ()=some (decide (1≤(s.size:Int)∧(s.size:Int)≤8),())):C1 (C3 f (0,())) g=some (idB s,()):=by
  obtain ⟨i,h1,h2,h3,h4⟩:=B9V f (fun i=>((i:Int),())) s.size (fun i=>if i<s.size then .inr (false,()) else .inl ()) (B6P s) (fun i hi=>by
    simp only [if_pos hi];exact hs i hi) (by simp only [Nat.lt_irrefl,if_false];exact he)
  have h4':C3 f (0,())=some (if i<s.size then .inr (false,()) else .inl ()):=h4
  rw [h4']
  unfold idB
  by_cases hi:i<s.size
  · rw [if_pos hi]
    have:(List.range s.size).all (B6P s)=false:=by
      rw [List.all_eq_false]
      exact ⟨i,List.mem_range.2 hi,by simp [h3 hi]⟩
    simp [C1,this]
  · rw [if_neg hi]
    have:(List.range s.size).all (B6P s)=true:=by
      rw [List.all_eq_true]
      intro j hj
      exact h2 j (by have:=List.mem_range.1 hj;omega)
    simp only [C1,this,hg,Bool.true_and]
theorem A73(s:ByteArray)(h:s.size≤maxLen):N3 s=some (idB s,()):=by
  simp only [N3,B0Z]
  exact C5j (B9W s h) (by simp [A3s]) _ (by simp only [A1j,A3])
theorem B6Q(s:ByteArray)(h:s.size≤maxLen):A0b s=some (idB s,()):=by
  simp only [A0b,B3A]
  exact C5j (C24 s h) (by simp [A5Y]) _ (by simp only [A3I,A3])
theorem B7b{R:Type}(a:Option R):eqO a a=a:=by
  unfold eqO
  rw [if_pos rfl]
theorem A4H(a:List Int)(h:a.length≤140737488355328):D9 a=some (a,()):=by
  simp only [D9,P3]
  have e:(bif decide (([]:List Int).length+a.length≤9223372036854775807) then bif decide ((([]:List Int).length+a.length)*1≤140737488355328) then some (([]++a),()) else none else none)=some (a,()):=by
    rw [A0 (by simp;omega),A0 (by simp;omega)]
    simp
  rw [e]
  cases a with
  | nil=>simp [B7b]
  | cons x xs=>simp
def B3F(n:Int)(k j:Nat):Int:=IntKind.u8.wrap (n.fdiv (2 ^ (8*(k-1-j))))
def big(n:Int)(k:Nat):List Int:=(List.range k).map (B3F n k)
theorem G1(n:Int)(k:Nat):(big n k).length=k:=by simp [big]
theorem C6m{n:Int}(h0:0≤n)(h1:n<18446744073709551616):IntKind.u64.wrap n=n:=by
  simp only [IntKind.wrap,IntKind.bits,IntKind.signed]
  simp
  omega
theorem C1E(v:Int)(b:List Int)(k:Nat)(hk:k≤8)(hb:b.length+8≤140737488355328):C3 (S5 (v,())) ((k:Int)-1,b,())=some (b++big v k,()):=by
  have key:=I7 (S5 (v,())) (fun j=>((k:Int)-1-(j:Int),b++(List.range j).map (B3F v k),())) k (b++big v k,()) (fun j hj=>?_) ?_
  · simpa using key
  · have h1:(k:Int)-1-(j:Int)≥0:=by omega
    have e1:(k:Int)-1-(j:Int)=((k-1-j:Nat):Int):=by omega
    have hs:IntKind.u64.wrap (IntKind.i64.wrap (8*((k:Int)-1-(j:Int))))=((8*(k-1-j):Nat):Int):=by
      rw [w64 (by omega) (by omega),C6m (by omega) (by omega)]
      omega
    have hm:min (8*(k-1-j)) IntKind.i64.bits=8*(k-1-j):=Nat.min_eq_left (by simp only [IntKind.bits];omega)
    simp only [S5,A0 h1,cond_true,hs,Int.toNat_natCast,hm]
    rw [A4 (by omega)]
    simp only [cond_false]
    have hl:(b++(List.range j).map (B3F v k)).length=b.length+j:=by simp
    rw [A0 (by rw [hl];simp;omega),A0 (by rw [hl];simp;omega)]
    simp only [cond_true]
    rw [w64 (by omega) (by omega),List.range_succ,List.map_append,List.append_assoc]
    have e2:(k:Int)-1-(j:Int)-1=(k:Int)-1-((j+1:Nat):Int):=by omega
    rw [e2]
    rfl
  · have h1:¬ ((k:Int)-1-(k:Int)≥0):=by omega
    simp only [S5,A4 h1,cond_false]
    rfl
def R1(n:Int):Int:=if n<0 then 0 else n
theorem W9(b:List Int)(n:Int)(k:Nat)(h1:1≤k)(hk:k≤8)(hb:b.length+8≤140737488355328):A3D b n (k:Int)=some (b++big (R1 n) k,()):=by
  simp only [A3D,A8w]
  rw [A0 (by simp;omega),A0 (by simp;omega)]
  have e:(bif decide (n<0) then some ((0:Int),()) else some (n,()))=some (R1 n,()):=by
    unfold R1
    by_cases h:n<0<;>simp [h]
  simp only [cond_true,e,A3,A1j]
  rw [A0 (by omega)]
  simp only [Bool.not_true,cond_false,List.nil_append]
  rw [w64 (by omega) (by omega)]
  exact C1E _ b k hk hb
theorem A3v(b:List Int)(n:Int)(k:Nat)(hk:k≤8)(hb:b.length+8≤140737488355328):A37 b n (k:Int)=some (b++big (R1 n) k,()):=by
  simp only [A37,A8q]
  have e:A5Z n=S5 (R1 n,()):=by
    funext l
    have:(bif decide (0>n) then (0:Int) else n)=R1 n:=by
      unfold R1
      by_cases h:n<0<;>simp [h]
    simp only [A5Z,S5,this]
  rw [e,w64 (by omega) (by omega)]
  exact C1E _ b k hk hb
theorem B0f{n:Nat}(h:n<9223372036854775808):IntKind.i64.wrap (n:Int)=(n:Int):=w64 (by omega) (by omega)
theorem C69{n:Nat}(h:n<4294967296):IntKind.u32.wrap (n:Int)=(n:Int):=by
  simp only [IntKind.wrap,IntKind.bits,IntKind.signed]
  simp
  omega
theorem bits_nat{w x:Nat}(h:x<2 ^ w):(BitVec.ofInt w (x:Int)).toNat=x:=by
  rw [BitVec.ofInt_natCast,BitVec.toNat_ofNat]
  exact Nat.mod_eq_of_lt h
theorem B3G{x y:Nat}(hx:x<4294967296)(hy:y<4294967296):B1r .i64 (x:Int) (y:Int)=((x ^^^ y:Nat):Int):=by
  have h:x ^^^ y<2 ^ 32:=Nat.xor_lt_two_pow (by omega) (by omega)
  unfold B1r
  rw [BitVec.toNat_xor,bits_nat (by simp only [IntKind.bits];omega),bits_nat (by simp only [IntKind.bits];omega)]
  exact B0f (by omega)
theorem B3H{x y:Nat}(hx:x<4294967296)(hy:y<4294967296):B1r .u32 (x:Int) (y:Int)=((x ^^^ y:Nat):Int):=by
  have h:x ^^^ y<2 ^ 32:=Nat.xor_lt_two_pow (by omega) (by omega)
  unfold B1r
  rw [BitVec.toNat_xor,bits_nat (by simp only [IntKind.bits];omega),bits_nat (by simp only [IntKind.bits];omega)]
  exact C69 (by omega)
theorem C3z{x y:Nat}(hx:x<4294967296)(hy:y<4294967296):B0V .i64 (x:Int) (y:Int)=((x &&& y:Nat):Int):=by
  have h:x &&& y<2 ^ 32:=Nat.and_lt_two_pow _ (by omega)
  unfold B0V
  rw [BitVec.toNat_and,bits_nat (by simp only [IntKind.bits];omega),bits_nat (by simp only [IntKind.bits];omega)]
  exact B0f (by omega)
theorem C40{x y:Nat}(hx:x<4294967296)(hy:y<4294967296):B0V .u32 (x:Int) (y:Int)=((x &&& y:Nat):Int):=by
  have h:x &&& y<2 ^ 32:=Nat.and_lt_two_pow _ (by omega)
  unfold B0V
  rw [BitVec.toNat_and,bits_nat (by simp only [IntKind.bits];omega),bits_nat (by simp only [IntKind.bits];omega)]
  exact C69 (by omega)
def A9m(c:Nat):Nat:=if c &&& 1=1 then (c / 2) ^^^ 2197175160 else c / 2
def B0g(c:Nat):Nat→Nat
  | 0=>c
  | i+1=>A9m (B0g c i)
theorem B9X{c:Nat}(h:c<4294967296):A9m c<4294967296:=by
  unfold A9m
  split
  · have:(c / 2) ^^^ 2197175160<2 ^ 32:=Nat.xor_lt_two_pow (by omega) (by omega)
    omega
  · omega
theorem B2O{c:Nat}(h:c<4294967296):∀ i,B0g c i<4294967296
  | 0=>h
  | i+1=>B9X (B2O h i)
theorem half(c:Nat):((c:Int)).fdiv 2=((c / 2:Nat):Int):=by
  rw [Int.fdiv_eq_ediv_of_nonneg _ (by omega)]
  omega
def A1y(a:List Int):Nat:=a.foldl (fun c x=>B0g (c ^^^ x.toNat) 8) 4294967295
theorem C5C(a:List Int)(ha:Byt a):∀ c,c<4294967296→a.foldl (fun c x=>B0g (c ^^^ x.toNat) 8) c<4294967296:=by
  induction a with
  | nil=>intro c h;exact h
  | cons x a ih=>
    intro c h
    have hx:=ha x (by simp)
    refine ih (fun y hy=>ha y (by simp [hy])) _ (B2O ?_ 8)
    have:c ^^^ x.toNat<2 ^ 32:=Nat.xor_lt_two_pow (by omega) (by omega)
    omega
theorem A3J{a:List Int}(h:Byt a)(i:Nat):Byt (a.take i):=fun x hx=>h x (List.mem_of_mem_take hx)
theorem A9n{a:List Int}(h:Byt a):A1y a<4294967296:=C5C a h _ (by omega)
theorem B5U{a:List Int}{i:Nat}(hi:i<a.length):A1y (a.take (i+1))=B0g (A1y (a.take i) ^^^ a[i].toNat) 8:=by
  unfold A1y
  rw [List.take_succ_eq_append_getElem hi,List.foldl_append]
  rfl
theorem C5D(l0:Int×Int×Unit)(c:Nat)(h:c<4294967296):C3 (A7t l0) ((c:Int),0,())=some (.inl ((B0g c 8:Int),IntKind.i64.wrap (l0.2.1+1),())):=by
  refine I7 (A7t l0) (fun i=>((B0g c i:Int),(i:Int),())) 8 _ (fun i hi=>?_) ?_
  · have hl:=B2O h i
    have h1:(i:Int)<8:=by omega
    simp only [A7t,A0 h1,cond_true,half]
    rw [show (1:Int)=((1:Nat):Int) from rfl,C3z hl (by omega),show (2197175160:Int)=((2197175160:Nat):Int) from rfl,B3G (by omega) (by omega)]
    rw [show ((i:Int)+((1:Nat):Int))=((i+1:Nat):Int) by omega,B0f (by omega)]
    simp only [B0g,A9m]
    by_cases hb:B0g c i &&& 1=1
    · rw [A0 (by rw [hb]),if_pos hb];rfl
    · rw [A4 (by omega),if_neg hb];rfl
  · rfl
theorem B3I(a:List Int)(ha:Byt a)(h:a.length≤maxLen):A2h a=some (((A1y a ^^^ 4294967295:Nat):Int),()):=by
  simp only [A2h,B6O]
  have key:=I7 (A4g a) (fun i=>((A1y (a.take i):Int),(i:Int),())) a.length ((A1y a:Int),()) (fun i hi=>?_) ?_
  · have e:C3 (A4g a) (4294967295,0,())=some ((A1y a:Int),()):=key
    rw [e]
    simp only [A3]
    rw [show (4294967295:Int)=((4294967295:Nat):Int) from rfl,B3G (A9n ha) (by omega)]
  · have h1:((i:Int)<(a.length:Int)):=by omega
    have h2:(0:Int)≤(i:Int):=by omega
    have hx:=ha a[i] (List.getElem_mem hi)
    have hc:=A9n (A3J ha i)
    simp only [A4g,A0 h1,A0 h2,cond_true,B3E hi]
    have hxor:A1y (a.take i) ^^^ a[i].toNat<2 ^ 32:=Nat.xor_lt_two_pow (by omega) (by omega)
    rw [w64 (by omega) (by omega),show a[i]=((a[i].toNat:Nat):Int) by omega,B3G hc (by omega)]
    rw [C5D _ _ (by omega)]
    simp only
    rw [show ((i:Int)+1)=((i+1:Nat):Int) by omega,B0f (by simp only [maxLen] at h;omega),B5U hi]
  · simp [A4g]
theorem C5E(l0:Int×Int×Unit)(c:Nat)(h:c<4294967296):C3 (A7r l0) ((c:Int),0,())=some (.inl ((B0g c 8:Int),IntKind.i64.wrap (l0.2.1+1),())):=by
  refine I7 (A7r l0) (fun i=>((B0g c i:Int),(i:Int),())) 8 _ (fun i hi=>?_) ?_
  · have hl:=B2O h i
    have h1:(i:Int)<8:=by omega
    simp only [A7r,A0 h1,cond_true,half]
    rw [show (1:Int)=((1:Nat):Int) from rfl,C40 hl (by omega),show (2197175160:Int)=((2197175160:Nat):Int) from rfl,B3H (by omega) (by omega)]
    rw [show ((i:Int)+((1:Nat):Int))=((i+1:Nat):Int) by omega,B0f (by omega)]
    simp only [B0g,A9m]
    by_cases hb:B0g c i &&& 1=1
    · rw [A0 (by rw [hb]),if_pos hb];rfl
    · rw [A4 (by omega),if_neg hb];rfl
  · rfl
theorem B3J(a:List Int)(ha:Byt a)(h:a.length≤maxLen):A2c a=some (((A1y a ^^^ 4294967295:Nat):Int),()):=by
  simp only [A2c,B6N]
  have key:=I7 (A4e a) (fun i=>((A1y (a.take i):Int),(i:Int),())) a.length ((A1y a:Int),()) (fun i hi=>?_) ?_
  · have e:C3 (A4e a) (4294967295,0,())=some ((A1y a:Int),()):=key
    rw [e]
    simp only [A3]
    have hm:IntKind.u32.max=((4294967295:Nat):Int):=rfl
    have hxor:A1y a ^^^ 4294967295<2 ^ 32:=Nat.xor_lt_two_pow (by have:=A9n ha;omega) (by omega)
    rw [hm,B3H (by omega) (A9n ha),Nat.xor_comm,B0f (by omega)]
  · have h1:((i:Int)<(a.length:Int)):=by omega
    have h2:(0:Int)≤(i:Int):=by omega
    have hx:=ha a[i] (List.getElem_mem hi)
    have hc:=A9n (A3J ha i)
    simp only [A4e,A0 h1,A0 h2,cond_true,B3E hi]
    have hxor:A1y (a.take i) ^^^ a[i].toNat<2 ^ 32:=Nat.xor_lt_two_pow (by omega) (by omega)
    rw [show a[i]=((a[i].toNat:Nat):Int) by omega,C69 (by omega),B3H hc (by omega)]
    rw [C5E _ _ (by omega)]
    simp only
    rw [show ((i:Int)+1)=((i+1:Nat):Int) by omega,B0f (by simp only [maxLen] at h;omega),B5U hi]
  · simp [A4e]
def B1s(us:List TUp)(id:ByteArray):Nat:=K3 (fun i=>!((rd kUp us (i:Int)).1.toList == id.toList)) 0 us.length
def C6A:TUp×Bool×Unit:=((⟨#[]⟩,0,[],false),false,())
def B4j(st:A5)(id:ByteArray):TUp×Bool×Unit:=if B1s st.2.2.2 id<st.2.2.2.length then (rd kUp st.2.2.2 (B1s st.2.2.2 id:Int),true,()) else C6A
theorem B3K(us:List TUp)(id:ByteArray)(h:us.length≤maxLen):J4 us id=some (if B1s us id<us.length then (B1s us id:Int) else -1,()):=by
  simp only [J4,B0b]
  refine A1x (A3t us id) (fun i=>((i:Int),())) us.length (fun i=>(if i<us.length then (i:Int) else -1,())) (fun i=>!((rd kUp us (i:Int)).1.toList == id.toList)) (fun i hi=>?_) ?_
  · have h1:((i:Int)<(us.length:Int)):=by omega
    have h2:(0:Int)≤(i:Int):=by omega
    simp only [A3t,A0 h1,A0 h2,cond_true,if_pos hi]
    rw [w64 (by omega) (by simp only [maxLen] at h;omega)]
    cases ((rd kUp us (i:Int)).1.toList == id.toList)<;>simp
  · simp [A3t]
theorem C5F{us:List TUp}{N:Nat}(h:Sm N (.sl 0 kUp) us){i:Nat}(hi:i<us.length):Sm N kUp (rd kUp us (i:Int)):=by
  rw [E0 (k:=kUp) (xs:=us) hi]
  exact h.2 _ (List.getElem_mem hi)
theorem C25(st:A5)(id:ByteArray)(h:Sm 1048576 (.sl 0 kUp) st.2.2.2):Z1 st id=some (B4j st id):=by
  have hl:st.2.2.2.length≤1048576:=h.1
  simp only [Z1,A9l]
  rw [B3K _ _ (by simp only [maxLen];omega)]
  simp only [A3,B4j]
  by_cases hi:B1s st.2.2.2 id<st.2.2.2.length
  · have hd:List.length (rd kUp st.2.2.2 (B1s st.2.2.2 id:Int)).2.2.1≤1048576:=(Sm.l (Sm.r (Sm.r (C5F h hi)))).1
    rw [if_pos hi,if_pos hi,A4 (by omega),A0 (show (0:Int)≤(B1s st.2.2.2 id:Int) by omega),A0 (by omega),A0 (by simp;omega),A0 (by simp;omega)]
    simp
  · rw [if_neg hi,if_neg hi]
    rfl
theorem C6B{x y:Int}(hx:0≤x∧x<256)(hy:0≤y∧y<256)(h:UInt8.ofNat x.toNat=UInt8.ofNat y.toNat):x=y:=by
  have:=congrArg UInt8.toNat h
  simp only [UInt8.toNat_ofNat'] at this
  omega
theorem C5G{x y:Nat}(hx:x<9223372036854775808)(hy:y<9223372036854775808):bOr .i64 (x:Int) (y:Int)=((x ||| y:Nat):Int):=by
  have h:x ||| y<2 ^ 63:=Nat.or_lt_two_pow (by omega) (by omega)
  unfold bOr
  rw [BitVec.toNat_or,bits_nat (by simp only [IntKind.bits];omega),bits_nat (by simp only [IntKind.bits];omega)]
  exact B0f (by omega)
def O3(b:List Int)(at_:Nat):Nat→Nat
  | 0=>0
  | j+1=>(O3 b at_ j*256) ||| (b.getD (at_+j) 0).toNat
theorem B7c{b:List Int}(hb:Byt b)(i:Nat):0≤b.getD i 0∧b.getD i 0<256:=by
  by_cases h:i<b.length
  · simp only [List.getD,List.getElem?_eq_getElem h,Option.getD_some]
    exact hb _ (List.getElem_mem h)
  · simp only [List.getD,List.getElem?_eq_none (show b.length≤i by omega),Option.getD_none]
    omega
theorem B6R{b:List Int}(hb:Byt b)(at_:Nat):∀ j,O3 b at_ j<2 ^ (8*j)
  | 0=>by simp [O3]
  | j+1=>by
    have h1:=B6R hb at_ j
    have h2:=B7c hb (at_+j)
    have e:2 ^ (8*(j+1))=2 ^ (8*j)*256:=by rw [show 8*(j+1)=8*j+8 by omega,Nat.pow_add]
    refine Nat.or_lt_two_pow ?_ ?_
    · rw [e];exact Nat.mul_lt_mul_of_pos_right h1 (by omega)
    · have:1≤2 ^ (8*j):=Nat.one_le_two_pow
      rw [e];omega
theorem B7d{b:List Int}(hb:Byt b)(at_ j:Nat)(hj:j<7)(x:Int)(hx:x=b.getD (at_+j) 0):bOr .i64 (IntKind.i64.wrap (((O3 b at_ j:Nat):Int)*256)) (IntKind.i64.wrap x)=((O3 b at_ (j+1):Nat):Int):=by
  have h1:=B6R hb at_ j
  have h2:=B7c hb (at_+j)
  have h3:2 ^ (8*j)≤2 ^ 48:=Nat.pow_le_pow_right (by omega) (by omega)
  subst hx
  rw [show ((O3 b at_ j:Nat):Int)*256=((O3 b at_ j*256:Nat):Int) by omega,B0f (by omega),show b.getD (at_+j) 0=(((b.getD (at_+j) 0).toNat:Nat):Int) by omega,B0f (by omega),C5G (by omega) (by omega)]
  simp only [O3,Int.toNat_natCast]
def A1V(b:List Int)(a:Int)(k:Nat):Int×Bool×Unit:=if 0≤a∧a≤(b.length:Int)-k then ((O3 b a.toNat k:Int),true,()) else (0,false,())
theorem B7e(b:List Int)(hb:Byt b)(h:b.length≤1048576)(a:Int)(k:Nat)(hk:1≤k∧k≤7):A1L b a (k:Int)=some (A1V b a k):=by
  simp only [A1L,A8y,A1j,A3,A1V]
  rw [A0 (show (1:Int)≤(k:Int)∧(k:Int)≤7 by omega),w64 (by omega) (by omega)]
  simp only [Bool.not_true,cond_false]
  by_cases h1:a<0
  · rw [A0 h1,if_neg (by omega)];rfl
  rw [A4 h1]
  by_cases h2:a>(b.length:Int)-k
  · rw [A0 h2,if_neg (by omega)];rfl
  rw [A4 h2,if_pos (by omega)]
  simp only [cond_false,C1]
  have key:=I7 (A0i (k:Int) a b) (fun j=>((O3 b a.toNat j:Int),(j:Int),())) k ((O3 b a.toNat k:Int),()) (fun j hj=>?_) ?_
  · have e:C3 (A0i (k:Int) a b) (0,0,())=_:=key
    rw [e]
  · have g1:(j:Int)<(k:Int):=by omega
    simp only [A0i,A0 g1,cond_true]
    rw [w64 (n:=a+(j:Int)) (by omega) (by omega)]
    have g2:0≤a+(j:Int):=by omega
    have g3:a+(j:Int)<(b.length:Int):=by omega
    rw [A0 g2,A0 g3]
    simp only [cond_true]
    rw [B7d hb a.toNat j (by omega) _ (by
      rw [show a+(j:Int)=((a.toNat+j:Nat):Int) by omega,B3E (by omega)]
      simp [List.getD,show a.toNat+j<b.length by omega]),show (j:Int)+1=((j+1:Nat):Int) by omega,B0f (by omega)]
  · simp [A0i]
theorem A74(b:List Int)(hb:Byt b)(h:b.length≤1048576)(a:Int)(k:Nat)(hk:1≤k∧k≤7):A38 b a (k:Int)=some (A1V b a k):=by
  simp only [A38,A8s,A3I,A3,A1V]
  rw [A0 (show (1:Int)≤(k:Int)∧(k:Int)≤7 by omega),w64 (n:=(b.length:Int)-(k:Int)) (by omega) (by omega)]
  simp only [Bool.not_true,cond_false]
  by_cases h1:a<0
  · rw [A0 h1,if_neg (by omega)];rfl
  rw [A4 h1]
  by_cases h2:a>(b.length:Int)-k
  · rw [A0 h2,if_neg (by omega)];rfl
  rw [A4 h2,if_pos (by omega)]
  simp only [cond_false,C1]
  rw [w64 (n:=a+(k:Int)) (by omega) (by omega),A0 (show 0≤a by omega),A0 (show a≤a+(k:Int) by omega),A0 (show a+(k:Int)≤(b.length:Int) by omega)]
  simp only [cond_true]
  have hlen:((b.take (a+(k:Int)).toNat).drop a.toNat).length=k:=by simp;omega
  have key:=I7 (A0c b a (k:Int)) (fun j=>((O3 b a.toNat j:Int),(j:Int),())) k ((O3 b a.toNat k:Int),()) (fun j hj=>?_) ?_
  · have e:C3 (A0c b a (k:Int)) (0,0,())=_:=key
    rw [e]
  · have g1:(j:Int)<(k:Int):=by omega
    have g2:(0:Int)≤(j:Int):=by omega
    simp only [A0c]
    rw [w64 (n:=a+(k:Int)) (by omega) (by omega)]
    simp only [hlen,A0 g1,A0 g2,cond_true]
    rw [B7d hb a.toNat j (by omega) _ (by
      rw [B3E (by rw [hlen];exact hj)]
      simp [List.getD,show a.toNat+j<b.length by omega]),show (j:Int)+1=((j+1:Nat):Int) by omega,B0f (by omega)]
  · simp only [A0c]
    rw [w64 (n:=a+(k:Int)) (by omega) (by omega)]
    simp [hlen]
theorem C26{α β:Type}{f:α→Option (α⊕β)}{x:α}{z:β}(h:f x=some (.inr z)):C3 f x=some z:=by rw [V5,h]
theorem A5o(xs:List Int):(strOf xs).size=xs.length:=strOfNums_size xs
theorem B7f(x:Int):0≤B0V .i64 x 255∧B0V .i64 x 255≤255:=by
  unfold B0V
  have h:(BitVec.ofInt IntKind.i64.bits x &&& BitVec.ofInt IntKind.i64.bits 255).toNat≤255:=by
    rw [BitVec.toNat_and]
    have:(BitVec.ofInt IntKind.i64.bits (255:Int)).toNat=255:=bits_nat (w:=64) (x:=255) (by omega)
    rw [this]
    exact Nat.and_le_right
  rw [B0f (by omega)]
  omega
def Cur(c:C0):Prop:=List.length c.1≤1048576∧0≤c.2.1∧c.2.1≤1048576
theorem A4k(c:C0)(h:Cur c):∃ r c',W5 c=some (r,c',())∧Cur c'∧0≤r∧r≤255:=by
  obtain ⟨h1,h2,h3⟩:=h
  simp only [W5,A8v]
  by_cases hi:c.2.1<(List.length c.1:Int)
  · simp only [A0 hi,A0 h2,cond_true]
    refine ⟨_,_,rfl,⟨h1,?_,?_⟩,B7f _⟩
    · simp only;rw [w64 (by omega) (by omega)];omega
    · simp only;rw [w64 (by omega) (by omega)];omega
  · simp only [A4 hi,cond_false]
    exact ⟨_,_,rfl,⟨h1,h2,h3⟩,B7f _⟩
theorem A0H(c:C0)(n:Int)(h:Cur c)(hn:0<n∧n<9223372036854775808):∃ r c',E6 c n=some (r,c',())∧Cur c'∧0≤r∧r<n:=by
  simp only [E6,A6x]
  rw [A4 (show ¬ n≤0 by omega)]
  have hz:(n == 0)=false:=by simp;omega
  simp only [cond_false,hz]
  by_cases h1:n≤256
  · rw [A0 h1]
    obtain ⟨r,c',e,hc,hr⟩:=A4k c h
    simp only [cond_true,e,A3]
    refine ⟨_,_,rfl,hc,?_⟩
    rw [Int.tmod_eq_emod_of_nonneg hr.1]
    exact ⟨Int.emod_nonneg _ (by omega),Int.emod_lt_of_pos _ (by omega)⟩
  · rw [A4 h1]
    obtain ⟨r1,c1,e1,hc1,hr1⟩:=A4k c h
    obtain ⟨r2,c2,e2,hc2,hr2⟩:=A4k c1 hc1
    obtain ⟨r3,c3,e3,hc3,hr3⟩:=A4k c2 hc2
    simp only [cond_false,e1,e2,e3,A3]
    refine ⟨_,_,rfl,hc3,?_⟩
    rw [w64 (n:=r1*65536) (by omega) (by omega),w64 (n:=r2*256) (by omega) (by omega),w64 (n:=r1*65536+r2*256) (by omega) (by omega),w64 (n:=r1*65536+r2*256+r3) (by omega) (by omega)]
    rw [Int.tmod_eq_emod_of_nonneg (by omega)]
    exact ⟨Int.emod_nonneg _ (by omega),Int.emod_lt_of_pos _ (by omega)⟩
theorem B7g(c:C0)(xs:List ByteArray)(h:Cur c)(hx:0<xs.length∧xs.length≤1048576):∃ s c',A1N c xs=some (s,c',())∧Cur c'∧s∈xs:=by
  obtain ⟨r,c',e,hc,h0,h1⟩:=A0H c (xs.length:Int) h (by omega)
  simp only [A1N,B0c,e,A3,A0 h0,A0 h1,cond_true]
  refine ⟨_,_,rfl,hc,?_⟩
  obtain ⟨n,rfl⟩:∃ n:Nat,r=(n:Int):=⟨r.toNat,by omega⟩
  rw [A1U (by omega)]
  exact List.getElem_mem _
theorem A4l(c:C0)(xs:List Int)(h:Cur c)(hx:0<xs.length∧xs.length≤1048576):∃ s c',O5 c xs=some (s,c',())∧Cur c'∧s∈xs:=by
  obtain ⟨r,c',e,hc,h0,h1⟩:=A0H c (xs.length:Int) h (by omega)
  simp only [O5,B0Y,e,A3,A0 h0,A0 h1,cond_true]
  refine ⟨_,_,rfl,hc,?_⟩
  obtain ⟨n,rfl⟩:∃ n:Nat,r=(n:Int):=⟨r.toNat,by omega⟩
  rw [B3E (by omega)]
  exact List.getElem_mem _
theorem wrap_u8(x:Int):0≤IntKind.u8.wrap x∧IntKind.u8.wrap x<256:=by
  simp only [IntKind.wrap,IntKind.bits,IntKind.signed]
  simp
  omega
theorem B3L(c:C0)(n:Int)(h:Cur c)(hn:0≤n∧n≤1048576):∃ b c',I6 c n=some (b,c',())∧Cur c'∧(List.length b:Int)=n∧Byt b:=by
  simp only [I6,A1S]
  obtain ⟨z,e,hz⟩:=A0Q (A0F W5 n) (fun l=>(n-l.1).toNat) (fun l=>0≤l.1∧l.1≤n∧Cur (l.2.1,l.2.2.1,l.2.2.2.1)∧(List.length l.2.2.2.2.1:Int)=l.1∧Byt l.2.2.2.2.1)
    (fun z=>Cur z.2.1∧(List.length z.1:Int)=n∧Byt z.1) (fun l hl=>by
      obtain ⟨h0,h1,hc,hlen,hb⟩:=hl
      simp only [A0F]
      by_cases hi:l.1<n
      · obtain ⟨r,c',e,hc',hr⟩:=A4k _ hc
        refine .inl ⟨(l.1+1,c'.1,c'.2.1,c'.2.2,l.2.2.2.2.1 ++ [IntKind.u8.wrap r],()),?_,⟨by simp only;omega,by simp only;omega,hc',by simp;omega,?_⟩,by simp only;omega⟩
        · rw [A0 hi,e]
          simp only [cond_true,A3]
          rw [A0 (by simp;omega),A0 (by simp;omega),w64 (by omega) (by omega)]
          rfl
        · intro x hx
          rcases List.mem_append.1 hx with hx | hx
          · exact hb x hx
          · rw [List.mem_singleton.1 hx];exact wrap_u8 _
      · rw [A4 hi]
        exact .inr ⟨_,rfl,hc,by simp only;omega,hb⟩) (0,c.1,c.2.1,c.2.2,[],()) ⟨by simp,hn.1,h,by simp,fun x hx=>by cases hx⟩
  exact ⟨z.1,z.2.1,e,hz⟩
theorem C41(a:List Int)(h:a.length≤1048576):∃ c,A4f a=some (c,())∧Cur c:=by
  simp only [A4f,B0X]
  obtain ⟨z,e,_⟩:=A0Q (A6w a) (fun l=>((a.length:Int)-l.2.1).toNat) (fun l=>0≤l.2.1) (fun _=>True) (fun l hl=>by
    simp only [A6w]
    by_cases hi:l.2.1<(a.length:Int)
    · by_cases h4:l.2.1<4000
      · rw [A0 hi,A0 h4]
        simp only [cond_true,C1]
        rw [A0 hl,w64 (n:=l.2.1+1) (by omega) (by omega)]
        exact .inl ⟨_,rfl,by simp only;omega,by simp only;omega⟩
      · rw [A0 hi,A4 h4]
        exact .inr ⟨_,rfl,trivial⟩
    · rw [A4 hi]
      exact .inr ⟨_,rfl,trivial⟩) (IntKind.i64.wrap (369369+(a.length:Int)),0,()) (by simp)
  rw [e]
  exact ⟨_,rfl,h,by simp,by simp⟩
def K4(r:D8):Bool:=
  decide (0≤r.1∧r.1≤10000)&&decide (0≤r.2.1∧r.2.1≤199)&&idB r.2.2.2.1 &&
  (if r.2.2.1=1 then decide (0≤r.2.2.2.2.1∧r.2.2.2.2.1≤1000000000)&&decide ((List.length r.2.2.2.2.2:Int)=0)
   else if r.2.2.1=2 then decide (0≤r.2.2.2.2.1∧r.2.2.2.2.1≤1000000000)&&decide (1≤(List.length r.2.2.2.2.2:Int)∧(List.length r.2.2.2.2.2:Int)≤24)
   else if r.2.2.1=3∨r.2.2.1=4 then decide (r.2.2.2.2.1=0)&&decide ((List.length r.2.2.2.2.2:Int)=0) else false)
theorem B9Y(r:D8)(h:r.2.2.2.1.size≤maxLen):A4h r=some (K4 r,()):=by
  simp only [A4h,B0a,A73 _ h,A1j,A3,K4]
  cases decide (0≤r.1∧r.1≤10000)
  · rfl
  cases decide (0≤r.2.1∧r.2.1≤199)
  · rfl
  cases idB r.2.2.2.1
  · rfl
  simp only [Bool.not_true,cond_false,C1,Bool.true_and]
  by_cases h1:r.2.2.1=1
  · rw [A0 h1,if_pos h1]
    cases decide (0≤r.2.2.2.2.1∧r.2.2.2.2.1≤1000000000)<;>rfl
  rw [A4 h1,if_neg h1]
  by_cases h2:r.2.2.1=2
  · rw [A0 h2,if_pos h2]
    cases decide (0≤r.2.2.2.2.1∧r.2.2.2.2.1≤1000000000)<;>rfl
  rw [A4 h2,if_neg h2]
  by_cases h3:r.2.2.1=3
  · rw [A0 h3,if_pos (.inl h3)]
    cases decide (r.2.2.2.2.1=0)<;>rfl
  rw [A4 h3]
  by_cases h4:r.2.2.1=4
  · rw [A0 h4,if_pos (.inr h4)]
    cases decide (r.2.2.2.2.1=0)<;>rfl
  rw [A4 h4,if_neg (by omega)]
  rfl
theorem B3M(r:D8)(h:r.2.2.2.1.size≤maxLen):A1I r=some (K4 r,()):=by
  simp only [A1I,B0W,V9,A3n,B6Q _ h,A3I,A3,K4]
  cases decide (0≤r.1∧r.1≤10000)
  · rfl
  cases decide (0≤r.2.1∧r.2.1≤199)
  · rfl
  by_cases hk:1≤r.2.2.1∧r.2.2.1≤4
  · rw [A0 hk]
    cases idB r.2.2.2.1
    · rfl
    simp only [Bool.not_true,cond_false,C1,Bool.true_and]
    by_cases h1:r.2.2.1=1
    · rw [A0 h1,if_pos h1]
      cases decide (0≤r.2.2.2.2.1∧r.2.2.2.2.1≤1000000000)<;>rfl
    rw [A4 h1,if_neg h1]
    by_cases h2:r.2.2.1=2
    · rw [A0 h2,if_pos h2]
      cases decide (0≤r.2.2.2.2.1∧r.2.2.2.2.1≤1000000000)<;>rfl
    rw [A4 h2,if_neg h2,if_pos (by omega)]
    cases decide (r.2.2.2.2.1=0)<;>rfl
  · rw [A4 hk,if_neg (by omega),if_neg (by omega),if_neg (by omega)]
    cases idB r.2.2.2.1<;>rfl
theorem R2{r:D8}(h:K4 r=true):0≤r.1∧r.1≤10000∧1≤r.2.2.1∧r.2.2.1≤4∧r.2.2.2.1.size≤8∧0≤r.2.2.2.2.1∧r.2.2.2.2.1≤1000000000∧List.length r.2.2.2.2.2≤24:=by
  simp only [K4,idB,Bool.and_eq_true,decide_eq_true_eq] at h
  obtain ⟨⟨⟨h1,h2⟩,h3,h4⟩,h5⟩:=h
  split at h5
  · simp only [Bool.and_eq_true,decide_eq_true_eq] at h5;omega
  · split at h5
    · simp only [Bool.and_eq_true,decide_eq_true_eq] at h5;omega
    · split at h5
      · simp only [Bool.and_eq_true,decide_eq_true_eq] at h5;omega
      · cases h5
theorem B6S{a b:List Int}(ha:Byt a)(hb:Byt b):Byt (a++b):=fun x hx=>(List.mem_append.1 hx).elim (ha x) (hb x)
theorem C1F(n:Int)(k:Nat):Byt (big n k):=by
  intro x hx
  obtain ⟨j,_,rfl⟩:=List.mem_map.1 hx
  exact wrap_u8 _
theorem A3w(s:ByteArray):Byt (bytesOf s):=by
  intro x hx
  obtain ⟨b,_,rfl⟩:=List.mem_map.1 hx
  have:=b.toNat_lt
  omega
theorem A0o:Byt []:=fun x hx=>by cases hx
theorem A75{a:List Int}(h:Byt a)(i:Nat):Byt (a.drop i):=fun x hx=>h x (List.mem_of_mem_drop hx)
def A6O(r:D8):List Int:=
  big (R1 r.1) 3++big (R1 r.2.1) 2++big (R1 r.2.2.1) 1++big (R1 (r.2.2.2.1.size:Int)) 1++bytesOf r.2.2.2.1++big (R1 r.2.2.2.2.1) 4++big (R1 (List.length r.2.2.2.2.2:Int)) 1++r.2.2.2.2.2
def C6C(b:List Int):Int:=((A1y b ^^^ 4294967295:Nat):Int)
def N1(r:D8):ByteArray:=strOf (A6O r++big (R1 (C6C (A6O r))) 4)
theorem A76(r:D8):(A6O r).length=12+r.2.2.2.1.size+List.length r.2.2.2.2.2:=by
  simp only [A6O,List.length_append,G1,bytesOf_length]
  omega
theorem B3N(r:D8)(h:Byt r.2.2.2.2.2):Byt (A6O r):=by
  unfold A6O
  repeat' first | apply B6S | apply C1F | apply A3w | exact h
theorem B1M(r:D8)(h1:r.2.2.2.1.size≤10000000)(h2:List.length r.2.2.2.2.2≤10000000)(hb:Byt r.2.2.2.2.2):A0C r=some (N1 r,()):=by
  have hlen:=A76 r
  simp only [A0C,A8x]
  rw [show (3:Int)=((3:Nat):Int) from rfl,W9 [] _ 3 (by omega) (by omega) (by simp)]
  simp only [A3,List.nil_append]
  rw [show (2:Int)=((2:Nat):Int) from rfl,W9 _ _ 2 (by omega) (by omega) (by simp [G1])]
  simp only
  rw [show (1:Int)=((1:Nat):Int) from rfl,W9 _ _ 1 (by omega) (by omega) (by simp [G1])]
  simp only
  rw [W9 _ _ 1 (by omega) (by omega) (by simp [G1])]
  simp only
  rw [A0 (by simp [G1];omega)]
  simp only [cond_true]
  rw [show (4:Int)=((4:Nat):Int) from rfl,W9 _ _ 4 (by omega) (by omega) (by simp [G1,bytesOf_length];omega)]
  simp only
  rw [W9 _ _ 1 (by omega) (by omega) (by simp [G1,bytesOf_length];omega)]
  simp only
  rw [A0 (by simp [G1,bytesOf_length];omega),A0 (by simp [G1,bytesOf_length];omega)]
  simp only [cond_true]
  have e:big (R1 r.1) 3++big (R1 r.2.1) 2++big (R1 r.2.2.1) 1++big (R1 (r.2.2.2.1.size:Int)) 1++bytesOf r.2.2.2.1++big (R1 r.2.2.2.2.1) 4++big (R1 (List.length r.2.2.2.2.2:Int)) 1++r.2.2.2.2.2=A6O r:=rfl
  rw [e,B3I _ (B3N r hb) (by rw [hlen];simp only [maxLen];omega)]
  simp only
  rw [W9 _ _ 4 (by omega) (by omega) (by rw [hlen];omega)]
  rfl
theorem B6T(n:Int):big n 1 = [IntKind.u8.wrap n]:=by
  simp [big,B3F]
theorem A0p{n:Int}(h:0≤n):R1 n=n:=by unfold R1;rw [if_neg (by omega)]
theorem B1N(r:D8)(h1:r.2.2.2.1.size≤maxLen)(hb:Byt r.2.2.2.2.2):A0A r=some (if K4 r then N1 r else ⟨#[]⟩,()):=by
  simp only [A0A,A8r,B3M r h1]
  cases hr:K4 r with
  | false=>rfl
  | true=>
    have hbd:=R2 hr
    have hlen:=A76 r
    simp only [A3,Bool.not_true,cond_false]
    rw [show (3:Int)=((3:Nat):Int) from rfl,A3v [] _ 3 (by omega) (by simp)]
    simp only [List.nil_append]
    rw [show (2:Int)=((2:Nat):Int) from rfl,A3v _ _ 2 (by omega) (by simp [G1])]
    simp only
    rw [A0 (by simp [G1]),A0 (by simp [G1])]
    simp only [cond_true]
    rw [A0 (by simp [G1];omega)]
    simp only [cond_true]
    rw [show (4:Int)=((4:Nat):Int) from rfl,A3v _ _ 4 (by omega) (by simp [G1,bytesOf_length];omega)]
    simp only
    rw [A0 (by simp [G1,bytesOf_length];omega),A0 (by simp [G1,bytesOf_length];omega)]
    simp only [cond_true]
    rw [A0 (by simp [G1,bytesOf_length];omega),A0 (by simp [G1,bytesOf_length];omega)]
    simp only [cond_true]
    have e:big (R1 r.1) 3++big (R1 r.2.1) 2 ++ [IntKind.u8.wrap r.2.2.1,IntKind.u8.wrap (r.2.2.2.1.size:Int)]++bytesOf r.2.2.2.1++big (R1 r.2.2.2.2.1) 4 ++ [IntKind.u8.wrap (List.length r.2.2.2.2.2:Int)]++r.2.2.2.2.2=A6O r:=by
      unfold A6O
      rw [B6T,B6T,B6T,A0p (n:=r.2.2.1) (by omega),A0p (n:=(r.2.2.2.1.size:Int)) (by omega),A0p (n:=(List.length r.2.2.2.2.2:Int)) (by omega)]
      simp [List.append_assoc]
    rw [e,B3J _ (B3N r hb) (by rw [hlen];simp only [maxLen];omega)]
    simp only
    rw [A3v _ _ 4 (by omega) (by rw [hlen];omega)]
    rfl
def B9(b:List Int):Nat:=O3 b 6 1
def J3(b:List Int):Nat:=O3 b (11+B9 b) 1
def recAt(b:List Int):D8:=((O3 b 0 3:Int),(O3 b 3 2:Int),(O3 b 5 1:Int),strOf ((b.take (7+B9 b)).drop 7),(O3 b (7+B9 b) 4:Int),(b.take (12+B9 b+J3 b)).drop (12+B9 b))
def C1G:D8×Bool×Unit:=((0,0,0,⟨#[]⟩,0,[]),false,())
def A3x(s:ByteArray):Bool:=decide (12+B9 (bytesOf s)+J3 (bytesOf s)≤s.size)&&K4 (recAt (bytesOf s))&&((N1 (recAt (bytesOf s))).toList == s.toList)
def B7(s:ByteArray):D8×Bool×Unit:=if A3x s=true then (recAt (bytesOf s),true,()) else C1G
theorem A1W(b:List Int)(a k:Nat)(h:a+k≤b.length):A1V b (a:Int) k=((O3 b a k:Int),true,()):=by
  unfold A1V
  rw [if_pos (by omega),Int.toNat_natCast]
theorem B0h(b:List Int)(a k:Nat)(h:¬ a+k≤b.length):A1V b (a:Int) k=(0,false,()):=by
  unfold A1V
  rw [if_neg (by omega)]
theorem B2P{b:List Int}(hb:Byt b)(a:Nat):O3 b a 1<256:=by
  have:=B6R hb a 1
  omega
theorem B5V(b:List Int)(h:12+B9 b+J3 b≤b.length):(recAt b).2.2.2.1.size=B9 b∧List.length (recAt b).2.2.2.2.2=J3 b:=by
  simp only [recAt,A5o,List.length_drop,List.length_take]
  omega
theorem B0i{b:List Int}(hb:Byt b):Byt (recAt b).2.2.2.2.2:=A75 (A3J hb _) _
theorem A1z(s:ByteArray)(hs:s.size≤1048576):F8 s=some (B7 s):=by
  have hbl:=bytesOf_length s
  have hb:=A3w s
  have hh:(bytesOf s).length≤1048576:=by omega
  have hsz:s.size=(bytesOf s).length:=hbl.symm
  simp only [B7,A3x,hsz]
  have hlen:decide ((bytesOf s).length≤9223372036854775807)=true:=A0 (by omega)
  simp only [F8,A8z,hsz,hlen,cond_true]
  clear hlen hsz
  generalize bytesOf s=b at hb hh ⊢
  clear hbl
  have g0:∀ (a:Int) (k:Nat) (k':Int),k' = (k:Int)→1≤k∧k≤7→A1L b a k' = some (A1V b a k):=fun a k k' e hk=>by rw [e];exact B7e b hb hh a k hk
  have q0:=g0 0 3 3 rfl (by omega)
  have q3:=g0 3 2 2 rfl (by omega)
  have q5:=g0 5 1 1 rfl (by omega)
  have q6:=g0 6 1 1 rfl (by omega)
  simp only [q0,q3,q5,q6]
  by_cases c1:7≤b.length
  · have e0:=A1W b 0 3 (by omega)
    have e3:=A1W b 3 2 (by omega)
    have e5:=A1W b 5 1 (by omega)
    have e6:=A1W b 6 1 (by omega)
    simp only [Int.cast_ofNat_Int] at e0 e3 e5 e6
    have hn:=B2P hb 6
    have hN:(O3 b 6 1:Int)=((B9 b:Nat):Int):=rfl
    have hn':B9 b<256:=hn
    simp only [e0,e3,e5,e6,A3,Bool.not_true,cond_false,hN]
    rw [w64 (n:=7+(B9 b:Int)) (by omega) (by omega),w64 (n:=11+(B9 b:Int)) (by omega) (by omega),w64 (n:=12+(B9 b:Int)) (by omega) (by omega)]
    by_cases c2:7+B9 b≤b.length
    · rw [A4 (show ¬ 7+(B9 b:Int)>(b.length:Int) by omega)]
      simp only [cond_false,C1]
      rw [A0 (show 7≤7+(B9 b:Int) by omega),A0 (show 7+(B9 b:Int)≤(b.length:Int) by omega)]
      simp only [cond_true]
      have q7:=g0 (7+(B9 b:Int)) 4 4 rfl (by omega)
      have q11:=g0 (11+(B9 b:Int)) 1 1 rfl (by omega)
      simp only [q7,q11]
      by_cases c3:12+B9 b≤b.length
      · have e7:=A1W b (7+B9 b) 4 (by omega)
        have e11:=A1W b (11+B9 b) 1 (by omega)
        simp only [Int.natCast_add,Int.cast_ofNat_Int] at e7 e11
        have hm:J3 b<256:=B2P hb _
        have hM:(O3 b (11+B9 b) 1:Int)=((J3 b:Nat):Int):=rfl
        simp only [e7,e11,Bool.not_true,cond_false,hM]
        rw [w64 (n:=12+(B9 b:Int)+(J3 b:Int)) (by omega) (by omega)]
        by_cases c4:12+B9 b+J3 b≤b.length
        · rw [A4 (show ¬ 12+(B9 b:Int)+(J3 b:Int)>(b.length:Int) by omega),A0 (show 0≤12+(B9 b:Int) by omega),A0 (show 12+(B9 b:Int)≤12+(B9 b:Int)+(J3 b:Int) by omega),A0 (show 12+(B9 b:Int)+(J3 b:Int)≤(b.length:Int) by omega)]
          simp only [cond_true,cond_false]
          rw [A0 (by simp;omega),A0 (by simp;omega)]
          have t1:(7+(B9 b:Int)).toNat=7+B9 b:=by omega
          have t2:(12+(B9 b:Int)+(J3 b:Int)).toNat=12+B9 b+J3 b:=by omega
          have t3:(12+(B9 b:Int)).toNat=12+B9 b:=by omega
          simp only [cond_true,List.nil_append,t1,t2,t3]
          have hr:(((O3 b 0 3:Nat):Int),((O3 b 3 2:Nat):Int),((O3 b 5 1:Nat):Int),strOf ((b.take (7+B9 b)).drop 7),((O3 b (7+B9 b) 4:Nat):Int),(b.take (12+B9 b+J3 b)).drop (12+B9 b))=recAt b:=rfl
          obtain ⟨l1,l2⟩:=B5V b c4
          rw [hr,B9Y _ (by rw [l1];simp only [maxLen];omega),B1M _ (by rw [l1];omega) (by rw [l2];omega) (B0i hb)]
          rw [A0 c4]
          simp only [Bool.true_and]
          cases K4 (recAt b)
          · rfl
          · cases hp:((N1 (recAt b)).toList == s.toList)
            · rfl
            · rfl
        · rw [A0 (show 12+(B9 b:Int)+(J3 b:Int)>(b.length:Int) by omega),A4 c4]
          rfl
      · have e11:=B0h b (11+B9 b) 1 (by omega)
        simp only [Int.natCast_add,Int.cast_ofNat_Int] at e11
        simp only [e11]
        rw [A4 (show ¬ 12+B9 b+J3 b≤b.length by omega)]
        cases (A1V b (7+(B9 b:Int)) 4).2.1<;>rfl
    · rw [A0 (show 7+(B9 b:Int)>(b.length:Int) by omega),A4 (show ¬ 12+B9 b+J3 b≤b.length by omega)]
      rfl
  · have e6:=B0h b 6 1 (by omega)
    simp only [Int.cast_ofNat_Int] at e6
    rw [A4 (show ¬ 12+B9 b+J3 b≤b.length by omega)]
    simp only [e6,A3]
    cases (A1V b 0 3).2.1<;>cases (A1V b 3 2).2.1<;>cases (A1V b 5 1).2.1<;>rfl
theorem T5{b:List Int}(hb:Byt b)(hh:b.length≤1048576)(a k:Nat)(k':Int)(e:k' = (k:Int))(hk:1≤k∧k≤7)(h:a+k≤b.length):B8 (b,(a:Int),false) k' = some ((O3 b a k:Int),(b,((a+k:Nat):Int),false),()):=by
  subst e
  simp only [B8,K5,A74 b hb hh _ k hk,A1W b a k h,A3,C1,Bool.not_true,cond_false]
  rw [w64 (by omega) (by omega)]
  rfl
theorem A2q{b:List Int}(hb:Byt b)(hh:b.length≤1048576)(a k:Nat)(k':Int)(e:k' = (k:Int))(hk:1≤k∧k≤7)(h:¬ a+k≤b.length):B8 (b,(a:Int),false) k' = some (0,(b,(a:Int),true),()):=by
  subst e
  simp only [B8,K5,A74 b hb hh _ k hk,B0h b a k h,A3,C1,Bool.not_false,cond_false,cond_true]
theorem C5H{b:List Int}(hb:Byt b)(hh:b.length≤1048576)(a:Int)(k:Nat)(k':Int)(e:k' = (k:Int))(hk:1≤k∧k≤7):B8 (b,a,true) k' = some (0,(b,a,true),()):=by
  subst e
  simp only [B8,K5,A74 b hb hh _ k hk,A3,C1,cond_true]
theorem C42(b:List Int)(a n:Int):E4 (b,a,true) n=some ([],(b,a,true),()):=by
  simp only [E4,M7,cond_true,C1]
theorem B0j{b:List Int}(hh:b.length≤1048576)(a n:Nat)(h:a+n≤b.length):E4 (b,(a:Int),false) (n:Int)=some ((b.take (a+n)).drop a,(b,((a+n:Nat):Int),false),()):=by
  simp only [E4,M7,cond_false]
  rw [w64 (n:=(b.length:Int)-(a:Int)) (by omega) (by omega),A4 (by omega),w64 (n:=(a:Int)+(n:Int)) (by omega) (by omega),w64 (n:=(a:Int)+(n:Int)-(n:Int)) (by omega) (by omega)]
  simp only [cond_false,C1]
  rw [A0 (by omega),A0 (by omega),A0 (by omega)]
  simp only [cond_true]
  rw [A4H _ (by simp;omega),show ((a:Int)+(n:Int)).toNat=a+n by omega,show ((a:Int)+(n:Int)-(n:Int)).toNat=a by omega]
  rfl
theorem B3O{b:List Int}(hh:b.length≤1048576)(a n:Nat)(ha:a≤b.length)(h:¬ a+n≤b.length):E4 (b,(a:Int),false) (n:Int)=some ([],(b,(a:Int),true),()):=by
  simp only [E4,M7,cond_false]
  rw [w64 (n:=(b.length:Int)-(a:Int)) (by omega) (by omega),A0 (by omega)]
  rfl
theorem A77(s:ByteArray)(hs:s.size≤1048576):S3 s=some (B7 s):=by
  have hbl:=bytesOf_length s
  have hb:=A3w s
  have hh:(bytesOf s).length≤1048576:=by omega
  have hsz:s.size=(bytesOf s).length:=hbl.symm
  simp only [B7,A3x,hsz]
  have hlen:decide ((bytesOf s).length≤9223372036854775807)=true:=A0 (by omega)
  simp only [S3,A8t,hsz,hlen,cond_true]
  clear hlen hsz
  generalize bytesOf s=b at hb hh ⊢
  clear hbl
  have nb:∀ (a:Int) (k:Nat) (k':Int),k' = (k:Int)→1≤k∧k≤7→B8 (b,a,true) k' = some (0,(b,a,true),()):=fun a k k' e hk=>C5H hb hh a k k' e hk
  have nb1:∀ a:Int,B8 (b,a,true) 1=some (0,(b,a,true),()):=fun a=>nb a 1 1 rfl (by omega)
  have nb2:∀ a:Int,B8 (b,a,true) 2=some (0,(b,a,true),()):=fun a=>nb a 2 2 rfl (by omega)
  have nb4:∀ a:Int,B8 (b,a,true) 4=some (0,(b,a,true),()):=fun a=>nb a 4 4 rfl (by omega)
  have tb:=C42 b
  have z0:((0:Int),false)=(((0:Nat):Int),false):=rfl
  rw [z0]
  by_cases c4:12+B9 b+J3 b≤b.length
  · have hn':B9 b<256:=B2P hb _
    have hm':J3 b<256:=B2P hb _
    have hN:(O3 b 6 1:Int)=((B9 b:Nat):Int):=rfl
    have hM:(O3 b (11+B9 b) 1:Int)=((J3 b:Nat):Int):=rfl
    rw [T5 hb hh 0 3 3 rfl (by omega) (by omega)]
    simp only [A3]
    rw [T5 hb hh (0+3) 2 2 rfl (by omega) (by omega)]
    simp only
    rw [T5 hb hh (0+3+2) 1 1 rfl (by omega) (by omega)]
    simp only
    rw [T5 hb hh (0+3+2+1) 1 1 rfl (by omega) (by omega)]
    simp only [Nat.zero_add,Nat.reduceAdd,hN]
    rw [B0j hh 7 (B9 b) (by omega)]
    simp only
    rw [T5 hb hh (7+B9 b) 4 4 rfl (by omega) (by omega)]
    simp only
    rw [T5 hb hh (7+B9 b+4) 1 1 rfl (by omega) (by omega)]
    simp only
    rw [show 7+B9 b+4=11+B9 b by omega,hM,show 11+B9 b+1=12+B9 b by omega,B0j hh (12+B9 b) (J3 b) (by omega)]
    simp only [cond_false]
    have hr:(((O3 b 0 3:Nat):Int),((O3 b 3 2:Nat):Int),((O3 b 5 1:Nat):Int),strOf ((b.take (7+B9 b)).drop 7),((O3 b (7+B9 b) 4:Nat):Int),(b.take (12+B9 b+J3 b)).drop (12+B9 b))=recAt b:=rfl
    obtain ⟨l1,l2⟩:=B5V b c4
    rw [hr,B3M _ (by rw [l1];simp only [maxLen];omega),B1N _ (by rw [l1];simp only [maxLen];omega) (B0i hb)]
    rw [A0 c4]
    simp only [Bool.true_and]
    cases K4 (recAt b)
    · rfl
    · cases hp:((N1 (recAt b)).toList == s.toList)
      · simp [hp];rfl
      · simp [hp]
  · rw [A4 c4]
    have fin:(if (false&&K4 (recAt b)&&((N1 (recAt b)).toList == s.toList))=true then (recAt b,true,()) else C1G)=C1G:=by simp
    rw [fin]
    rcases Nat.lt_or_ge b.length (0+3) with d3 | d3
    · rw [A2q hb hh 0 3 3 rfl (by omega) (by omega)]
      simp only [A3,nb1,nb2,nb4,tb]
      rfl
    rw [T5 hb hh 0 3 3 rfl (by omega) d3]
    simp only [A3]
    rcases Nat.lt_or_ge b.length (0+3+2) with d5 | d5
    · rw [A2q hb hh (0+3) 2 2 rfl (by omega) (by omega)]
      simp only [nb1,nb2,nb4,tb]
      rfl
    rw [T5 hb hh (0+3) 2 2 rfl (by omega) d5]
    simp only
    rcases Nat.lt_or_ge b.length (0+3+2+1) with d6 | d6
    · rw [A2q hb hh (0+3+2) 1 1 rfl (by omega) (by omega)]
      simp only [nb1,nb2,nb4,tb]
      rfl
    rw [T5 hb hh (0+3+2) 1 1 rfl (by omega) d6]
    simp only
    rcases Nat.lt_or_ge b.length (0+3+2+1+1) with d7 | d7
    · rw [A2q hb hh (0+3+2+1) 1 1 rfl (by omega) (by omega)]
      simp only [nb1,nb2,nb4,tb]
      rfl
    rw [T5 hb hh (0+3+2+1) 1 1 rfl (by omega) d7]
    have hN:(O3 b 6 1:Int)=((B9 b:Nat):Int):=rfl
    have hM:(O3 b (11+B9 b) 1:Int)=((J3 b:Nat):Int):=rfl
    simp only [Nat.zero_add,Nat.reduceAdd,hN]
    rcases Nat.lt_or_ge b.length (7+B9 b) with e7 | e7
    · rw [B3O hh 7 (B9 b) (by omega) (by omega)]
      simp only [nb1,nb2,nb4,tb]
      rfl
    rw [B0j hh 7 (B9 b) e7]
    simp only
    rcases Nat.lt_or_ge b.length (7+B9 b+4) with e11 | e11
    · rw [A2q hb hh (7+B9 b) 4 4 rfl (by omega) (by omega)]
      simp only [nb1,nb2,nb4,tb]
      rfl
    rw [T5 hb hh (7+B9 b) 4 4 rfl (by omega) e11]
    simp only
    rcases Nat.lt_or_ge b.length (7+B9 b+4+1) with e12 | e12
    · rw [A2q hb hh (7+B9 b+4) 1 1 rfl (by omega) (by omega)]
      simp only [nb1,nb2,nb4,tb]
      rfl
    rw [T5 hb hh (7+B9 b+4) 1 1 rfl (by omega) e12]
    simp only
    rw [show 7+B9 b+4=11+B9 b by omega,hM,show 11+B9 b+1=12+B9 b by omega,B3O hh (12+B9 b) (J3 b) (by omega) c4]
    rfl
theorem A2r:∀ x:List UInt8,Op.bytesLess x x=false
  | []=>rfl
  | a::x=>by
    have h:¬ a<a:=UInt8.lt_irrefl a
    simp [Op.bytesLess,A2r x,h]
theorem A9o:∀ {x y z:List UInt8},Op.bytesLess x y=true→Op.bytesLess y z=true→Op.bytesLess x z=true
  | _,[],_,h,_=>by cases ‹List UInt8›<;>simp [Op.bytesLess] at h
  | _,_::_,[],_,h=>by simp [Op.bytesLess] at h
  | [],_::_,_::_,_,_=>rfl
  | a::x,b::y,c::z,h1,h2=>by
    simp only [Op.bytesLess,Bool.or_eq_true,Bool.and_eq_true,decide_eq_true_eq,beq_iff_eq] at h1 h2 ⊢
    rcases h1 with h1 | ⟨rfl,h1⟩
    · rcases h2 with h2 | ⟨rfl,h2⟩
      · exact .inl (UInt8.lt_trans h1 h2)
      · exact .inl h1
    · rcases h2 with h2 | ⟨rfl,h2⟩
      · exact .inl h2
      · exact .inr ⟨rfl,A9o h1 h2⟩
theorem B7h:∀ {x y:List UInt8},Op.bytesLess x y=false→Op.bytesLess y x=false→x=y
  | [],[],_,_=>rfl
  | [],_::_,h,_=>by simp [Op.bytesLess] at h
  | _::_,[],_,h=>by simp [Op.bytesLess] at h
  | a::x,b::y,h1,h2=>by
    simp only [Op.bytesLess,Bool.or_eq_false_iff,decide_eq_false_iff_not,Bool.and_eq_false_iff,beq_eq_false_iff_ne] at h1 h2
    have hab:a=b:=by
      apply UInt8.le_antisymm
      · exact UInt8.not_lt.1 h2.1
      · exact UInt8.not_lt.1 h1.1
    subst hab
    exact congrArg (a::·) (B7h (by simpa using h1.2) (by simpa using h2.2))
theorem C43{x y:List UInt8}(h:Op.bytesLess x y=true):Op.bytesLess y x=false:=by
  cases e:Op.bytesLess y x with
  | false=>rfl
  | true=>have:=A9o h e;rw [A2r] at this;cases this
def Ord(us:List TUp):Prop:=us.Pairwise fun a b=>Op.bytesLess a.1.toList b.1.toList=true
theorem B6U{us:List TUp}(h:Ord us){i j:Nat}(hij:i<j)(hj:j<us.length):Op.bytesLess (us[i]'(by omega)).1.toList us[j].1.toList=true:=List.pairwise_iff_getElem.1 h i j (by omega) hj hij
def A7(us:List TUp)(id:ByteArray):Nat:=K3 (fun i=>Op.bytesLess (rd kUp us (i:Int)).1.toList id.toList) 0 us.length
def H1(us:List TUp)(id:ByteArray):Bool:=decide (A7 us id<us.length)&&((rd kUp us (A7 us id:Int)).1.toList == id.toList)
theorem A3y(go:Nat→Bool):∀ k i j,i≤j→j<K3 go i k→go j=true
  | 0,i,j,h1,h2=>by simp only [K3] at h2;omega
  | k+1,i,j,h1,h2=>by
    simp only [K3] at h2
    split at h2
    · rename_i hg
      by_cases e:j=i
      · rw [e];exact hg
      · exact A3y go k (i+1) j (by omega) h2
    · omega
theorem A3z(go:Nat→Bool)(n p:Nat)(hp:p≤n)(h1:∀ j,j<p→go j=true)(h2:p<n→go p=false):K3 go 0 n=p:=by
  have hl:=B0e go n 0
  rcases Nat.lt_trichotomy (K3 go 0 n) p with h | h | h
  · have:=A2l go n 0 (by omega)
    rw [h1 _ h] at this;cases this
  · exact h
  · have:=A3y go n 0 p (by omega) h
    rw [h2 (by omega)] at this;cases this
theorem A20(us:List TUp)(id:ByteArray):A7 us id≤us.length:=by have:=B0e (fun i=>Op.bytesLess (rd kUp us (i:Int)).1.toList id.toList) us.length 0;unfold A7;omega
theorem A78{us:List TUp}{id:ByteArray}{j:Nat}(hj:j<A7 us id):Op.bytesLess (us[j]'(by have:=A20 us id;omega)).1.toList id.toList=true:=by
  have:=A3y _ us.length 0 j (by omega) hj
  rwa [E0 (k:=kUp) (xs:=us) (by have:=A20 us id;omega)] at this
theorem A9p{us:List TUp}{id:ByteArray}(h:A7 us id<us.length):Op.bytesLess us[A7 us id].1.toList id.toList=false:=by
  have:=A2l (fun i=>Op.bytesLess (rd kUp us (i:Int)).1.toList id.toList) us.length 0 (by unfold A7 at h;omega)
  have h2:Op.bytesLess (rd kUp us (A7 us id:Int)).1.toList id.toList=false:=this
  rwa [E0 (k:=kUp) (xs:=us) h] at h2
theorem C44{us:List TUp}(ho:Ord us){id:ByteArray}{j:Nat}(hj:A7 us id≤j)(hl:j<us.length):Op.bytesLess us[j].1.toList id.toList=false:=by
  rcases Nat.eq_or_lt_of_le hj with e | h
  · subst e;exact A9p hl
  · cases e:Op.bytesLess us[j].1.toList id.toList with
    | false=>rfl
    | true=>
      have:=A9o (B6U ho h hl) e
      rw [A9p (by omega)] at this
      cases this
theorem F6{us:List TUp}{id:ByteArray}:H1 us id=true↔∃ h:A7 us id<us.length,us[A7 us id].1.toList=id.toList:=by
  unfold H1
  constructor
  · intro h
    simp only [Bool.and_eq_true,decide_eq_true_eq,beq_iff_eq] at h
    refine ⟨h.1,?_⟩
    have h2:=h.2
    rwa [E0 (k:=kUp) (xs:=us) h.1] at h2
  · rintro ⟨h,e⟩
    simp only [Bool.and_eq_true,decide_eq_true_eq,beq_iff_eq]
    refine ⟨h,?_⟩
    rw [E0 (k:=kUp) (xs:=us) h]
    exact e
theorem A9q{us:List TUp}(ho:Ord us){id:ByteArray}(hn:H1 us id=false){j:Nat}(hj:A7 us id≤j)(hl:j<us.length):Op.bytesLess id.toList us[j].1.toList=true:=by
  cases e:Op.bytesLess id.toList us[j].1.toList with
  | true=>rfl
  | false=>
    have h1:=B7h (C44 ho hj hl) e
    exfalso
    rcases Nat.eq_or_lt_of_le hj with e2 | h
    · subst e2
      have:=F6.2 ⟨hl,h1⟩
      rw [hn] at this;cases this
    · have h2:=B6U ho h hl
      rw [h1,A9p (by omega)] at h2
      cases h2
theorem A9r{us:List TUp}(ho:Ord us){id:ByteArray}(h:H1 us id=true):B1s us id=A7 us id:=by
  obtain ⟨hl,e⟩:=F6.1 h
  refine A3z _ us.length _ (A20 us id) (fun j hj=>?_) (fun _=>?_)
  · rw [E0 (k:=kUp) (xs:=us) (by omega)]
    have h1:=A78 hj
    cases e2:((us[j]'(by omega)).1.toList == id.toList) with
    | false=>rfl
    | true=>
      rw [eq_of_beq e2,A2r] at h1
      cases h1
  · rw [E0 (k:=kUp) (xs:=us) hl,e]
    simp
theorem B3P{us:List TUp}(ho:Ord us){id:ByteArray}(h:H1 us id=false):B1s us id=us.length:=by
  refine A3z _ us.length _ (Nat.le_refl _) (fun j hj=>?_) (fun h=>by omega)
  rw [E0 (k:=kUp) (xs:=us) hj]
  cases e2:(us[j].1.toList == id.toList) with
  | false=>rfl
  | true=>
    exfalso
    have e3:=eq_of_beq e2
    by_cases hp:j<A7 us id
    · have h1:=A78 hp
      rw [e3,A2r] at h1
      cases h1
    · have h1:=A9q ho h (show A7 us id≤j by omega) hj
      rw [e3,A2r] at h1
      cases h1
theorem B5W(us:List TUp)(id:ByteArray)(h:us.length≤maxLen):W4 us id=some ((A7 us id:Int),H1 us id,()):=by
  simp only [W4,A9k]
  have e:=A1x (A39 us id) (fun i=>((i:Int),())) us.length (fun i=>((i:Int),())) (fun i=>Op.bytesLess (rd kUp us (i:Int)).1.toList id.toList) (fun i hi=>?_) ?_
  · have e':C3 (A39 us id) (0,())=some ((A7 us id:Int),()):=e
    rw [e']
    simp only [A3]
    have hle:=A20 us id
    unfold H1
    by_cases hl:A7 us id<us.length
    · rw [A0 (show (A7 us id:Int)<(us.length:Int) by omega),A0 (show (0:Int)≤(A7 us id:Int) by omega),A0 hl]
      simp
    · rw [A4 (show ¬ (A7 us id:Int)<(us.length:Int) by omega),A4 hl]
      simp
  · have h1:((i:Int)<(us.length:Int)):=by omega
    have h2:(0:Int)≤(i:Int):=by omega
    simp only [A39,A0 h1,A0 h2,cond_true]
    rw [w64 (by omega) (by simp only [maxLen] at h;omega)]
    cases Op.bytesLess (rd kUp us (i:Int)).1.toList id.toList<;>simp
  · simp [A39]
theorem A95(us:List TUp)(h:us.length≤1048576)(hd:∀ u∈us,List.length u.2.2.1≤2000000000):H6 us=some (us,()):=by
  simp only [H6,A0h]
  have key:=I7 (X9 us) (fun i=>((i:Int),us.take i,())) us.length (us,()) (fun i hi=>?_) ?_
  · simpa using key
  · have h1:((i:Int)<(us.length:Int)):=by omega
    have h2:(0:Int)≤(i:Int):=by omega
    have hu:List.length (rd kUp us (i:Int)).2.2.1≤2000000000:=by
      rw [E0 (k:=kUp) (xs:=us) hi]
      exact hd _ (List.getElem_mem hi)
    have e:((rd kUp us (i:Int)).1,(rd kUp us (i:Int)).2.1,[]++(rd kUp us (i:Int)).2.2.1,(rd kUp us (i:Int)).2.2.2)=us[i]:=by
      rw [E0 (k:=kUp) (xs:=us) hi]
      rfl
    simp only [X9,A0 h1,A0 h2,cond_true,e]
    rw [A0 (by simp;omega),A0 (by simp;omega),A0 (by simp;omega),A0 (by simp;omega),w64 (by omega) (by omega)]
    simp only [cond_true]
    rw [List.take_succ_eq_append_getElem hi]
    rfl
  · simp [X9]
theorem B9Z(us:List TUp)(u:TUp)(ho:Ord us)(h:us.length≤1048576)(hd:∀ u∈us,List.length u.2.2.1≤2000000000) :
    ∃ k,k≤us.length∧I5 us u=some (us.take k++u::us.drop k,())∧(H1 us u.1=false→k=A7 us u.1):=by
  simp only [I5,Q4,A95 us h hd,A3]
  rw [A0 (by simp;omega),A0 (by simp;omega)]
  simp only [cond_true]
  have hst:IntKind.i64.wrap (((us ++ [u]).length:Int)-1)=(us.length:Int):=by
    rw [w64 (by simp only [List.length_append,List.length_singleton];omega) (by simp only [List.length_append,List.length_singleton];omega)]
    simp
  rw [hst]
  obtain ⟨z,e,k,hz1,hz2,hz3⟩:=A0Q (O4 u) (fun l=>l.1.toNat)
    (fun l=>∃ (k:Nat) (c:TUp),l.1=(k:Int)∧k≤us.length∧l.2.1=us.take k++c::us.drop k∧(H1 us u.1=false→A7 us u.1≤k))
    (fun z=>∃ k:Nat,k≤us.length∧(H1 us u.1=false→k=A7 us u.1)∧∃ c,z=((k:Int),us.take k++c::us.drop k,())) (fun l hl=>by
      obtain ⟨l1,l2,l3⟩:=l
      obtain ⟨k,c,h1,h2,h3,h4⟩:=hl
      simp only at h1 h3
      subst h1;subst h3
      simp only [O4]
      by_cases hk:k=0
      · subst hk
        refine .inr ⟨_,by rw [A4 (by omega)];rfl,0,by omega,fun q=>?_,c,rfl⟩
        have:=h4 q;omega
      · obtain ⟨k,rfl⟩:∃ k',k=k'+1:=⟨k-1,by omega⟩
        have hlen:(us.take (k+1)++c::us.drop (k+1)).length=us.length+1:=by simp;omega
        have ew:IntKind.i64.wrap (((k+1:Nat):Int)-1)=(k:Int):=by rw [w64 (by omega) (by omega)];omega
        have hget:rd (.pair .str (.pair (.int .i64) (.pair (.rs 5 (.int .u8)) .bool))) (us.take (k+1)++c::us.drop (k+1)) (k:Int)=us[k]'(by omega):=by
          rw [E0 (k:=.pair .str (.pair (.int .i64) (.pair (.rs 5 (.int .u8)) .bool))) (xs:=us.take (k+1)++c::us.drop (k+1)) (by rw [hlen];omega)]
          rw [List.getElem_append_left (by simp;omega),List.getElem_take]
        rw [A0 (show ((k+1:Nat):Int)>0 by omega),ew,hlen,A0 (show (0:Int)≤(k:Int) by omega),A0 (show (k:Int)<((us.length+1:Nat):Int) by omega),hget]
        simp only [cond_true]
        have hlen2:(k:Int)+1=((k+1:Nat):Int):=by omega
        cases hc:(!(Op.bytesLess (us[k]'(by omega)).1.toList u.1.toList||((us[k]'(by omega)).1.toList == u.1.toList))) with
        | false=>
          refine Or.inr ⟨(((k+1:Nat):Int),us.take (k+1)++c::us.drop (k+1),()),rfl,k+1,h2,fun q=>?_,c,rfl⟩
          have h5:=h4 q
          by_cases hkp:A7 us u.1≤k
          · have h6:=A9q ho q hkp (by omega)
            simp only [Bool.not_eq_false',Bool.or_eq_true,beq_iff_eq] at hc
            rcases hc with hc | hc
            · rw [C43 h6] at hc;cases hc
            · rw [hc,A2r] at h6;cases h6
          · omega
        | true=>
          refine Or.inl ⟨((k:Int),us.take k++(us[k]'(by omega))::us.drop k,()),?_,⟨k,us[k]'(by omega),rfl,by omega,rfl,fun q=>?_⟩,by simp only;omega⟩
          · simp only [cond_true,C1]
            rw [A0 (show (0:Int)≤((k+1:Nat):Int) by omega),A0 (show ((k+1:Nat):Int)<((us.length+1:Nat):Int) by omega)]
            simp only [cond_true,A3,Int.toNat_natCast]
            have e1:(us.take (k+1)++c::us.drop (k+1)).set (k+1) (us[k]'(by omega))=us.take k++(us[k]'(by omega))::us.drop k:=by
              rw [List.set_append_right _ _ (by simp;omega)]
              rw [show (us.take (k+1)).length=k+1 by simp;omega,Nat.sub_self,List.set_cons_zero,List.take_succ_eq_append_getElem (by omega),List.append_assoc,List.drop_eq_getElem_cons (i:=k) (by omega)]
              rfl
            rw [e1]
          · have h5:=h4 q
            by_cases hkp:k<A7 us u.1
            · have h6:=A78 hkp
              rw [h6] at hc
              simp at hc
            · omega) ((us.length:Int),us ++ [u],()) ⟨us.length,u,rfl,Nat.le_refl _,by simp,fun _=>A20 us u.1⟩
  obtain ⟨c,rfl⟩:=hz3
  rw [e]
  simp only
  have hlen:(us.take k++c::us.drop k).length=us.length+1:=by simp;omega
  rw [A0 (by omega),A0 (by rw [hlen];omega)]
  simp only [cond_true,Int.toNat_natCast]
  refine ⟨k,hz1,?_,hz2⟩
  rw [List.set_append_right _ _ (by simp;omega),show (us.take k).length=k by simp;omega,Nat.sub_self,List.set_cons_zero]
def A79(r:D8):Prop:=K4 r=true∧Byt r.2.2.2.2.2
def UpG(u:TUp):Prop:=(List.length u.2.2.1:Int)≤u.2.1∧u.2.1≤1000000000∧u.1.size≤8∧Byt u.2.2.1
def Ups(us:List TUp):Prop:=Ord us∧us.length≤10∧∀ u∈us,UpG u
theorem B2Q:Ups []:=⟨List.Pairwise.nil,by simp,fun u hu=>by cases hu⟩
theorem A7y{us:List TUp}(h:Ups us):∀ u∈us,List.length u.2.2.1≤2000000000:=fun u hu=>by have h1:=(h.2.2 u hu).1;have h2:=(h.2.2 u hu).2.1;omega
def H4(us:List TUp)(r:D8):Option (List TUp):=
  let p:=A7 us r.2.2.2.1
  let u:=rd kUp us (p:Int)
  if r.2.2.1=1 then (if H1 us r.2.2.2.1=true∨10≤us.length then none else some (us.take p++(r.2.2.2.1,r.2.2.2.2.1,[],false)::us.drop p))
  else if H1 us r.2.2.2.1=false then none
  else if r.2.2.1=2 then (if u.2.2.2=true∨r.2.2.2.2.1≠(List.length u.2.2.1:Int)∨(List.length u.2.2.1:Int)+(List.length r.2.2.2.2.2:Int)>u.2.1 then none else some (us.set p (u.1,u.2.1,u.2.2.1++r.2.2.2.2.2,u.2.2.2)))
  else if r.2.2.1=3 then (if u.2.2.2=true∨(List.length u.2.2.1:Int)≠u.2.1 then none else some (us.set p (u.1,u.2.1,u.2.2.1,true)))
  else if r.2.2.1=4 then some (us.take p++us.drop (p+1))
  else none
def A67(us:List TUp)(r:D8):List TUp×Bool×Unit:=match H4 us r with
  | some us'=>(us',true,())
  | none=>([],false,())
theorem B5X(us:List TUp)(r:D8)(h:Ups us)(h2:List.length r.2.2.2.2.2≤1048576):A1u us r=some (A67 us r):=by
  have hl:=h.2.1
  have hp:=A20 us r.2.2.2.1
  simp only [A1u,B3B,B5W us _ (show us.length≤maxLen by simp only [maxLen];omega),A3,A67,H4]
  by_cases k1:r.2.2.1=1
  · rw [A0 k1,if_pos k1]
    simp only [cond_true]
    cases hh:H1 us r.2.2.2.1 with
    | true=>simp [C1]
    | false=>
      by_cases h10:10≤us.length
      · rw [A0 (show (us.length:Int)≥10 by omega),if_pos (.inr h10)]
        rfl
      · rw [A4 (show ¬ (us.length:Int)≥10 by omega),if_neg (by simp;omega)]
        simp only [cond_false,C1,G6,C1D]
        rw [A0 (by omega),A0 (by omega),A0 (by simp),A0 (by simp;omega)]
        simp [A3]
  rw [A4 k1,if_neg k1]
  simp only [cond_false]
  cases hh:H1 us r.2.2.2.1 with
  | false=>simp
  | true=>
    obtain ⟨hlt,hid⟩:=F6.1 hh
    have hu:(List.length us[A7 us r.2.2.2.1].2.2.1:Int)≤us[A7 us r.2.2.2.1].2.1∧us[A7 us r.2.2.2.1].2.1≤1000000000:=⟨(h.2.2 _ (List.getElem_mem hlt)).1,(h.2.2 _ (List.getElem_mem hlt)).2.1⟩
    have hrd:rd kUp us (A7 us r.2.2.2.1:Int)=us[A7 us r.2.2.2.1]:=E0 (k:=kUp) (xs:=us) hlt
    simp only [Bool.not_true,cond_false,Bool.true_eq_false,if_false]
    rw [A0 (by omega),A0 (by omega)]
    simp only [cond_true,Int.toNat_natCast,hrd]
    generalize us[A7 us r.2.2.2.1]=u at hu hid ⊢
    by_cases k2:r.2.2.1=2
    · rw [A0 k2,if_pos k2]
      simp only [cond_true]
      cases hd:u.2.2.2 with
      | true=>simp [C1]
      | false=>
        by_cases hn:r.2.2.2.2.1=(List.length u.2.2.1:Int)
        · rw [A0 hn,w64 (by omega) (by omega)]
          by_cases hw:(List.length u.2.2.1:Int)+(List.length r.2.2.2.2.2:Int)>u.2.1
          · rw [A0 hw,if_pos (.inr (.inr hw))]
            rfl
          · rw [A4 hw,if_neg (by simp [hn];omega)]
            simp only [Bool.not_true,cond_false,C1]
            rw [A0 (by omega),A0 (by omega)]
            rfl
        · rw [A4 hn,if_pos (.inr (.inl hn))]
          rfl
    rw [A4 k2,if_neg k2]
    by_cases k3:r.2.2.1=3
    · rw [A0 k3,if_pos k3]
      simp only [cond_true,cond_false]
      cases hd:u.2.2.2 with
      | true=>simp
      | false=>
        by_cases hn:(List.length u.2.2.1:Int)=u.2.1
        · rw [A0 hn,if_neg (by simp [hn])]
          rfl
        · rw [A4 hn,if_pos (.inr hn)]
          rfl
    rw [A4 k3,if_neg k3]
    by_cases k4:r.2.2.1=4
    · rw [A0 k4,if_pos k4,w64 (n:=(A7 us r.2.2.2.1:Int)+1) (by omega) (by omega)]
      simp only [cond_true,cond_false,G8,C1C]
      rw [A0 (by omega),A0 (by omega),A0 (by omega)]
      simp only [cond_true,Int.toNat_natCast]
      rw [show ((A7 us r.2.2.2.1:Int)+1).toNat=A7 us r.2.2.2.1+1 by omega]
    rw [A4 k4,if_neg k4]
    rfl
theorem B7i(us:List TUp)(r:D8)(h:Ups us)(h2:List.length r.2.2.2.2.2≤1048576):∃ x,D6 us r=some (x,(A67 us r).2.1,())∧((A67 us r).2.1=true→x=(A67 us r).1):=by
  have hl:=h.2.1
  have hp:=A20 us r.2.2.2.1
  have hat:=B3K us r.2.2.2.1 (show us.length≤maxLen by simp only [maxLen];omega)
  have hcp:=A95 us (by omega) (A7y h)
  obtain ⟨k,hk,hmk,hmk2⟩:=B9Z us (r.2.2.2.1,r.2.2.2.2.1,[],false) h.1 (by omega) (A7y h)
  simp only [D6,S7,hat,hcp,hmk,A3,A67,H4]
  by_cases k1:r.2.2.1=1
  · rw [A0 k1,if_pos k1]
    simp only [cond_true]
    cases hh:H1 us r.2.2.2.1 with
    | true=>
      obtain ⟨hlt,hid⟩:=F6.1 hh
      rw [A9r h.1 hh,if_pos hlt,A4 (by omega)]
      simp
    | false=>
      have hk2:=hmk2 hh
      simp only at hk2
      rw [B3P h.1 hh,if_neg (Nat.lt_irrefl _),A0 (by omega)]
      simp only [cond_true]
      by_cases h10:10≤us.length
      · rw [A4 (by omega),if_pos (.inr h10)]
        simp
      · rw [A0 (by omega),if_neg (by simp;omega),hk2]
        simp
  rw [A4 k1,if_neg k1]
  simp only [cond_false]
  cases hh:H1 us r.2.2.2.1 with
  | false=>
    rw [B3P h.1 hh,if_neg (Nat.lt_irrefl _),A0 (by omega)]
    simp
  | true=>
    obtain ⟨hlt,hid⟩:=F6.1 hh
    have hu:(List.length us[A7 us r.2.2.2.1].2.2.1:Int)≤us[A7 us r.2.2.2.1].2.1∧us[A7 us r.2.2.2.1].2.1≤1000000000:=⟨(h.2.2 _ (List.getElem_mem hlt)).1,(h.2.2 _ (List.getElem_mem hlt)).2.1⟩
    have hrd:rd kUp us (A7 us r.2.2.2.1:Int)=us[A7 us r.2.2.2.1]:=E0 (k:=kUp) (xs:=us) hlt
    rw [A9r h.1 hh,if_pos hlt,A4 (by omega)]
    simp only [cond_false,Bool.true_eq_false,if_false]
    rw [A0 (by omega),A0 (by omega)]
    simp only [cond_true,Int.toNat_natCast,hrd]
    generalize us[A7 us r.2.2.2.1]=u at hu hid ⊢
    by_cases k2:r.2.2.1=2
    · rw [A0 k2,if_pos k2]
      simp only [cond_true]
      cases hd:u.2.2.2 with
      | true=>simp [C1]
      | false=>
        by_cases hn:r.2.2.2.2.1=(List.length u.2.2.1:Int)
        · rw [A0 hn,hn,w64 (by omega) (by omega)]
          by_cases hw:(List.length u.2.2.1:Int)+(List.length r.2.2.2.2.2:Int)>u.2.1
          · rw [A0 hw,if_pos (.inr (.inr hw))]
            exact ⟨_,rfl,fun e=>by cases e⟩
          · rw [A4 hw,if_neg (by simp;omega)]
            simp only [Bool.not_true,cond_false,C1]
            rw [A0 (by omega),A0 (by omega)]
            exact ⟨_,rfl,fun _=>rfl⟩
        · rw [A4 hn,if_pos (.inr (.inl hn))]
          exact ⟨_,rfl,fun e=>by cases e⟩
    rw [A4 k2,if_neg k2]
    by_cases k3:r.2.2.1=3
    · rw [A0 k3,if_pos k3]
      simp only [cond_true,cond_false]
      cases hd:u.2.2.2 with
      | true=>simp
      | false=>
        by_cases hn:(List.length u.2.2.1:Int)=u.2.1
        · rw [A0 hn,if_neg (by simp [hn])]
          exact ⟨_,rfl,fun _=>rfl⟩
        · rw [A4 hn,if_pos (.inr hn)]
          exact ⟨_,rfl,fun e=>by cases e⟩
    rw [A4 k3,if_neg k3]
    by_cases k4:r.2.2.1=4
    · rw [A0 k4,if_pos k4,w64 (n:=(A7 us r.2.2.2.1:Int)+1) (by omega) (by omega)]
      simp only [cond_true,cond_false]
      rw [A0 (by omega),A0 (by omega),A0 (by omega),A0 (by omega)]
      simp only [cond_true]
      rw [show ((A7 us r.2.2.2.1:Int)+1).toNat=A7 us r.2.2.2.1+1 by omega,A0 (by omega)]
      simp only [cond_true,List.take_length]
      exact ⟨_,rfl,fun _=>rfl⟩
    rw [A4 k4,if_neg k4]
    exact ⟨_,rfl,fun e=>by cases e⟩
theorem C1H{us:List TUp}(h:Ord us)(p:Nat)(hp:p<us.length)(u:TUp)(hu:u.1=us[p].1):Ord (us.set p u):=by
  refine List.pairwise_iff_getElem.2 fun i j hi hj hij=>?_
  simp only [List.length_set] at hi hj
  have hk:∀ q (hq:q<us.length),((us.set p u)[q]'(by simpa using hq)).1=us[q].1:=fun q hq=>by
    rw [List.getElem_set]
    split
    · rename_i e;subst e;exact hu
    · rfl
  rw [hk i hi,hk j hj]
  exact B6U h hij hj
theorem A7A{us us':List TUp}{r:D8}(h:Ups us)(hr':A79 r)(e:H4 us r=some us'):Ups us':=by
  have hr:=hr'.1
  have hp:=A20 us r.2.2.2.1
  have hb:=R2 hr
  simp only [H4] at e
  split at e
  · split at e
    · cases e
    rename_i hc
    injection e with e
    subst e
    have hnh:H1 us r.2.2.2.1=false:=by cases q:H1 us r.2.2.2.1;rfl;exact absurd (.inl q) hc
    refine ⟨?_,by simp;omega,fun u hu=>?_⟩
    · show List.Pairwise _ _
      rw [List.pairwise_append]
      refine ⟨h.1.sublist (List.take_sublist _ _),List.pairwise_cons.2 ⟨fun b hb=>?_,h.1.sublist (List.drop_sublist _ _)⟩,fun a ha b hb=>?_⟩
      · obtain ⟨j,hj,rfl⟩:=List.getElem_of_mem hb
        rw [List.getElem_drop]
        exact A9q h.1 hnh (by omega) _
      · obtain ⟨j,hj,rfl⟩:=List.getElem_of_mem ha
        rw [List.length_take] at hj
        rw [List.getElem_take]
        have h1:=A78 (us:=us) (id:=r.2.2.2.1) (j:=j) (by omega)
        rcases List.mem_cons.1 hb with rfl | hb
        · exact h1
        · obtain ⟨q,hq,rfl⟩:=List.getElem_of_mem hb
          rw [List.getElem_drop]
          rw [List.length_drop] at hq
          exact A9o h1 (A9q h.1 hnh (by omega) (by omega))
    · rcases List.mem_append.1 hu with hu | hu
      · exact h.2.2 u (List.mem_of_mem_take hu)
      · rcases List.mem_cons.1 hu with rfl | hu
        · exact ⟨by simp only [List.length_nil];omega,by simp only;omega,hb.2.2.2.2.1,A0o⟩
        · exact h.2.2 u (List.mem_of_mem_drop hu)
  split at e
  · cases e
  rename_i _ hh
  have hh:H1 us r.2.2.2.1=true:=by cases q:H1 us r.2.2.2.1;exact absurd q hh;rfl
  obtain ⟨hlt,hid⟩:=F6.1 hh
  have hrd:rd kUp us (A7 us r.2.2.2.1:Int)=us[A7 us r.2.2.2.1]:=E0 (k:=kUp) (xs:=us) hlt
  have hu0:=h.2.2 _ (List.getElem_mem hlt)
  simp only [hrd] at e
  split at e
  · split at e
    · cases e
    rename_i hc
    injection e with e
    subst e
    refine ⟨C1H h.1 _ hlt _ rfl,by simp;exact h.2.1,fun u hu=>?_⟩
    rcases List.mem_or_eq_of_mem_set hu with hu | rfl
    · exact h.2.2 u hu
    · refine ⟨?_,hu0.2.1,hu0.2.2.1,B6S hu0.2.2.2 hr'.2⟩
      simp only [List.length_append]
      have:¬ ((List.length us[A7 us r.2.2.2.1].2.2.1:Int)+(List.length r.2.2.2.2.2:Int)>us[A7 us r.2.2.2.1].2.1):=fun q=>hc (.inr (.inr q))
      omega
  split at e
  · split at e
    · cases e
    injection e with e
    subst e
    refine ⟨C1H h.1 _ hlt _ rfl,by simp;exact h.2.1,fun u hu=>?_⟩
    rcases List.mem_or_eq_of_mem_set hu with hu | rfl
    · exact h.2.2 u hu
    · exact hu0
  split at e
  · injection e with e
    subst e
    refine ⟨?_,by have:=h.2.1;simp only [List.length_append,List.length_take,List.length_drop];omega,fun u hu=>?_⟩
    · show List.Pairwise _ _
      rw [List.pairwise_append]
      refine ⟨h.1.sublist (List.take_sublist _ _),h.1.sublist (List.drop_sublist _ _),fun a ha b hb=>?_⟩
      obtain ⟨j,hj,rfl⟩:=List.getElem_of_mem ha
      obtain ⟨q,hq,rfl⟩:=List.getElem_of_mem hb
      rw [List.length_take] at hj
      rw [List.length_drop] at hq
      rw [List.getElem_take,List.getElem_drop]
      exact B6U h.1 (by omega) (by omega)
    · rcases List.mem_append.1 hu with hu | hu
      · exact h.2.2 u (List.mem_of_mem_take hu)
      · exact h.2.2 u (List.mem_of_mem_drop hu)
  · cases e
def G9:List TUp→List D8→Option (List TUp)
  | us,[]=>some us
  | us,r::l=>match H4 us r with
    | some us'=>G9 us' l
    | none=>none
def Z3(l:List D8):List TUp×Bool×Unit:=match G9 [] l with
  | some us=>(us,true,())
  | none=>([],false,())
theorem A40:∀ {l:List D8} {us us':List TUp},Ups us→(∀ r∈l,A79 r)→G9 us l=some us'→Ups us'
  | [],us,us',h,_,e=>by simp only [G9,Option.some.injEq] at e;subst e;exact h
  | r::l,us,us',h,hr,e=>by
    simp only [G9] at e
    split at e
    · rename_i us1 e1
      exact A40 (A7A h (hr r (by simp)) e1) (fun x hx=>hr x (by simp [hx])) e
    · cases e
theorem B5Y{α:Type}(f:α→Option (α⊕((List TUp×Unit)⊕(List TUp×Bool×Unit))))(s:Nat→List TUp→α)(l:List D8)(hr:∀ r∈l,A79 r)
    (hs:∀ (i:Nat) (hi:i<l.length) (us:List TUp),Ups us→f (s i us)=match H4 us l[i] with
      | some us'=>some (.inl (s (i+1) us'))
      | none=>some (.inr (.inr ([],false,()))))
    (he:∀ us,f (s l.length us)=some (.inr (.inl (us,())))):C1 (C3 f (s 0 [])) (fun m=>some (m.1,true,()))=some (Z3 l):=by
  have key:∀ k i us,i+k=l.length→Ups us→C1 (C3 f (s i us)) (fun m=>some (m.1,true,()))=some (match G9 us (l.drop i) with
      | some us'=>(us',true,())
      | none=>([],false,())):=by
    intro k
    induction k with
    | zero=>
      intro i us hi hu
      obtain rfl:i=l.length:=by omega
      rw [V5,he]
      simp [G9,C1]
    | succ k ih=>
      intro i us hi hu
      have hlt:i<l.length:=by omega
      rw [V5,hs i hlt us hu,List.drop_eq_getElem_cons hlt]
      simp only [G9]
      cases e:H4 us l[i] with
      | none=>rfl
      | some us'=>exact ih (i+1) us' (by omega) (A7A hu (hr _ (List.getElem_mem hlt)) e)
  exact key l.length 0 [] (by omega) B2Q
theorem B4k(l:List D8)(hl:l.length≤maxLen)(hr:∀ r∈l,A79 r):A0g l=some (Z3 l):=by
  simp only [A0g,A5d]
  refine B5Y (A0f A1u l) (fun i us=>((i:Int),us,())) l hr (fun i hi us hu=>?_) (fun us=>by simp [A0f])
  have h1:((i:Int)<(l.length:Int)):=by omega
  have h2:(0:Int)≤(i:Int):=by omega
  have hb:=R2 (hr _ (List.getElem_mem hi)).1
  simp only [A0f,A0 h1,A0 h2,cond_true]
  rw [E0 (k:=A2b) (xs:=l) hi,B5X us _ hu (by omega),w64 (by omega) (by simp only [maxLen] at hl;omega)]
  simp only [A3,A67]
  cases H4 us l[i]<;>rfl
theorem A4I(l:List D8)(hl:l.length≤maxLen)(hr:∀ r∈l,A79 r):I1 l=some (Z3 l):=by
  simp only [I1,A0D]
  refine B5Y (P0 D6 l) (fun i us=>((i:Int),us,())) l hr (fun i hi us hu=>?_) (fun us=>by simp [P0])
  have h1:((i:Int)<(l.length:Int)):=by omega
  have h2:(0:Int)≤(i:Int):=by omega
  have hb:=R2 (hr _ (List.getElem_mem hi)).1
  obtain ⟨x,hx,hx2⟩:=B7i us l[i] hu (by omega)
  simp only [P0,A0 h1,A0 h2,cond_true]
  rw [E0 (k:=A2b) (xs:=l) hi,hx,w64 (by omega) (by simp only [maxLen] at hl;omega)]
  simp only [A3,A67] at hx2 ⊢
  cases e:H4 us l[i] with
  | none=>rfl
  | some us'=>
    rw [e] at hx2
    rw [hx2 rfl]
    rfl
def A9s(l:List ByteArray):Prop:=l.length≤1048576∧∀ s∈l,s.size≤1048576
theorem A41{l:List ByteArray}(h:A9s l){i:Nat}(hi:i<l.length):(rd .str l (i:Int)).size≤1048576:=by
  rw [A1U hi]
  exact h.2 _ (List.getElem_mem hi)
theorem B1O{s:ByteArray}(h:(B7 s).2.1=true):A79 (B7 s).1:=by
  unfold B7 at h ⊢
  split at h
  · rename_i hg
    rw [if_pos hg]
    simp only [A3x,Bool.and_eq_true] at hg
    exact ⟨hg.1.2,B0i (A3w s)⟩
  · cases h
theorem C27(d:E5)(h:A9s d.1)(l:Int×Int×List D8×Unit)(h0:0≤l.2.1):A0d S3 d l=L6 F8 d l:=by
  simp only [A0d,L6]
  by_cases hi:l.2.1<(d.1.length:Int)
  · obtain ⟨i,hn⟩:∃ i:Nat,l.2.1=(i:Int):=⟨l.2.1.toNat,by omega⟩
    rw [hn] at hi ⊢
    rw [A1z _ (A41 h (by omega)),A77 _ (A41 h (by omega))]
  · rw [A4 hi]
    rfl
theorem C5I(d:E5)(h:A9s d.1):∃ l,M9 d=some (l,())∧A0e d=some (l,())∧l.length≤d.1.length∧∀ r∈l,A79 r:=by
  have hl:=h.1
  obtain ⟨z,e,hz1,hz2⟩:=A0Q (L6 F8 d) (fun l=>((d.1.length:Int)-l.2.1).toNat) (fun l=>0≤l.2.1∧(List.length l.2.2.1:Int)=l.2.1∧l.2.1≤(d.1.length:Int)∧∀ r∈l.2.2.1,A79 r)
    (fun z=>List.length z.1≤d.1.length∧∀ r∈z.1,A79 r) (fun l hl=>by
      obtain ⟨h0,h1,h2,h3⟩:=hl
      simp only [L6]
      by_cases hi:l.2.1<(d.1.length:Int)
      · obtain ⟨i,hn⟩:∃ i:Nat,l.2.1=(i:Int):=⟨l.2.1.toNat,by omega⟩
        rw [A0 hi,A0 h0]
        simp only [cond_true]
        rw [hn] at hi h0 h1 h2 ⊢
        rw [A1z _ (A41 h (by omega))]
        simp only [A3]
        have hg:=@B1O (rd .str d.1 (i:Int))
        generalize B7 (rd .str d.1 (i:Int))=g at hg ⊢
        have fin:List.length l.2.2.1≤d.1.length∧∀ r∈l.2.2.1,A79 r:=⟨by omega,h3⟩
        cases hk:g.2.1 with
        | false=>exact .inr ⟨_,rfl,fin⟩
        | true=>
          simp only [Bool.not_true,cond_false]
          by_cases e1:g.1.2.1=(i:Int)
          · rw [A0 e1]
            by_cases e2:g.1.1<l.1
            · rw [A0 e2];exact .inr ⟨_,rfl,fin⟩
            · rw [A4 e2]
              simp only [Bool.not_true,cond_false]
              rw [A0 (by simp;omega),A0 (by simp;omega),w64 (by omega) (by omega)]
              refine .inl ⟨_,rfl,⟨by simp only;omega,by simp;omega,by simp only;omega,fun r hr=>?_⟩,by simp only;omega⟩
              rcases List.mem_append.1 hr with hr | hr
              · exact h3 r hr
              · rw [List.mem_singleton.1 hr];exact hg hk
          · rw [A4 e1];exact .inr ⟨_,rfl,fin⟩
      · rw [A4 hi]
        exact .inr ⟨_,rfl,by simp only;omega,h3⟩) (0,0,[],()) ⟨by simp,by simp,by simp,fun r hr=>by cases hr⟩
  refine ⟨z.1,e,?_,hz1,hz2⟩
  simp only [A0e,A5c]
  rw [B7a (g:=L6 F8 d) (fun l=>0≤l.2.1) (fun l h0=>C27 d h l h0) (fun l y h0 e=>?_) (by simp)]
  · exact e
  · simp only [A0d] at e
    by_cases hi:l.2.1<(d.1.length:Int)
    · obtain ⟨i,hn⟩:∃ i:Nat,l.2.1=(i:Int):=⟨l.2.1.toNat,by omega⟩
      rw [A0 hi,A0 h0] at e
      simp only [cond_true] at e
      rw [hn] at hi h0 e
      rw [A77 _ (A41 h (by omega))] at e
      simp only [A3] at e
      rw [w64 (n:=(i:Int)+1) (by omega) (by omega)] at e
      generalize B7 (rd .str d.1 (i:Int))=g at e
      cases hk:g.2.1<;>simp only [hk,Bool.not_true,Bool.not_false,cond_true,cond_false] at e
      · cases e
      · revert e
        cases decide (g.1.2.1=(i:Int))<;>cases decide (g.1.1<l.1)<;>simp only [Bool.not_true,Bool.not_false,cond_true,cond_false]
        · intro e;cases e
        · intro e;cases e
        · cases decide (List.length l.2.2.1+List.length [g.1]≤9223372036854775807)<;>cases decide ((List.length l.2.2.1+List.length [g.1])*72≤140737488355328)<;>intro e
          · cases e
          · cases e
          · cases e
          · simp only [cond_true] at e
            injection e with e;injection e with e;subst e
            simp only;omega
        · intro e;cases e
    · rw [A4 hi] at e
      cases e
theorem C28:A5X=M3:=rfl
theorem B7j(d:E5)(h:d.1.length≤1048576):∃ b,M3 d=some (b,())∧(b=true→d.1.length=d.2.length∧d.1.length≤200):=by
  simp only [M3,A5f]
  by_cases h1:(d.1.length:Int)=(d.2.length:Int)
  · rw [A0 h1]
    by_cases h2:(d.1.length:Int)>200
    · rw [A0 h2]
      exact ⟨_,rfl,fun e=>by cases e⟩
    · rw [A4 h2]
      simp only [Bool.not_true,cond_false,C1]
      refine ⟨_,B5T (S4 d) d.1.length (by simp only [maxLen];omega) (fun i=>!decide (((rd .str d.1 (i:Int)).size:Int)>64)&&!decide (((rd .str d.2 (i:Int)).size:Int)>64)) (fun i hi=>?_) (by simp [S4]),fun _=>by omega⟩
      have g1:((i:Int)<(d.1.length:Int)):=by omega
      have g2:(0:Int)≤(i:Int):=by omega
      have g3:((i:Int)<(d.2.length:Int)):=by omega
      simp only [S4,A0 g1,A0 g2,A0 g3,cond_true]
      cases decide (((rd .str d.1 (i:Int)).size:Int)>64)<;>cases decide (((rd .str d.2 (i:Int)).size:Int)>64)<;>rfl
  · rw [A4 h1]
    exact ⟨_,rfl,fun e=>by cases e⟩
def A1k(a b:TUp):Bool:=(a.1.toList == b.1.toList)&&decide (a.2.1=b.2.1)&&(a.2.2.2 == b.2.2.2)&&((strOf a.2.2.1).toList == (strOf b.2.2.1).toList)
def T6(a b:List TUp):Bool:=decide (a.length=b.length)&&(List.range a.length).all fun i=>A1k (rd kUp a (i:Int)) (rd kUp b (i:Int))
theorem B7k(a b:TUp):A3C a b=some (A1k a b,()):=by
  simp only [A3C,A8u,A1f,A4D,A3,A1k]
  cases (a.1.toList == b.1.toList)<;>cases decide (a.2.1=b.2.1)<;>cases (a.2.2.2 == b.2.2.2)<;>rfl
theorem C29(a b:List TUp)(h:a.length≤maxLen):B1 a b ()=some (T6 a b,()):=by
  simp only [B1,C6,T6]
  by_cases hl:a.length=b.length
  · rw [A0 (show (a.length:Int)=(b.length:Int) by omega),A0 hl]
    simp only [Bool.not_true,cond_false,Bool.true_and]
    refine B5T _ a.length h (fun i=>A1k (rd kUp a (i:Int)) (rd kUp b (i:Int))) (fun i hi=>?_) (by simp [C4])
    have g1:((i:Int)<(a.length:Int)):=by omega
    have g2:(0:Int)≤(i:Int):=by omega
    have g3:((i:Int)<(b.length:Int)):=by omega
    simp only [C4,A0 g1,A0 g2,A0 g3,cond_true,B7k,A3]
    cases A1k (rd kUp a (i:Int)) (rd kUp b (i:Int))<;>rfl
  · rw [A4 (show ¬ (a.length:Int)=(b.length:Int) by omega),A4 hl]
    rfl
theorem B5Z(a b:List TUp)(h:a.length≤maxLen):W7 a b=some (T6 a b,()):=by
  simp only [W7,A3E,T6]
  by_cases hl:a.length=b.length
  · rw [A0 (show (a.length:Int)=(b.length:Int) by omega),A0 hl]
    simp only [Bool.not_true,cond_false,Bool.true_and]
    refine B5T _ a.length h (fun i=>A1k (rd kUp a (i:Int)) (rd kUp b (i:Int))) (fun i hi=>?_) (by simp [A1M])
    have g1:((i:Int)<(a.length:Int)):=by omega
    have g2:(0:Int)≤(i:Int):=by omega
    have g3:((i:Int)<(b.length:Int)):=by omega
    simp only [A1M,A0 g1,A0 g2,A0 g3,cond_true,A1k]
    cases ((rd kUp a (i:Int)).1.toList == (rd kUp b (i:Int)).1.toList)<;>cases decide ((rd kUp a (i:Int)).2.1=(rd kUp b (i:Int)).2.1)<;>cases ((rd kUp a (i:Int)).2.2.2 == (rd kUp b (i:Int)).2.2.2)<;>cases ((strOf (rd kUp a (i:Int)).2.2.1).toList == (strOf (rd kUp b (i:Int)).2.2.1).toList)<;>rfl
  · rw [A4 (show ¬ (a.length:Int)=(b.length:Int) by omega),A4 hl]
    rfl
def Z4(e:Int)(s:ByteArray):Bool:=(B7 s).2.1&&decide ((B7 s).1.1≥e)
def A0R(t:Int)(s:ByteArray):Int:=bif (B7 s).2.1 then (bif decide ((B7 s).1.1>t) then (B7 s).1.1 else t) else t
def A1X(l:List ByteArray):Int:=l.foldl A0R (-1)
theorem A7z(e:Int):∀ (l:List ByteArray) (t:Int),decide (l.foldl A0R t<e)=(decide (t<e)&&l.all fun s=>!Z4 e s)
  | [],t=>(Bool.and_true _).symm
  | s::l,t=>by
    rw [List.foldl_cons,A7z e l,List.all_cons]
    unfold A0R Z4
    cases (B7 s).2.1 with
    | false=>simp
    | true=>
      simp only [cond_true,Bool.true_and]
      by_cases h1:(B7 s).1.1>t
      · rw [A0 h1]
        by_cases h2:(B7 s).1.1≥e
        · rw [A0 h2]
          simp only [cond_true]
          rw [A4 (show ¬ (B7 s).1.1<e by omega)]
          simp
        · rw [A4 h2]
          simp only [cond_true]
          rw [A0 (show (B7 s).1.1<e by omega),A0 (show t<e by omega)]
          simp
      · rw [A4 h1]
        simp only [cond_false]
        by_cases h3:t<e
        · rw [A0 h3,A4 (show ¬ (B7 s).1.1≥e by omega)]
          simp
        · rw [A4 h3]
          simp
theorem B6V(l:List ByteArray)(h:A9s l):A1v l=some (A1X l,()):=by
  have hl:=h.1
  simp only [A1v,A6u]
  have key:=I7 (A1d S3 l) (fun i=>((l.take i).foldl A0R (-1),(i:Int),())) l.length (A1X l,()) (fun i hi=>?_) ?_
  · simpa using key
  · have g1:((i:Int)<(l.length:Int)):=by omega
    have g2:(0:Int)≤(i:Int):=by omega
    simp only [A1d,A0 g1,A0 g2,cond_true]
    rw [A77 _ (A41 h hi),w64 (by omega) (by omega)]
    simp only [A3]
    have e:(l.take (i+1)).foldl A0R (-1)=A0R ((l.take i).foldl A0R (-1)) (rd .str l (i:Int)):=by
      rw [List.take_succ_eq_append_getElem hi,List.foldl_append,A1U hi]
      rfl
    rw [e]
    unfold A0R
    cases (B7 (rd .str l (i:Int))).2.1<;>rfl
  · simp [A1d,A1X]
theorem B9a(go:Nat→Bool)(n:Nat):decide (K3 go 0 n=n)=(List.range n).all go:=by
  rw [Bool.eq_iff_iff]
  simp only [decide_eq_true_eq,List.all_eq_true,List.mem_range]
  constructor
  · intro h j hj
    exact A3y go n 0 j (by omega) (by omega)
  · intro h
    exact A3z go n n (Nat.le_refl _) h (fun h=>by omega)
theorem B5a(st:A5)(h:A9s st.1.1)(n:Nat)(hn:n≤st.1.1.length):C3 (U7 F8 st) ((n:Int),())=some ((st.1.1.drop n).all fun s=>!Z4 st.2.1 s,()):=by
  have hl:=h.1
  have key:=A1x (U7 F8 st) (fun j=>(((n+j:Nat):Int),())) (st.1.1.length-n) (fun j=>(decide (j=st.1.1.length-n),())) (fun j=>!Z4 st.2.1 (rd .str st.1.1 ((n+j:Nat):Int))) (fun j hj=>?_) ?_
  · have e:C3 (U7 F8 st) ((n:Int),())=_:=key
    rw [e,B9a]
    congr 2
    rw [Bool.eq_iff_iff]
    simp only [List.all_eq_true,List.mem_range]
    constructor
    · intro h2 s hs
      obtain ⟨j,hj,rfl⟩:=List.getElem_of_mem hs
      rw [List.length_drop] at hj
      have:=h2 j hj
      rw [A1U (by omega)] at this
      rw [List.getElem_drop]
      exact this
    · intro h2 j hj
      rw [A1U (by omega)]
      refine h2 _ ?_
      rw [List.mem_iff_getElem]
      exact ⟨j,by rw [List.length_drop];omega,by rw [List.getElem_drop]⟩
  · have g1:(((n+j:Nat):Int)<(st.1.1.length:Int)):=by omega
    have g2:(0:Int)≤((n+j:Nat):Int):=by omega
    simp only [U7,A0 g1,A0 g2,cond_true]
    rw [A1z _ (A41 h (by omega)),w64 (by omega) (by omega)]
    simp only [A3,Z4]
    rw [A4 (show ¬ j=st.1.1.length-n by omega)]
    have e2:n+(j+1)=(n+j)+1:=by omega
    simp only [e2,Int.natCast_succ]
    cases (B7 (rd .str st.1.1 ((n+j:Nat):Int))).2.1<;>cases decide ((B7 (rd .str st.1.1 ((n+j:Nat):Int))).1.1≥st.2.1)<;>rfl
  · have g1:¬ (((n+(st.1.1.length-n):Nat):Int)<(st.1.1.length:Int)):=by omega
    simp only [U7,A4 g1,cond_false]
    simp
def B6W(st:A5):Prop:=0≤st.2.1∧st.2.1≤10000∧st.1.1.length=st.1.2.length∧st.1.1.length≤200∧(0≤st.2.2.1∧st.2.2.1≤(st.1.1.length:Int))∧∃ us,Ups us∧T6 us st.2.2.2=true
theorem B9b(st:A5)(h:A9s st.1.1):∃ b,D0 st=some (b,())∧K0 st=some (b,())∧(b=true→B6W st):=by
  have hl:=h.1
  obtain ⟨bd,hd,hdt⟩:=B7j st.1 hl
  obtain ⟨l,hs,hi,hll,hrg⟩:=C5I st.1 h
  have hfs:=A4I l (by simp only [maxLen];omega) hrg
  have hfi:=B4k l (by simp only [maxLen];omega) hrg
  have hups:(Z3 l).2.1=true→Ups (Z3 l).1:=by
    intro e
    unfold Z3 at e ⊢
    split
    · rename_i us' e1
      exact A40 B2Q hrg e1
    · rename_i e1
      rw [e1] at e;cases e
  simp only [D0,A3u,K0,A6v,C28,hd,hs,hi,hfs,hfi,V9,A3n,A1j,A3I,A3]
  cases bd with
  | false=>
    by_cases he:0≤st.2.1∧st.2.1≤10000
    · rw [A0 he]
      exact ⟨_,rfl,rfl,fun e=>by cases e⟩
    · rw [A4 he]
      exact ⟨_,rfl,rfl,fun e=>by cases e⟩
  | true=>
    cases he':decide (0≤st.2.1∧st.2.1≤10000) with
    | false=>exact ⟨_,rfl,rfl,fun e=>by cases e⟩
    | true=>
      have he:=of_decide_eq_true he'
      have hd2:=hdt rfl
      simp only [Bool.not_true,cond_false,C1]
      generalize hf:Z3 l=fr at hups
      cases hk:fr.2.1 with
      | false=>exact ⟨_,rfl,rfl,fun e=>by cases e⟩
      | true=>
        have hu:=hups hk
        have hul:=hu.2.1
        rw [B5Z _ _ (show fr.1.length≤maxLen by simp only [maxLen];omega),C29 _ _ (show fr.1.length≤maxLen by simp only [maxLen];omega)]
        simp only [Bool.not_true,cond_false]
        cases hn':decide (st.2.2.1=(List.length l:Int)) with
        | false=>
          cases T6 fr.1 st.2.2.2<;>exact ⟨_,rfl,rfl,fun e=>by cases e⟩
        | true=>
          have hn:=of_decide_eq_true hn'
          cases hsm:T6 fr.1 st.2.2.2 with
          | false=>exact ⟨_,rfl,rfl,fun e=>by cases e⟩
          | true=>
            have hg:B6W st:=⟨he.1,he.2,hd2.1,hd2.2,by omega,fr.1,hu,hsm⟩
            simp only [Bool.not_true,cond_false]
            rw [hn,B5a st h l.length hll,A0 (show (0:Int)≤(List.length l:Int) by omega),A0 (show (List.length l:Int)≤(st.1.1.length:Int) by omega),Int.toNat_natCast,List.take_length]
            simp only [cond_true]
            have hdr:A9s (st.1.1.drop l.length):=⟨by rw [List.length_drop];omega,fun s hs=>h.2 s (List.mem_of_mem_drop hs)⟩
            rw [B6V _ hdr]
            have htop:decide (st.2.1>A1X (st.1.1.drop l.length))=((st.1.1.drop l.length).all fun s=>!Z4 st.2.1 s):=by
              have:=A7z st.2.1 (st.1.1.drop l.length) (-1)
              rw [A0 (show (-1:Int)<st.2.1 by omega),Bool.true_and] at this
              exact this
            simp only [htop]
            by_cases hl0:(List.length l:Int)>0
            · rw [A0 hl0,w64 (n:=(List.length l:Int)-1) (by omega) (by omega),A0 (show (0:Int)≤(List.length l:Int)-1 by omega),A0 (show (List.length l:Int)-1<(List.length l:Int) by omega)]
              simp only [cond_true]
              have hlt:decide (st.2.1<(rd A2b l ((List.length l:Int)-1)).1)=decide ((rd A2b l ((List.length l:Int)-1)).1>st.2.1):=rfl
              rw [hlt]
              cases decide ((rd A2b l ((List.length l:Int)-1)).1>st.2.1) with
              | true=>exact ⟨_,rfl,rfl,fun e=>by cases e⟩
              | false=>exact ⟨_,rfl,rfl,fun _=>hg⟩
            · rw [A4 hl0]
              exact ⟨_,rfl,rfl,fun _=>hg⟩
theorem C6D{k:K}{b:List k.T}{i:Nat}(h:i<b.length)(u:k.T):rd k (b.set i u) (i:Int)=u:=by
  rw [E0 (xs:=b.set i u) (by simpa using h)]
  simp
theorem B5b(a:List ByteArray)(h:a.length≤1048576):F0 a=some (a,()):=by
  simp only [F0,M5]
  have e:(bif decide (([]:List ByteArray).length+a.length≤9223372036854775807) then bif decide ((([]:List ByteArray).length+a.length)*16≤140737488355328) then some (([]++a),()) else none else none)=some (a,()):=by
    rw [A0 (by simp;omega),A0 (by simp;omega)]
    simp
  rw [e]
  cases a with
  | nil=>simp [B7b]
  | cons x xs=>simp
def A68(d:E5):Prop:=A9s d.1∧A9s d.2
def A5p(s:A5):Prop:=A68 s.1∧List.length s.2.2.2≤1048576∧∀ u∈s.2.2.2,List.length u.2.2.1≤2000000000
theorem B4l(d:E5)(h:A68 d):A0n d=some (d,()):=by
  simp only [A0n,A5m,B5b _ h.1.1,B5b _ h.2.1,A3]
theorem A4J(d:E5)(h:A68 d):O9 d=some (d,()):=by
  have h1:=h.1.1
  have h2:=h.2.1
  simp only [O9,A6z]
  rw [A0 (by simp;omega),A0 (by simp;omega),A0 (by simp;omega),A0 (by simp;omega)]
  simp
theorem B7l(u:TUp)(h:List.length u.2.2.1≤2000000000):M2 u=some (u,()):=by
  simp only [M2,A5V,A4H _ (show List.length u.2.2.1≤140737488355328 by omega),A3]
theorem A3K(s:A5)(h:A5p s):P4 s=some (s,()):=by
  simp only [P4,A4G,B4l _ h.1,A3]
  have hl:=h.2.1
  have key:=I7 (A06 M2 s) (fun i=>((i:Int),s.2.1,s.2.2.1,s.1.1,s.1.2,s.2.2.2.take i,())) s.2.2.2.length (s,()) (fun i hi=>?_) ?_
  · simpa using key
  · have g1:((i:Int)<(s.2.2.2.length:Int)):=by omega
    have g2:(0:Int)≤(i:Int):=by omega
    simp only [A06,A0 g1,A0 g2,cond_true]
    rw [E0 (k:=kUp) (xs:=s.2.2.2) hi,B7l _ (h.2.2 _ (List.getElem_mem hi))]
    simp only [A3]
    rw [A0 (by simp;omega),A0 (by simp;omega),w64 (by omega) (by omega),List.take_succ_eq_append_getElem hi]
    rfl
  · simp [A06]
theorem R3(s:A5)(h:A5p s):I4 s=some (s,()):=by
  simp only [I4,A70,A4J _ h.1,A95 _ h.2.1 h.2.2,A3]
theorem B9c(d:E5)(h:A68 d):Z2 d=some ((d.1,d.1),()):=by
  have h1:=h.1.1
  simp only [Z2,A4E]
  rw [A0 (by simp;omega),A0 (by simp;omega)]
  simp
theorem B4m(d:E5)(h:A9s d.1):A0l d=some (A1X d.1,()):=by
  have hl:=h.1
  simp only [A0l,A5j]
  have key:=I7 (A0k F8 d) (fun i=>((d.1.take i).foldl A0R (-1),(i:Int),())) d.1.length (A1X d.1,()) (fun i hi=>?_) ?_
  · simpa using key
  · have g1:((i:Int)<(d.1.length:Int)):=by omega
    have g2:(0:Int)≤(i:Int):=by omega
    simp only [A0k,A0 g1,A0 g2,cond_true]
    rw [A1z _ (A41 h hi),w64 (by omega) (by omega)]
    simp only [A3]
    have e:(d.1.take (i+1)).foldl A0R (-1)=A0R ((d.1.take i).foldl A0R (-1)) (rd .str d.1 (i:Int)):=by
      rw [List.take_succ_eq_append_getElem hi,List.foldl_append,A1U hi]
      rfl
    rw [e]
    generalize (d.1.take i).foldl A0R (-1)=t
    unfold A0R
    cases (B7 (rd .str d.1 (i:Int))).2.1
    · rfl
    · cases decide ((B7 (rd .str d.1 (i:Int))).1.1>t)<;>rfl
  · simp [A0k,A1X]
theorem B6X(s:ByteArray):(B7 s).1.1≤10000:=by
  unfold B7
  split
  · rename_i h
    simp only [A3x,Bool.and_eq_true] at h
    exact (R2 h.1.2).2.1
  · simp [C1G]
theorem C1I(l:List ByteArray):-1≤A1X l∧A1X l≤10000:=by
  unfold A1X
  have:∀ (l:List ByteArray) (t:Int),-1≤t∧t≤10000→-1≤l.foldl A0R t∧l.foldl A0R t≤10000:=by
    intro l
    induction l with
    | nil=>exact fun t h=>h
    | cons s l ih=>
      intro t h
      refine ih _ ?_
      have h2:=B6X s
      unfold A0R
      cases (B7 s).2.1 with
      | false=>exact h
      | true=>
        by_cases h3:(B7 s).1.1>t
        · rw [A0 h3];simp only [cond_true];omega
        · rw [A4 h3];exact h
  exact this l (-1) (by omega)
theorem B7m{l:List ByteArray}(h:A9s l)(i:Nat){s:ByteArray}(hs:s.size≤1048576):A9s (l.set i s):=⟨by rw [List.length_set];exact h.1,fun x hx=>(List.mem_or_eq_of_mem_set hx).elim (h.2 x) (fun e=>by rw [e];exact hs)⟩
theorem C2A{a b:List Int}(ha:Byt a)(hb:Byt b)(h:(strOf a).toList=(strOf b).toList):a=b:=by
  rw [ByteArray.toList_eq,ByteArray.toList_eq] at h
  have h2:(a.map fun n=>UInt8.ofNat n.toNat)=b.map fun n=>UInt8.ofNat n.toNat:=h
  have hl:a.length=b.length:=by simpa using congrArg List.length h2
  refine List.ext_getElem hl fun i h1 h3=>?_
  have h4:=congrArg (fun l=>l[i]?) h2
  simp only [List.getElem?_map,List.getElem?_eq_getElem h1,List.getElem?_eq_getElem h3,Option.map_some,Option.some.injEq] at h4
  exact C6B (ha _ (List.getElem_mem h1)) (hb _ (List.getElem_mem h3)) h4
theorem B6Y{a b:ByteArray}(h:a.toList=b.toList):a=b:=by
  rw [ByteArray.toList_eq,ByteArray.toList_eq] at h
  obtain ⟨⟨a⟩⟩:=a
  obtain ⟨⟨b⟩⟩:=b
  have h:a=b:=h
  rw [h]
theorem C2B{a b:TUp}(ha:Byt a.2.2.1)(hb:Byt b.2.2.1)(h:A1k a b=true):a=b:=by
  simp only [A1k,Bool.and_eq_true,beq_iff_eq,decide_eq_true_eq] at h
  obtain ⟨⟨⟨h1,h2⟩,h3⟩,h4⟩:=h
  obtain ⟨a1,a2,a3,a4⟩:=a
  obtain ⟨b1,b2,b3,b4⟩:=b
  simp only at h1 h2 h3 h4 ha hb
  rw [B6Y h1,h2,h3,C2A ha hb h4]
theorem B9d{a b:List TUp}(ha:∀ u∈a,Byt u.2.2.1)(hb:∀ u∈b,Byt u.2.2.1)(h:T6 a b=true):a=b:=by
  simp only [T6,Bool.and_eq_true,decide_eq_true_eq,List.all_eq_true,List.mem_range] at h
  refine List.ext_getElem h.1 fun i h1 h3=>?_
  have h4:=h.2 i h1
  rw [E0 (k:=kUp) (xs:=a) h1,E0 (k:=kUp) (xs:=b) h3] at h4
  exact C2B (ha _ (List.getElem_mem h1)) (hb _ (List.getElem_mem h3)) h4
def wrote(st:A5)(r:D8)(us:List TUp):A5:=((st.1.1.set st.2.2.1.toNat (N1 r),st.1.2),st.2.1,st.2.2.1+1,us)
theorem A5q(st:A5)(a b kind:Int)(id:ByteArray)(n:Int)(data:List Int)(hU:Ups st.2.2.2)(hr:K4 (st.2.1,st.2.2.1,kind,id,n,data)=true)(hb:Byt data)(h0:0≤st.2.2.1)(h1:st.2.2.1<(st.1.1.length:Int))(hl:st.1.1.length≤1048576)
    (us:List TUp) (hf:H4 st.2.2.2 (st.2.1,st.2.2.1,kind,id,n,data)=some us):C2 st (a,b,kind,id,n,data)=some (wrote st (st.2.1,st.2.2.1,kind,id,n,data) us,()):=by
  have hbd:=R2 hr
  simp only at hbd
  simp only [C2,A0E]
  rw [B1M (st.2.1,st.2.2.1,kind,id,n,data) (by simp only;omega) (by simp only;omega) hb,A0 h0,A0 h1]
  simp only [A3,cond_true]
  obtain ⟨x,hx,hx2⟩:=B7i st.2.2.2 (st.2.1,st.2.2.1,kind,id,n,data) hU (by simp only;omega)
  have hI:A67 st.2.2.2 (st.2.1,st.2.2.1,kind,id,n,data)=(us,true,()):=by unfold A67;rw [hf]
  rw [hI] at hx hx2
  rw [hx,hx2 rfl,w64 (by omega) (by omega)]
  rfl
theorem B3Q(st:A5)(kind:Int)(id:ByteArray)(n:Int)(data:List Int)(hU:Ups st.2.2.2)(hr:K4 (st.2.1,st.2.2.1,kind,id,n,data)=true)(hb:Byt data)(h0:0≤st.2.2.1)(h1:st.2.2.1<(st.1.1.length:Int))(hl:st.1.1.length≤1048576)
    (us:List TUp) (hf:H4 st.2.2.2 (st.2.1,st.2.2.1,kind,id,n,data)=some us):C7 st kind id n data=some (wrote st (st.2.1,st.2.2.1,kind,id,n,data) us,()):=by
  have hbd:=R2 hr
  simp only at hbd
  simp only [C7,U9]
  rw [B1N (st.2.1,st.2.2.1,kind,id,n,data) (by simp only [maxLen];omega) hb,if_pos hr,A0 h0,A0 h1]
  simp only [A3,cond_true]
  have hI:A67 st.2.2.2 (st.2.1,st.2.2.1,kind,id,n,data)=(us,true,()):=by unfold A67;rw [hf]
  rw [B5X st.2.2.2 (st.2.1,st.2.2.1,kind,id,n,data) hU (by simp only;omega),hI,w64 (by omega) (by omega)]
  rfl
theorem B7n{r:D8}(h:K4 r=true):(N1 r).size≤1000:=by
  have hb:=R2 h
  unfold N1
  rw [A5o,List.length_append,A76,G1]
  omega
theorem B9e{st:A5}(h:A68 st.1){r:D8}(hr:K4 r=true)(us:List TUp):A68 (wrote st r us).1:=⟨B7m h.1 _ (by have:=B7n hr;omega),h.2⟩
theorem B5c(us:List TUp)(id:ByteArray)(h:us.length≤maxLen):N8 us id=some (if H1 us id=true then (A7 us id:Int) else -1):=by
  simp only [N8,B5W us id h,A3]
  cases H1 us id<;>rfl
theorem A9t(us:List TUp)(id:ByteArray)(h:Ups us):J4 us id=some (if H1 us id=true then (A7 us id:Int) else -1,()):=by
  have hl:=h.2.1
  rw [B3K us id (by simp only [maxLen];omega)]
  cases hh:H1 us id with
  | true=>
    obtain ⟨hlt,_⟩:=F6.1 hh
    rw [A9r h.1 hh,if_pos hlt,if_pos rfl]
  | false=>rw [B3P h.1 hh,if_neg (Nat.lt_irrefl _),if_neg (by simp)]
theorem B5d(st:A5)(h0:0≤st.2.2.1)(h1:st.2.2.1≤(st.1.1.length:Int))(hl:st.1.1.length≤1048576):N7 st=some ((st.1.1.length:Int)-st.2.2.1,st,()):=by
  simp only [N7,A3G]
  rw [w64 (by omega) (by omega)]
theorem A80(st:A5)(h0:0≤st.2.2.1)(h1:st.2.2.1≤(st.1.1.length:Int))(hl:st.1.1.length≤1048576):L7 st=some ((st.1.1.length:Int)-st.2.2.1,()):=by
  simp only [L7,A71]
  rw [w64 (by omega) (by omega)]
def F4(n:Int):E5:=if 0≤n∧n≤200 then (List.replicate n.toNat ⟨#[]⟩,List.replicate n.toNat ⟨#[]⟩) else ([],[])
theorem B6Z(n:Int):A1w n=some (F4 n,()):=by
  simp only [A1w,A6y,F4]
  by_cases h:0≤n∧n≤200
  · rw [if_pos h]
    have key:=I7 (Z0 n) (fun i=>((i:Int),List.replicate i ⟨#[]⟩,List.replicate i ⟨#[]⟩,())) n.toNat ((List.replicate n.toNat ⟨#[]⟩,List.replicate n.toNat ⟨#[]⟩),()) (fun i hi=>?_) ?_
    · exact key
    · have h1:(i:Int)<n:=by omega
      simp only [Z0,A0 h1,A0 h.2,cond_true,C1]
      rw [A0 (by simp;omega),A0 (by simp;omega)]
      simp only [cond_true]
      rw [w64 (by omega) (by omega),List.replicate_succ']
      rfl
    · have h1:¬ ((n.toNat:Int)<n):=by omega
      simp only [Z0,A4 h1,cond_false,C1]
  · rw [if_neg h]
    refine C26 ?_
    simp only [Z0]
    by_cases h1:(0:Int)<n
    · rw [A0 h1,A4 (show ¬ n≤200 by omega)];rfl
    · rw [A4 h1];rfl
theorem bO{α β:Type}(x:α)(f:α→Option β):A3 (some x) f=f x:=rfl
theorem A81(c:C0)(n:Int)(h:Cur c)(hn:0<n∧n<9223372036854775808):∃ b c',N6 c n=some (b,c',())∧Cur c':=by
  obtain ⟨r,c',e,hc,_⟩:=A0H c n h hn
  simp only [N6,A90,e,A3]
  exact ⟨_,_,rfl,hc⟩
theorem B9f(c:C0)(h:Cur c):∃ k c',R0 c=some (k,c',())∧Cur c':=by
  obtain ⟨n,c1,q1,h1,n0,n1⟩:=A0H c 8 h (by omega)
  simp only [R0,A1T,q1,A3]
  obtain ⟨z,e,hz⟩:=A0Q (A0G N6) (fun l=>l.1.toNat) (fun l=>l.1≤8∧Cur (l.2.1,(l.2.2.1,l.2.2.2.1))∧(List.length l.2.2.2.2.1:Int)+l.1≤8) (fun z=>Cur z.2.1) (fun l hl=>by
    obtain ⟨g0,g1,g2⟩:=hl
    simp only [A0G]
    by_cases hi:l.1>0
    · obtain ⟨b,c3,q3,h3⟩:=A81 (l.2.1,(l.2.2.1,l.2.2.2.1)) 2 g1 (by omega)
      rw [A0 hi]
      simp only [cond_true,q3,A3]
      rw [A0 (by simp;omega),A0 (by simp;omega),w64 (by omega) (by omega)]
      exact .inl ⟨_,rfl,⟨by simp only;omega,h3,by simp;omega⟩,by simp only;omega⟩
    · rw [A4 hi]
      exact .inr ⟨_,rfl,g1⟩) (n,c1.1,c1.2.1,c1.2.2,[],()) ⟨by simp only;omega,h1,by simp;omega⟩
  exact ⟨z.1,z.2.1,e,hz⟩
theorem B5e{us:List TUp}{id:ByteArray}(hh:H1 us id=true)(u:TUp)(hu:u.1=(rd kUp us (A7 us id:Int)).1):H1 (us.set (A7 us id) u) id=true∧A7 (us.set (A7 us id) u) id=A7 us id∧rd kUp (us.set (A7 us id) u) (A7 us id:Int)=u:=by
  obtain ⟨hlt,hid⟩:=F6.1 hh
  rw [E0 (k:=kUp) (xs:=us) hlt] at hu
  have hk:∀ q (hq:q<us.length),((us.set (A7 us id) u)[q]'(by simpa using hq)).1=us[q].1:=fun q hq=>by
    rw [List.getElem_set]
    split
    · rename_i e;subst e;exact hu
    · rfl
  have hrd:rd kUp (us.set (A7 us id) u) (A7 us id:Int)=u:=C6D (k:=kUp) hlt u
  have e1:A7 (us.set (A7 us id) u) id=A7 us id:=by
    refine A3z _ (us.set (A7 us id) u).length _ (by simp;omega) (fun j hj=>?_) (fun _=>?_)
    · rw [E0 (k:=kUp) (xs:=us.set (A7 us id) u) (by simp;omega),hk j (by omega)]
      exact A78 hj
    · rw [hrd,hu]
      exact A9p hlt
  refine ⟨?_,e1,hrd⟩
  unfold H1
  rw [e1,hrd,hu,hid]
  simp
  omega
theorem C45(st:A5)(id:ByteArray)(hU:Ups st.2.2.2):∃ u b,Z1 st id=some (u,b,())∧(List.length u.2.2.1:Int)≤u.2.1∧u.2.1≤1000000000∧Byt u.2.2.1:=by
  simp only [Z1,A9l]
  rw [A9t st.2.2.2 id hU]
  cases hh:H1 st.2.2.2 id with
  | false=>
    simp only [Bool.false_eq_true,if_false,bO]
    rw [A0 (show (-1:Int)<0 by omega)]
    exact ⟨_,_,rfl,by simp,by simp,A0o⟩
  | true=>
    obtain ⟨hlt,hid2⟩:=F6.1 hh
    have hrd:rd kUp st.2.2.2 (A7 st.2.2.2 id:Int)=st.2.2.2[A7 st.2.2.2 id]:=E0 (k:=kUp) (xs:=st.2.2.2) hlt
    have hu:=hU.2.2 _ (List.getElem_mem hlt)
    rw [← hrd] at hu
    have h1:=hu.1
    have h2:=hu.2.1
    simp only [if_true,bO]
    rw [A4 (show ¬ (A7 st.2.2.2 id:Int)<0 by omega),A0 (show (0:Int)≤(A7 st.2.2.2 id:Int) by omega),A0 (show (A7 st.2.2.2 id:Int)<(st.2.2.2.length:Int) by omega)]
    simp only [cond_true,cond_false]
    rw [A0 (by simp;omega),A0 (by simp;omega)]
    simp only [cond_true,List.nil_append]
    exact ⟨_,_,rfl,h1,h2,hu.2.2.2⟩
theorem C1J{l:List ByteArray}{s:ByteArray}(hs:s∈l)(hk:(B7 s).2.1=true):(B7 s).1.1≤A1X l:=by
  have h:=A7z (B7 s).1.1 l (-1)
  by_cases hx:(B7 s).1.1≤A1X l
  · exact hx
  · exfalso
    have h1:decide (l.foldl A0R (-1)<(B7 s).1.1)=true:=decide_eq_true (by have:A1X l=l.foldl A0R (-1):=rfl;omega)
    rw [h1] at h
    have h2:=(Bool.and_eq_true _ _▸h.symm:_∧_).2
    have h3:=List.all_eq_true.1 h2 s hs
    simp only [Z4,hk,Bool.true_and] at h3
    rw [A0 (by omega)] at h3
    cases h3
def A2L(d:E5):Bool:=decide (d.1.length=d.2.length∧d.1.length≤200)&&((List.range d.1.length).all fun i=>!decide (((rd .str d.1 (i:Int)).size:Int)>64)&&!decide (((rd .str d.2 (i:Int)).size:Int)>64))
theorem A7B(d:E5):M3 d=some (A2L d,()):=by
  simp only [M3,A5f,A2L]
  by_cases h1:(d.1.length:Int)=(d.2.length:Int)
  · rw [A0 h1]
    by_cases h2:(d.1.length:Int)>200
    · rw [A0 h2,A4 (show ¬ (d.1.length=d.2.length∧d.1.length≤200) by omega)]
      rfl
    · rw [A4 h2,A0 (show d.1.length=d.2.length∧d.1.length≤200 by omega)]
      simp only [Bool.not_true,cond_false,C1,Bool.true_and]
      refine B5T (S4 d) d.1.length (by simp only [maxLen];omega) (fun i=>!decide (((rd .str d.1 (i:Int)).size:Int)>64)&&!decide (((rd .str d.2 (i:Int)).size:Int)>64)) (fun i hi=>?_) (by simp [S4])
      have g1:((i:Int)<(d.1.length:Int)):=by omega
      have g2:(0:Int)≤(i:Int):=by omega
      have g3:((i:Int)<(d.2.length:Int)):=by omega
      simp only [S4,A0 g1,A0 g2,A0 g3,cond_true]
      cases decide (((rd .str d.1 (i:Int)).size:Int)>64)<;>cases decide (((rd .str d.2 (i:Int)).size:Int)>64)<;>rfl
  · rw [A4 h1,A4 (show ¬ (d.1.length=d.2.length∧d.1.length≤200) by omega)]
    rfl
theorem C2C{d:E5}(h:A2L d=true):A2L (d.1,d.1)=true:=by
  simp only [A2L,Bool.and_eq_true] at h ⊢
  refine ⟨decide_eq_true ⟨trivial,(of_decide_eq_true h.1).2⟩,List.all_eq_true.2 fun i hi=>?_⟩
  have:=List.all_eq_true.1 h.2 i hi
  simp only [Bool.and_eq_true] at this ⊢
  exact ⟨this.1,this.1⟩
theorem A8T(us:List TUp):T6 us us=true:=by
  simp only [T6,Bool.and_eq_true]
  refine ⟨decide_eq_true trivial,List.all_eq_true.2 fun i hi=>?_⟩
  simp [A1k]
theorem A7C(a:List Int)(h:a.length≤maxLen):L4 a a=some (true,()):=by
  simp only [L4,A4C,decide_true,Bool.not_true,cond_false]
  have e:=B5T (A04 a a) a.length h (fun _=>true) (fun i hi=>by
    have g1:((i:Int)<(a.length:Int)):=by omega
    have g2:(0:Int)≤(i:Int):=by omega
    simp only [A04,A0 g1,A0 g2,cond_true,decide_true,Bool.not_true,cond_false]) (by simp [A04])
  rw [e]
  simp
def B5f(us:List TUp)(id:ByteArray)(ch:List Int):List TUp:=
  us.set (A7 us id) ((rd kUp us (A7 us id:Int)).1,(rd kUp us (A7 us id:Int)).2.1,(rd kUp us (A7 us id:Int)).2.2.1++ch,(rd kUp us (A7 us id:Int)).2.2.2)
def C46(st:A5)(id:ByteArray)(n:Int)(ch:List Int):A5:=wrote st (st.2.1,st.2.2.1,2,id,n,ch) (B5f st.2.2.2 id ch)
def putAt(st:A5)(id:ByteArray)(off:Int)(dat:List Int):Nat→A5
  | 0=>st
  | j+1=>C46 (putAt st id off dat j) id (off+((j*24:Nat):Int)) (J0 24 dat j)
def nPc(dat:List Int):Nat:=(dat.length+24-1) / 24
structure B7o (st:A5) (id:ByteArray) (off:Int) (dat:List Int):Prop where
  idok:idB id=true
  ep:0≤st.2.1∧st.2.1≤10000
  nx:0≤st.2.2.1∧st.2.2.1+(nPc dat:Int)≤(st.1.1.length:Int)
  len:st.1.1.length≤200
  dk:A68 st.1
  up:Ups st.2.2.2
  has:H1 st.2.2.2 id=true
  nd:(rd kUp st.2.2.2 (A7 st.2.2.2 id:Int)).2.2.2=false
  at':off=(List.length (rd kUp st.2.2.2 (A7 st.2.2.2 id:Int)).2.2.1:Int)
  fits:off+(dat.length:Int)≤(rd kUp st.2.2.2 (A7 st.2.2.2 id:Int)).2.1
  byt:Byt dat
  lo:1≤dat.length
structure C5J (st:A5) (id:ByteArray) (off:Int) (dat:List Int) (j:Nat) (s:A5):Prop where
  ep:s.2.1=st.2.1
  nx:s.2.2.1=st.2.2.1+(j:Int)
  len:s.1.1.length=st.1.1.length
  dk:A68 s.1
  up:Ups s.2.2.2
  has:H1 s.2.2.2 id=true
  ix:A7 s.2.2.2 id=A7 st.2.2.2 id
  val:rd kUp s.2.2.2 (A7 s.2.2.2 id:Int)=((rd kUp st.2.2.2 (A7 st.2.2.2 id:Int)).1,(rd kUp st.2.2.2 (A7 st.2.2.2 id:Int)).2.1,(rd kUp st.2.2.2 (A7 st.2.2.2 id:Int)).2.2.1++dat.take (j*24),false)
theorem A96(dat:List Int)(j:Nat)(h:j*24<dat.length):1≤(J0 24 dat j).length∧(J0 24 dat j).length≤24∧(J0 24 dat j).length=min (j*24+24) dat.length-j*24:=by
  have e:(J0 24 dat j).length=min (j*24+24) dat.length-j*24:=by unfold J0;rw [List.length_drop,List.length_take]
  rw [e]
  refine ⟨by omega,by omega,rfl⟩
theorem B7p(dat:List Int)(j:Nat):dat.take (j*24)++J0 24 dat j=dat.take ((j+1)*24):=by
  have h:=List.take_append_drop (j*24) (dat.take (j*24+24))
  rw [List.take_take,Nat.min_eq_left (by omega)] at h
  rw [show (j+1)*24=j*24+24 by omega]
  exact h
theorem A97{dat:List Int}{j:Nat}:j<nPc dat↔j*24<dat.length:=by
  unfold nPc
  omega
theorem A9u{st:A5}{id:ByteArray}{off:Int}{dat:List Int}(hc:B7o st id off dat){j:Nat}{s:A5}(h:C5J st id off dat j s)(hj:j<nPc dat) :
    K4 (s.2.1,s.2.2.1,2,id,off+((j*24:Nat):Int),J0 24 dat j)=true∧H4 s.2.2.2 (s.2.1,s.2.2.1,2,id,off+((j*24:Nat):Int),J0 24 dat j)=some (B5f s.2.2.2 id (J0 24 dat j))∧
      C5J st id off dat (j+1) (C46 s id (off+((j*24:Nat):Int)) (J0 24 dat j)):=by
  obtain ⟨p1,p2,p3⟩:=A96 dat j (A97.1 hj)
  have hj2:=A97.1 hj
  have hlen0:(List.length (dat.take (j*24)):Int)=((j*24:Nat):Int):=by rw [List.length_take];omega
  obtain ⟨hlt,_⟩:=F6.1 hc.has
  have hu:=hc.up.2.2 _ (List.getElem_mem hlt)
  rw [← E0 (k:=kUp) hlt] at hu
  have hu1:=hu.1
  have hu2:=hu.2.1
  have hat:=hc.at'
  have hft:=hc.fits
  have hn1:=hc.nx.1
  have hn2:=hc.nx.2
  have hl:=hc.len
  have hnx:=h.nx
  have hbp:Byt (J0 24 dat j):=A75 (A3J hc.byt _) _
  have hr:K4 (s.2.1,s.2.2.1,2,id,off+((j*24:Nat):Int),J0 24 dat j)=true:=by
    simp only [K4,hc.idok,h.ep]
    rw [A0 hc.ep,A0 (show 0≤s.2.2.1∧s.2.2.1≤199 by omega),if_neg (by omega),if_pos trivial,A0 (show 0≤off+((j*24:Nat):Int)∧off+((j*24:Nat):Int)≤1000000000 by omega),A0 (show 1≤(List.length (J0 24 dat j):Int)∧(List.length (J0 24 dat j):Int)≤24 by omega)]
    rfl
  have hf:H4 s.2.2.2 (s.2.1,s.2.2.1,2,id,off+((j*24:Nat):Int),J0 24 dat j)=some (B5f s.2.2.2 id (J0 24 dat j)):=by
    have e1:(List.length (rd kUp s.2.2.2 (A7 s.2.2.2 id:Int)).2.2.1:Int)=off+((j*24:Nat):Int):=by
      rw [h.val];simp only [List.length_append];omega
    have e2:(rd kUp s.2.2.2 (A7 s.2.2.2 id:Int)).2.2.2=false:=by rw [h.val]
    have e3:@Eq Int (rd kUp s.2.2.2 (A7 s.2.2.2 id:Int)).2.1 (rd kUp st.2.2.2 (A7 st.2.2.2 id:Int)).2.1:=by rw [h.val]
    simp only [H4,h.has,e2,B5f]
    rw [if_neg (by omega),if_neg (by simp),if_pos trivial,if_neg (fun hx=>by
      rcases hx with hx | hx | hx
      · cases hx
      · exact hx e1.symm
      · have hx2:(List.length (rd kUp s.2.2.2 (A7 s.2.2.2 id:Int)).2.2.1:Int)+(List.length (J0 24 dat j):Int)>(rd kUp st.2.2.2 (A7 st.2.2.2 id:Int)).2.1:=by rw [← e3];exact hx
        omega)]
  have hus:=A7A h.up ⟨hr,hbp⟩ hf
  obtain ⟨k1,k2,k3⟩:=B5e h.has ((rd kUp s.2.2.2 (A7 s.2.2.2 id:Int)).1,(rd kUp s.2.2.2 (A7 s.2.2.2 id:Int)).2.1,(rd kUp s.2.2.2 (A7 s.2.2.2 id:Int)).2.2.1++J0 24 dat j,(rd kUp s.2.2.2 (A7 s.2.2.2 id:Int)).2.2.2) rfl
  refine ⟨hr,hf,h.ep,?_,?_,B9e h.dk hr _,hus,k1,k2.trans h.ix,?_⟩
  · show s.2.2.1+1=st.2.2.1+((j+1:Nat):Int)
    omega
  · show (s.1.1.set _ _).length=_
    rw [List.length_set];exact h.len
  · show rd kUp (s.2.2.2.set (A7 s.2.2.2 id) _) ((A7 (s.2.2.2.set (A7 s.2.2.2 id) _) id:Nat):Int)=_
    rw [k2,k3,h.val]
    simp only [List.append_assoc,B7p]
theorem C6E{st:A5}{id:ByteArray}{off:Int}{dat:List Int}(hc:B7o st id off dat):C5J st id off dat 0 st:=
  ⟨rfl,by simp,rfl,hc.dk,hc.up,hc.has,rfl,by
    have e2:(rd kUp st.2.2.2 (A7 st.2.2.2 id:Int)).2.2.2=false:=hc.nd
    rw [Nat.zero_mul,List.take_zero,List.append_nil,← e2]⟩
theorem A9v{st:A5}{id:ByteArray}{off:Int}{dat:List Int}(hc:B7o st id off dat):∀ j,j≤nPc dat→C5J st id off dat j (putAt st id off dat j)
  | 0,_=>C6E hc
  | j+1,hj=>(A9u hc (A9v hc j (by omega)) (by omega)).2.2
theorem B3R{st:A5}{id:ByteArray}{off:Int}{dat:List Int}(hc:B7o st id off dat):∀ (k j:Nat),j+k=nPc dat→∀ o:Int,(j<nPc dat→o=off+((j*24:Nat):Int))→
    ∃ o',A8M (V3 C7 id) ((pieces 24 dat).drop j) (o,(putAt st id off dat j).2.1,(putAt st id off dat j).2.2.1,(putAt st id off dat j).1.1,(putAt st id off dat j).1.2,(putAt st id off dat j).2.2.2,()) =
      some (o',(putAt st id off dat (nPc dat)).2.1,(putAt st id off dat (nPc dat)).2.2.1,(putAt st id off dat (nPc dat)).1.1,(putAt st id off dat (nPc dat)).1.2,(putAt st id off dat (nPc dat)).2.2.2,())
  | 0,j,hj,o,_=>by
    rw [Nat.add_zero] at hj
    subst hj
    have:(pieces 24 dat).length=nPc dat:=by simp [pieces,nPc]
    rw [← this,List.drop_length]
    exact ⟨o,rfl⟩
  | k+1,j,hj,o,ho=>by
    have hlt:j<nPc dat:=by omega
    have hlen:(pieces 24 dat).length=nPc dat:=by simp [pieces,nPc]
    have hdrop:(pieces 24 dat).drop j=J0 24 dat j::(pieces 24 dat).drop (j+1):=by
      rw [List.drop_eq_getElem_cons (by omega)];simp [pieces]
    have ho:=ho hlt
    have hI:=A9v hc j (by omega)
    obtain ⟨hr,hf,hn⟩:=A9u hc hI hlt
    have hl:=hc.len
    have hn1:=hc.nx.1
    have hn2:=hc.nx.2
    have hnx:=hI.nx
    have hle:=hI.len
    obtain ⟨hlt',_⟩:=F6.1 hc.has
    have hu:=hc.up.2.2 _ (List.getElem_mem hlt')
    rw [← E0 (k:=kUp) hlt'] at hu
    have hu2:=hu.2.1
    have hat:=hc.at'
    have hft:=hc.fits
    obtain ⟨p1,p2,p3⟩:=A96 dat j (A97.1 hlt)
    have hj2:=A97.1 hlt
    have hw:=B3Q (putAt st id off dat j) 2 id (off+((j*24:Nat):Int)) (J0 24 dat j) hI.up hr (A75 (A3J hc.byt _) _) (by omega) (by omega) (by omega) _ hf
    rw [hdrop]
    simp only [A8M,V3]
    have hw':C7 (((putAt st id off dat j).1.1,(putAt st id off dat j).1.2),((putAt st id off dat j).2.1,((putAt st id off dat j).2.2.1,(putAt st id off dat j).2.2.2))) 2 id o (J0 24 dat j)=some (putAt st id off dat (j+1),()):=by
      rw [ho];exact hw
    rw [hw',w64 (by omega) (by omega)]
    simp only [A3]
    exact B3R hc k (j+1) (by omega) _ (fun hl2=>by have:=A97.1 hl2;omega)
theorem B9g{st:A5}{id:ByteArray}{off:Int}{dat:List Int}(hc:B7o st id off dat)(h400:dat.length≤400) :
    C3 (V2 C2 dat id off) (0,st.2.1,st.2.2.1,st.1.1,st.1.2,st.2.2.2,()) =
      some ((putAt st id off dat (nPc dat)).2.1,(putAt st id off dat (nPc dat)).2.2.1,(putAt st id off dat (nPc dat)).1.1,(putAt st id off dat (nPc dat)).1.2,(putAt st id off dat (nPc dat)).2.2.2,()):=by
  obtain ⟨z,e,hz⟩:=A0Q (V2 C2 dat id off) (fun l=>((dat.length:Int)+24-l.1).toNat)
    (fun l=>∃ j:Nat,j≤nPc dat∧l=(((j*24:Nat):Int),(putAt st id off dat j).2.1,(putAt st id off dat j).2.2.1,(putAt st id off dat j).1.1,(putAt st id off dat j).1.2,(putAt st id off dat j).2.2.2,()))
    (fun z=>z=((putAt st id off dat (nPc dat)).2.1,(putAt st id off dat (nPc dat)).2.2.1,(putAt st id off dat (nPc dat)).1.1,(putAt st id off dat (nPc dat)).1.2,(putAt st id off dat (nPc dat)).2.2.2,())) (fun l hl=>by
      obtain ⟨j,hj,rfl⟩:=hl
      have hI:=A9v hc j hj
      have hl:=hc.len
      have hn1:=hc.nx.1
      have hn2:=hc.nx.2
      have hnx:=hI.nx
      have hle:=hI.len
      obtain ⟨hlt',_⟩:=F6.1 hc.has
      have hu:=hc.up.2.2 _ (List.getElem_mem hlt')
      rw [← E0 (k:=kUp) hlt'] at hu
      have hu2:=hu.2.1
      have hat:=hc.at'
      have hft:=hc.fits
      simp only [V2]
      by_cases hi:j<nPc dat
      · have hj2:=A97.1 hi
        obtain ⟨hr,hf,hn⟩:=A9u hc hI hi
        obtain ⟨p1,p2,p3⟩:=A96 dat j hj2
        rw [A0 (show ((j*24:Nat):Int)<(dat.length:Int) by omega),w64 (n:=((j*24:Nat):Int)+24) (by omega) (by omega)]
        obtain ⟨to,hto,hto2⟩:∃ to:Int,(bif decide (((j*24:Nat):Int)+24>(dat.length:Int)) then some ((dat.length:Int),()) else some (((j*24:Nat):Int)+24,()))=some (to,())∧(to.toNat=min (j*24+24) dat.length∧0≤to):=by
          by_cases hcc:((j*24:Nat):Int)+24>(dat.length:Int)
          · rw [A0 hcc];exact ⟨_,rfl,by omega,by omega⟩
          · rw [A4 hcc];exact ⟨_,rfl,by omega,by omega⟩
        simp only [cond_true,hto,bO]
        have hpc:(dat.take to.toNat).drop ((j*24:Nat):Int).toNat=J0 24 dat j:=by
          rw [hto2.1,Int.toNat_natCast,J0,List.take_eq_take_iff.2 (show min (min (j*24+24) dat.length) dat.length=min (j*24+24) dat.length by omega)]
        rw [hpc,A0 (show 0≤((j*24:Nat):Int) by omega),A0 (show ((j*24:Nat):Int)≤to by omega),A0 (show to≤(dat.length:Int) by omega),A0 (by simp;omega),A0 (by simp;omega),w64 (n:=off+((j*24:Nat):Int)) (by omega) (by omega)]
        simp only [cond_true,List.nil_append]
        have hw:=A5q (putAt st id off dat j) 0 0 2 id (off+((j*24:Nat):Int)) (J0 24 dat j) hI.up hr (A75 (A3J hc.byt _) _) (by omega) (by omega) (by omega) _ hf
        have hw':C2 (((putAt st id off dat j).1.1,(putAt st id off dat j).1.2),((putAt st id off dat j).2.1,((putAt st id off dat j).2.2.1,(putAt st id off dat j).2.2.2))) (0,(0,(2,(id,(off+((j*24:Nat):Int),J0 24 dat j)))))=some (putAt st id off dat (j+1),()):=hw
        rw [hw']
        simp only [bO]
        refine .inl ⟨_,rfl,⟨j+1,by omega,?_⟩,by simp only;omega⟩
        rw [show ((j*24:Nat):Int)+24=(((j+1)*24:Nat):Int) by omega]
      · have:j=nPc dat:=by omega
        subst this
        have:¬ nPc dat*24<dat.length:=fun h=>hi (A97.2 h)
        rw [A4 (show ¬ ((nPc dat*24:Nat):Int)<(dat.length:Int) by omega)]
        exact .inr ⟨_,rfl,rfl⟩) (0,st.2.1,st.2.2.1,st.1.1,st.1.2,st.2.2.2,()) ⟨0,by omega,rfl⟩
  rw [e,hz]
def A5r(st:A5)(id:ByteArray)(off:Int)(dat:List Int):A5×Int:=
  if idB id=true∧1≤dat.length∧dat.length≤400 then
    (if H1 st.2.2.2 id=true then
      (if (rd kUp st.2.2.2 (A7 st.2.2.2 id:Int)).2.2.2=true∨off≠(List.length (rd kUp st.2.2.2 (A7 st.2.2.2 id:Int)).2.2.1:Int)∨off+(dat.length:Int)>(rd kUp st.2.2.2 (A7 st.2.2.2 id:Int)).2.1 then (st,4)
       else if (st.1.1.length:Int)-st.2.2.1<(nPc dat:Int) then (st,5) else (putAt st id off dat (nPc dat),0))
     else (st,2))
  else (st,1)
theorem C47(dat:List Int)(h:dat.length≤400):(IntKind.i64.wrap ((IntKind.i64.wrap ((IntKind.i64.wrap ((dat.length:Int)+24))-1)).tdiv 24))=(nPc dat:Int):=by
  have htd:((dat.length:Int)+24-1).tdiv 24=(nPc dat:Int):=by
    rw [Int.tdiv_eq_ediv_of_nonneg (by omega)]
    unfold nPc
    omega
  rw [w64 (n:=(dat.length:Int)+24) (by omega) (by omega),w64 (n:=(dat.length:Int)+24-1) (by omega) (by omega),htd,w64 (by unfold nPc;omega) (by unfold nPc;omega)]
structure Rt (st:A5):Prop where
  g:B6W st
  up:Ups st.2.2.2
  dk:A68 st.1
theorem B2R{st:A5}{id:ByteArray}{off:Int}{dat:List Int}(h:Rt st)(hb:Byt dat)(h1:idB id=true)(h2:1≤dat.length∧dat.length≤400)(h3:H1 st.2.2.2 id=true)
    (h4:¬ ((rd kUp st.2.2.2 (A7 st.2.2.2 id:Int)).2.2.2=true∨off≠(List.length (rd kUp st.2.2.2 (A7 st.2.2.2 id:Int)).2.2.1:Int)∨off+(dat.length:Int)>(rd kUp st.2.2.2 (A7 st.2.2.2 id:Int)).2.1))
    (h5:¬ (st.1.1.length:Int)-st.2.2.1<(nPc dat:Int)):B7o st id off dat:=by
  obtain ⟨g1,g2,g3,g4,⟨g5,g6⟩,_⟩:=h.g
  rw [not_or,not_or] at h4
  refine ⟨h1,⟨g1,g2⟩,⟨g5,by omega⟩,g4,h.dk,h.up,h3,by simpa using h4.1,Decidable.not_not.1 h4.2.1,by have h6:=h4.2.2;exact Int.not_lt.1 h6,hb,h2.1⟩
theorem B9h(st:A5)(id:ByteArray)(off:Int)(dat:List Int)(hid:id.size≤maxLen)(h:Rt st)(hb:Byt dat)(hd:dat.length≤1048576)(ho:-9223372036854775808≤off∧off≤9223372036854775807) :
    T4 st id off dat=some ((A5r st id off dat).2,(A5r st id off dat).1,()):=by
  obtain ⟨g1,g2,g3,g4,⟨g5,g6⟩,_⟩:=h.g
  have hU:=h.up
  have hl:st.1.1.length≤1048576:=by omega
  have hul:=hU.2.1
  simp only [T4,A27,B6Q id hid,A3I,bO,A5r]
  cases hidb:idB id with
  | false=>simp [C1]
  | true=>
    simp only [Bool.not_true,cond_false,true_and]
    by_cases hlen:1≤(dat.length:Int)∧(dat.length:Int)≤400
    · rw [A0 hlen,if_pos (show 1≤dat.length∧dat.length≤400 by omega)]
      simp only [Bool.not_true,cond_false,C1]
      rw [B5c st.2.2.2 id (by simp only [maxLen];omega),B5d st g5 g6 hl,C47 dat (by omega)]
      cases hh:H1 st.2.2.2 id with
      | false=>
        simp only [Bool.false_eq_true,if_false,bO]
        rw [A0 (show (-1:Int)<0 by omega)]
        rfl
      | true=>
        obtain ⟨hlt,hid2⟩:=F6.1 hh
        have hu:=hU.2.2 _ (List.getElem_mem hlt)
        rw [← E0 (k:=kUp) hlt] at hu
        have hu1:=hu.1
        have hu2:=hu.2.1
        simp only [if_true,bO]
        rw [A4 (show ¬ (A7 st.2.2.2 id:Int)<0 by omega)]
        simp only [cond_false]
        cases hdn:(rd kUp st.2.2.2 (A7 st.2.2.2 id:Int)).2.2.2 with
        | true=>simp [bO]
        | false=>
          simp only [cond_false]
          cases ho':decide (off=(List.length (rd kUp st.2.2.2 (A7 st.2.2.2 id:Int)).2.2.1:Int)) with
          | false=>
            have ho:=of_decide_eq_false ho'
            rw [if_pos (.inr (.inl ho))]
            rfl
          | true=>
            have ho:=of_decide_eq_true ho'
            simp only [Bool.not_true,cond_false,bO]
            rw [w64 (n:=off+(dat.length:Int)) (by omega) (by omega)]
            by_cases hw:off+(dat.length:Int)>(rd kUp st.2.2.2 (A7 st.2.2.2 id:Int)).2.1
            · rw [A0 hw,if_pos (.inr (.inr hw))]
              rfl
            · have hno:¬ ((rd kUp st.2.2.2 (A7 st.2.2.2 id:Int)).2.2.2=true∨off≠(List.length (rd kUp st.2.2.2 (A7 st.2.2.2 id:Int)).2.2.1:Int)∨off+(dat.length:Int)>(rd kUp st.2.2.2 (A7 st.2.2.2 id:Int)).2.1):=by
                rw [hdn];rintro (hx | hx | hx)
                · cases hx
                · exact hx ho
                · exact hw hx
              have hno':=hno
              rw [hdn] at hno'
              rw [A4 hw,if_neg hno']
              simp only [cond_false,bO]
              by_cases hleft:(st.1.1.length:Int)-st.2.2.1<(nPc dat:Int)
              · rw [A0 hleft,if_pos hleft]
                rfl
              · rw [A4 hleft,if_neg hleft,A0 (show dat.length≤1152921504606846976 by omega)]
                simp only [cond_false,cond_true]
                have hc:=B2R h hb hidb ⟨by omega,by omega⟩ hh hno hleft
                obtain ⟨o',e⟩:=B3R hc (nPc dat) 0 (by omega) off (fun _=>by simp)
                rw [List.drop_zero] at e
                have e':A8M (V3 C7 id) (pieces 24 dat) (off,st.2.1,st.2.2.1,st.1.1,st.1.2,st.2.2.2,())=_:=e
                rw [e']
                rfl
    · rw [A4 hlen,if_neg (show ¬ (1≤dat.length∧dat.length≤400) by omega)]
      rfl
theorem B3S(st:A5)(id:ByteArray)(off:Int)(dat:List Int)(hid:id.size≤maxLen)(h:Rt st)(hS:A5p st)(hok:D0 st=some (true,()))(hb:Byt dat)(hd:dat.length≤1048576)(ho:-9223372036854775808≤off∧off≤9223372036854775807) :
    H7 st id off dat=some ((A5r st id off dat).1,(A5r st id off dat).2,()):=by
  obtain ⟨g1,g2,g3,g4,⟨g5,g6⟩,_⟩:=h.g
  have hU:=h.up
  have hl:st.1.1.length≤1048576:=by omega
  simp only [H7,A05,R3 st hS,hok,A73 id hid,A1j,bO,A5r]
  cases hidb:idB id with
  | false=>simp [C1]
  | true=>
    simp only [Bool.not_true,cond_false,true_and]
    by_cases hlen:1≤(dat.length:Int)∧(dat.length:Int)≤400
    · rw [A0 hlen,if_pos (show 1≤dat.length∧dat.length≤400 by omega)]
      simp only [Bool.not_true,cond_false,C1]
      rw [A9t st.2.2.2 id hU,A80 st g5 g6 hl,C47 dat (by omega)]
      cases hh:H1 st.2.2.2 id with
      | false=>
        simp only [Bool.false_eq_true,if_false,bO]
        rw [A0 (show (-1:Int)<0 by omega)]
        rfl
      | true=>
        obtain ⟨hlt,hid2⟩:=F6.1 hh
        have hu:=hU.2.2 _ (List.getElem_mem hlt)
        rw [← E0 (k:=kUp) hlt] at hu
        have hu1:=hu.1
        have hu2:=hu.2.1
        simp only [if_true,bO]
        rw [A4 (show ¬ (A7 st.2.2.2 id:Int)<0 by omega),A0 (show (0:Int)≤(A7 st.2.2.2 id:Int) by omega),A0 (show (A7 st.2.2.2 id:Int)<(st.2.2.2.length:Int) by omega)]
        simp only [cond_true,cond_false]
        cases hdn:(rd kUp st.2.2.2 (A7 st.2.2.2 id:Int)).2.2.2 with
        | true=>simp [bO]
        | false=>
          simp only [cond_false]
          cases ho':decide (off=(List.length (rd kUp st.2.2.2 (A7 st.2.2.2 id:Int)).2.2.1:Int)) with
          | false=>
            have ho:=of_decide_eq_false ho'
            rw [if_pos (.inr (.inl ho))]
            rfl
          | true=>
            have ho:=of_decide_eq_true ho'
            simp only [Bool.not_true,cond_false,bO]
            rw [w64 (n:=off+(dat.length:Int)) (by omega) (by omega)]
            by_cases hw:off+(dat.length:Int)>(rd kUp st.2.2.2 (A7 st.2.2.2 id:Int)).2.1
            · rw [A0 hw,if_pos (.inr (.inr hw))]
              rfl
            · have hno:¬ ((rd kUp st.2.2.2 (A7 st.2.2.2 id:Int)).2.2.2=true∨off≠(List.length (rd kUp st.2.2.2 (A7 st.2.2.2 id:Int)).2.2.1:Int)∨off+(dat.length:Int)>(rd kUp st.2.2.2 (A7 st.2.2.2 id:Int)).2.1):=by
                rw [hdn];rintro (hx | hx | hx)
                · cases hx
                · exact hx ho
                · exact hw hx
              have hno':=hno
              rw [hdn] at hno'
              rw [A4 hw,if_neg hno']
              simp only [cond_false,bO]
              by_cases hleft:(st.1.1.length:Int)-st.2.2.1<(nPc dat:Int)
              · rw [A0 hleft,if_pos hleft]
                rfl
              · rw [A4 hleft,if_neg hleft]
                simp only [cond_false]
                have hc:=B2R h hb hidb ⟨by omega,by omega⟩ hh hno hleft
                rw [B9g hc (by omega)]
                rfl
    · rw [A4 hlen,if_neg (show ¬ (1≤dat.length∧dat.length≤400) by omega)]
      rfl
theorem B9i{s:A5}(hd:A68 s.1)(hu:Ups s.2.2.2):A5p s:=⟨hd,by have:=hu.2.1;omega,A7y hu⟩
def B7q(st:A5)(id:ByteArray)(want:Int):A5×Int:=
  if idB id=true∧0≤want∧want≤1000000 then
    (if H1 st.2.2.2 id=true then (st,3)
     else if (st.1.1.length:Int)-st.2.2.1<1∨10≤st.2.2.2.length then (st,5)
     else (wrote st (st.2.1,st.2.2.1,1,id,want,[]) (st.2.2.2.take (A7 st.2.2.2 id)++(id,want,[],false)::st.2.2.2.drop (A7 st.2.2.2 id)),0))
  else (st,1)
def A2M(st:A5)(id:ByteArray)(sum:Int):A5×Int:=
  if idB id=true then
    (if H1 st.2.2.2 id=true then
      (if (List.length (rd kUp st.2.2.2 (A7 st.2.2.2 id:Int)).2.2.1:Int)<(rd kUp st.2.2.2 (A7 st.2.2.2 id:Int)).2.1 then (st,4)
       else if sum≠((A1y (rd kUp st.2.2.2 (A7 st.2.2.2 id:Int)).2.2.1 ^^^ 4294967295:Nat):Int) then (st,6)
       else if (rd kUp st.2.2.2 (A7 st.2.2.2 id:Int)).2.2.2=true then (st,0)
       else if (st.1.1.length:Int)-st.2.2.1<1 then (st,5)
       else (wrote st (st.2.1,st.2.2.1,3,id,0,[]) (st.2.2.2.set (A7 st.2.2.2 id) ((rd kUp st.2.2.2 (A7 st.2.2.2 id:Int)).1,(rd kUp st.2.2.2 (A7 st.2.2.2 id:Int)).2.1,(rd kUp st.2.2.2 (A7 st.2.2.2 id:Int)).2.2.1,true)),0))
     else (st,2))
  else (st,1)
def B7r(st:A5)(id:ByteArray):A5×Int:=
  if idB id=true then
    (if H1 st.2.2.2 id=true then
      (if (st.1.1.length:Int)-st.2.2.1<1 then (st,5)
       else (wrote st (st.2.1,st.2.2.1,4,id,0,[]) (st.2.2.2.take (A7 st.2.2.2 id)++st.2.2.2.drop (A7 st.2.2.2 id+1)),0))
     else (st,2))
  else (st,1)
theorem A98{st:A5}(h:B6W st)(k n:Int)(id:ByteArray)(hid:idB id=true)(hl:¬ (st.1.1.length:Int)-st.2.2.1<1)(hk:k=1∧0≤n∧n≤1000000000∨(k=3∨k=4)∧n=0):K4 (st.2.1,st.2.2.1,k,id,n,[])=true:=by
  obtain ⟨g1,g2,g3,g4,⟨g5,g6⟩,_⟩:=h
  simp only [K4,hid,List.length_nil]
  rw [A0 (show 0≤st.2.1∧st.2.1≤10000 by omega),A0 (show 0≤st.2.2.1∧st.2.2.1≤199 by omega)]
  rcases hk with ⟨rfl,h0,h1⟩ | ⟨rfl | rfl,rfl⟩
  · rw [if_pos rfl,A0 (show 0≤n∧n≤1000000000 from ⟨h0,h1⟩)];rfl
  · rfl
  · rfl
theorem B5g{st:A5}{id:ByteArray}{want:Int}(h1:¬ H1 st.2.2.2 id=true)(h2:¬ 10≤st.2.2.2.length):H4 st.2.2.2 (st.2.1,st.2.2.1,1,id,want,[])=some (st.2.2.2.take (A7 st.2.2.2 id)++(id,want,[],false)::st.2.2.2.drop (A7 st.2.2.2 id)):=by
  simp only [H4,if_true]
  rw [if_neg (fun h=>h.elim h1 h2)]
theorem B0k{st:A5}{id:ByteArray}(hU:Ups st.2.2.2)(h1:H1 st.2.2.2 id=true)(h2:¬ (List.length (rd kUp st.2.2.2 (A7 st.2.2.2 id:Int)).2.2.1:Int)<(rd kUp st.2.2.2 (A7 st.2.2.2 id:Int)).2.1)(h3:¬ (rd kUp st.2.2.2 (A7 st.2.2.2 id:Int)).2.2.2=true) :
    H4 st.2.2.2 (st.2.1,st.2.2.1,3,id,0,[])=some (st.2.2.2.set (A7 st.2.2.2 id) ((rd kUp st.2.2.2 (A7 st.2.2.2 id:Int)).1,(rd kUp st.2.2.2 (A7 st.2.2.2 id:Int)).2.1,(rd kUp st.2.2.2 (A7 st.2.2.2 id:Int)).2.2.1,true)):=by
  obtain ⟨hlt,hid2⟩:=F6.1 h1
  have hu:=hU.2.2 _ (List.getElem_mem hlt)
  rw [← E0 (k:=kUp) hlt] at hu
  have hu1:=hu.1
  simp only [H4,h1]
  rw [if_neg (by omega),if_neg (by simp),if_neg (by omega),if_pos trivial,if_neg (fun h=>h.elim h3 (fun h=>h (Int.le_antisymm hu1 (Int.not_lt.1 h2))))]
theorem B5h{st:A5}{id:ByteArray}(h1:H1 st.2.2.2 id=true):H4 st.2.2.2 (st.2.1,st.2.2.1,4,id,0,[])=some (st.2.2.2.take (A7 st.2.2.2 id)++st.2.2.2.drop (A7 st.2.2.2 id+1)):=by
  simp only [H4,h1]
  rw [if_neg (by omega),if_neg (by simp),if_neg (by omega),if_neg (by omega),if_pos trivial]
theorem B7s(st:A5)(id:ByteArray)(want:Int)(hid:id.size≤maxLen)(h:Rt st)(hS:A5p st)(hok:D0 st=some (true,())):Q5 st id want=some ((B7q st id want).1,(B7q st id want).2,()):=by
  obtain ⟨g1,g2,g3,g4,⟨g5,g6⟩,_⟩:=h.g
  have hU:=h.up
  have hl:st.1.1.length≤1048576:=by omega
  have hul:=hU.2.1
  simp only [Q5,A1O,R3 st hS,hok,A73 id hid,A1j,bO,B7q]
  cases hidb:idB id with
  | false=>simp [C1,bO]
  | true=>
    simp only [Bool.not_true,cond_false,true_and]
    by_cases hw:0≤want∧want≤1000000
    · rw [A0 hw,if_pos hw]
      simp only [Bool.not_true,cond_false,C1]
      rw [A9t st.2.2.2 id hU,A80 st g5 g6 hl]
      cases hh:H1 st.2.2.2 id with
      | true=>
        simp only [if_true,bO]
        rw [A0 (show (A7 st.2.2.2 id:Int)≥0 by omega)]
        rfl
      | false=>
        simp only [Bool.false_eq_true,if_false,bO]
        rw [A4 (show ¬ (-1:Int)≥0 by omega)]
        simp only [cond_false]
        by_cases hleft:(st.1.1.length:Int)-st.2.2.1<1
        · rw [A0 hleft,if_pos (.inl hleft)]
          rfl
        · rw [A4 hleft]
          simp only [cond_false]
          by_cases h10:10≤st.2.2.2.length
          · rw [A0 (show (st.2.2.2.length:Int)=10 by omega),if_pos (.inr h10)]
            rfl
          · rw [A4 (show ¬ (st.2.2.2.length:Int)=10 by omega),if_neg (fun hx=>hx.elim hleft h10)]
            simp only [cond_false]
            have hr:=A98 h.g 1 want id hidb hleft (.inl ⟨rfl,hw.1,by omega⟩)
            have hf:=B5g (st:=st) (id:=id) (want:=want) (by rw [hh];simp) h10
            rw [A5q st 0 0 1 id want [] hU hr A0o g5 (by omega) hl _ hf]
            rfl
    · rw [A4 hw,if_neg hw]
      rfl
theorem B7t(st:A5)(id:ByteArray)(sum:Int)(hid:id.size≤maxLen)(h:Rt st):Q9 st id sum=some ((A2M st id sum).2,(A2M st id sum).1,()):=by
  obtain ⟨g1,g2,g3,g4,⟨g5,g6⟩,_⟩:=h.g
  have hU:=h.up
  have hl:st.1.1.length≤1048576:=by omega
  have hul:=hU.2.1
  simp only [Q9,A1R,B6Q id hid,bO,A2M]
  cases hidb:idB id with
  | false=>rfl
  | true=>
    simp only [Bool.not_true,cond_false,if_true]
    rw [B5c st.2.2.2 id (by simp only [maxLen];omega),B5d st g5 g6 hl]
    cases hh:H1 st.2.2.2 id with
    | false=>
      simp only [Bool.false_eq_true,if_false,bO]
      rw [A0 (show (-1:Int)<0 by omega)]
      rfl
    | true=>
      obtain ⟨hlt,hid2⟩:=F6.1 hh
      have hu:=hU.2.2 _ (List.getElem_mem hlt)
      have hdl:=A7y hU _ (List.getElem_mem hlt)
      rw [← E0 (k:=kUp) hlt] at hu hdl
      simp only [if_true,bO]
      rw [A4 (show ¬ (A7 st.2.2.2 id:Int)<0 by omega)]
      simp only [cond_false]
      rw [B3J _ hu.2.2.2 (by simp only [maxLen];omega)]
      simp only [bO]
      by_cases hd1:(List.length (rd kUp st.2.2.2 (A7 st.2.2.2 id:Int)).2.2.1:Int)<(rd kUp st.2.2.2 (A7 st.2.2.2 id:Int)).2.1
      · rw [A0 hd1,if_pos hd1]
        rfl
      rw [A4 hd1,if_neg hd1]
      simp only [cond_false]
      by_cases hc:sum=((A1y (rd kUp st.2.2.2 (A7 st.2.2.2 id:Int)).2.2.1 ^^^ 4294967295:Nat):Int)
      · rw [A0 hc,if_neg (fun hx=>hx hc)]
        simp only [Bool.not_true,cond_false]
        cases hdn:(rd kUp st.2.2.2 (A7 st.2.2.2 id:Int)).2.2.2 with
        | true=>rfl
        | false=>
          simp only [Bool.not_false,cond_true,cond_false,Bool.false_eq_true,if_false,bO]
          by_cases hleft:(st.1.1.length:Int)-st.2.2.1<1
          · rw [A0 hleft,if_pos hleft]
            rfl
          · rw [A4 hleft,if_neg hleft]
            simp only [cond_false]
            have hr:=A98 h.g 3 0 id hidb hleft (.inr ⟨.inl rfl,rfl⟩)
            have hf:=B0k hU hh hd1 (by rw [hdn];simp)
            have hwi:C7 ((st.1.1,st.1.2),(st.2.1,(st.2.2.1,st.2.2.2))) 3 id 0 []=_:=B3Q st 3 id 0 [] hU hr A0o g5 (by omega) hl _ hf
            simp only [C1,Bool.not_false,cond_true]
            rw [hwi]
            rfl
      · rw [A4 hc,if_pos hc]
        rfl
theorem B7u(st:A5)(id:ByteArray)(sum:Int)(hid:id.size≤maxLen)(h:Rt st)(hS:A5p st)(hok:D0 st=some (true,())):Q6 st id sum=some ((A2M st id sum).1,(A2M st id sum).2,()):=by
  obtain ⟨g1,g2,g3,g4,⟨g5,g6⟩,_⟩:=h.g
  have hU:=h.up
  have hl:st.1.1.length≤1048576:=by omega
  have hul:=hU.2.1
  simp only [Q6,A1P,R3 st hS,hok,A73 id hid,bO,A2M]
  cases hidb:idB id with
  | false=>rfl
  | true=>
    simp only [Bool.not_true,cond_false,C1,if_true]
    rw [A9t st.2.2.2 id hU,A80 st g5 g6 hl]
    cases hh:H1 st.2.2.2 id with
    | false=>
      simp only [Bool.false_eq_true,if_false,bO]
      rw [A0 (show (-1:Int)<0 by omega)]
      rfl
    | true=>
      obtain ⟨hlt,hid2⟩:=F6.1 hh
      have hu:=hU.2.2 _ (List.getElem_mem hlt)
      have hdl:=A7y hU _ (List.getElem_mem hlt)
      rw [← E0 (k:=kUp) hlt] at hu hdl
      simp only [if_true,bO]
      rw [A4 (show ¬ (A7 st.2.2.2 id:Int)<0 by omega),A0 (show (0:Int)≤(A7 st.2.2.2 id:Int) by omega),A0 (show (A7 st.2.2.2 id:Int)<(st.2.2.2.length:Int) by omega)]
      simp only [cond_true,cond_false]
      rw [B3I _ hu.2.2.2 (by simp only [maxLen];omega)]
      simp only [bO]
      by_cases hd1:(List.length (rd kUp st.2.2.2 (A7 st.2.2.2 id:Int)).2.2.1:Int)<(rd kUp st.2.2.2 (A7 st.2.2.2 id:Int)).2.1
      · rw [A0 hd1,if_pos hd1]
        rfl
      rw [A4 hd1,if_neg hd1]
      simp only [cond_false]
      by_cases hc:sum=((A1y (rd kUp st.2.2.2 (A7 st.2.2.2 id:Int)).2.2.1 ^^^ 4294967295:Nat):Int)
      · rw [A0 hc,if_neg (fun hx=>hx hc)]
        simp only [Bool.not_true,cond_false]
        cases hdn:(rd kUp st.2.2.2 (A7 st.2.2.2 id:Int)).2.2.2 with
        | true=>rfl
        | false=>
          simp only [Bool.not_false,cond_true,cond_false,Bool.false_eq_true,if_false,bO]
          by_cases hleft:(st.1.1.length:Int)-st.2.2.1<1
          · rw [A0 hleft,if_pos hleft]
            rfl
          · rw [A4 hleft,if_neg hleft]
            simp only [cond_false]
            have hr:=A98 h.g 3 0 id hidb hleft (.inr ⟨.inl rfl,rfl⟩)
            have hf:=B0k hU hh hd1 (by rw [hdn];simp)
            rw [A5q st 0 0 3 id 0 [] hU hr A0o g5 (by omega) hl _ hf]
            rfl
      · rw [A4 hc,if_pos hc]
        rfl
theorem B7v(st:A5)(id:ByteArray)(hid:id.size≤maxLen)(h:Rt st)(hS:A5p st)(hok:D0 st=some (true,())):Q7 st id=some ((B7r st id).1,(B7r st id).2,()):=by
  obtain ⟨g1,g2,g3,g4,⟨g5,g6⟩,_⟩:=h.g
  have hU:=h.up
  have hl:st.1.1.length≤1048576:=by omega
  have hul:=hU.2.1
  simp only [Q7,A1Q,R3 st hS,hok,A73 id hid,bO,B7r]
  cases hidb:idB id with
  | false=>rfl
  | true=>
    simp only [Bool.not_true,cond_false,C1,if_true]
    rw [A9t st.2.2.2 id hU,A80 st g5 g6 hl]
    cases hh:H1 st.2.2.2 id with
    | false=>
      simp only [Bool.false_eq_true,if_false,bO]
      rw [A0 (show (-1:Int)<0 by omega)]
      rfl
    | true=>
      simp only [if_true,bO]
      rw [A4 (show ¬ (A7 st.2.2.2 id:Int)<0 by omega)]
      simp only [cond_false]
      by_cases hleft:(st.1.1.length:Int)-st.2.2.1<1
      · rw [A0 hleft,if_pos hleft]
        rfl
      · rw [A4 hleft,if_neg hleft]
        simp only [cond_false]
        have hr:=A98 h.g 4 0 id hidb hleft (.inr ⟨.inr rfl,rfl⟩)
        have hf:=B5h (st:=st) hh
        rw [A5q st 0 0 4 id 0 [] hU hr A0o g5 (by omega) hl _ hf]
        rfl
theorem B4n{xs:List Int}(h:Byt xs):bytesOf (strOf xs)=xs:=by
  show ((strOfNums xs).data.toList.map fun b=>(b.toNat:Int))=xs
  rw [strOfNums_data,List.map_map]
  refine (List.map_congr_left fun x hx=>?_).trans (List.map_id _)
  have:=h x hx
  simp only [Function.comp,id]
  have e:(UInt8.ofNat x.toNat).toNat=x.toNat % 256:=UInt8.toNat_ofNat
  rw [e]
  omega
theorem B4o(s:ByteArray):strOf (bytesOf s)=s:=by
  refine B6Y ?_
  rw [ByteArray.toList_eq,ByteArray.toList_eq]
  show ((bytesOf s).map fun n=>UInt8.ofNat n.toNat)=s.data.toList
  rw [bytesOf,List.map_map]
  refine (List.map_congr_left fun x hx=>?_).trans (List.map_id _)
  simp
theorem B7w(n:Nat):IntKind.u8.wrap (n:Int)=((n % 256:Nat):Int):=by
  simp only [IntKind.wrap,IntKind.bits,IntKind.signed]
  simp
theorem B7x(x y:Nat)(h:y<256):(x*256) ||| y=x*256+y:=by
  have:=Nat.two_pow_add_eq_or_of_lt (i:=8) (b:=y) (by simpa using h) x
  rw [Nat.mul_comm x 256]
  exact this.symm
theorem B7y(p q:List Int)(n k:Nat):∀ j,j≤k→O3 (p++(big (n:Int) k++q)) p.length j=n / 2 ^ (8*(k-j)) % 2 ^ (8*j)
  | 0,_=>by simp [O3,Nat.mod_one]
  | j+1,hj=>by
    have ih:=B7y p q n k j (by omega)
    have hget:(p++(big (n:Int) k++q)).getD (p.length+j) 0=B3F (n:Int) k j:=by
      simp only [List.getD]
      rw [List.getElem?_append_right (by omega),Nat.add_sub_cancel_left,List.getElem?_append_left (by rw [G1];omega)]
      simp only [big,List.getElem?_map,List.getElem?_range (show j<k by omega),Option.map_some,Option.getD_some]
    have hat:B3F (n:Int) k j=((n / 2 ^ (8*(k-1-j)) % 256:Nat):Int):=by
      unfold B3F
      rw [← B7w]
      congr 1
      rw [show (2:Int) ^ (8*(k-1-j))=((2 ^ (8*(k-1-j)):Nat):Int) by rw [Int.natCast_pow];rfl,Int.fdiv_eq_ediv_of_nonneg _ (Int.natCast_nonneg _),← Int.natCast_ediv]
    simp only [O3]
    rw [ih,hget,hat,Int.toNat_natCast,B7x _ _ (Nat.mod_lt _ (by omega))]
    rw [show k-1-j=k-(j+1) by omega]
    have e1:2 ^ (8*(k-j))=2 ^ (8*(k-(j+1)))*256:=by rw [show 8*(k-j)=8*(k-(j+1))+8 by omega,Nat.pow_add]
    have e2:2 ^ (8*(j+1))=256*2 ^ (8*j):=by rw [show 8*(j+1)=8+8*j by omega,Nat.pow_add]
    rw [e1,← Nat.div_div_eq_div_mul,e2,Nat.mod_mul]
    omega
theorem A2s{b:List Int}(p q:List Int)(n:Int)(k a:Nat)(h:b=p++(big n k++q))(ha:a=p.length)(h0:0≤n)(h1:n<2 ^ (8*k)):(O3 b a k:Int)=n:=by
  subst h;subst ha
  obtain ⟨m,rfl⟩:∃ m:Nat,n=(m:Int):=⟨n.toNat,by omega⟩
  rw [B7y p q m k k (Nat.le_refl _),Nat.sub_self,Nat.mul_zero,Nat.pow_zero,Nat.div_one]
  rw [show (2:Int) ^ (8*k)=((2 ^ (8*k):Nat):Int) by rw [Int.natCast_pow];rfl] at h1
  rw [Nat.mod_eq_of_lt (by omega)]
theorem B6a{r:D8}(h:A79 r):bytesOf (N1 r)=A6O r++big (R1 (C6C (A6O r))) 4:=by
  unfold N1
  exact B4n (B6S (B3N r h.2) (C1F _ _))
theorem C5K{r:D8}(h:K4 r=true)(c:List Int):A6O r++c=big r.1 3++(big r.2.1 2++(big r.2.2.1 1++(big (r.2.2.2.1.size:Int) 1++(bytesOf r.2.2.2.1++(big r.2.2.2.2.1 4++(big (List.length r.2.2.2.2.2:Int) 1++(r.2.2.2.2.2++c))))))):=by
  have hb:=R2 h
  have hq:0≤r.2.1:=by
    simp only [K4,Bool.and_eq_true] at h
    exact (of_decide_eq_true h.1.1.2).1
  unfold A6O
  rw [A0p (n:=r.1) (by omega),A0p (n:=r.2.1) hq,A0p (n:=r.2.2.1) (by omega),A0p (n:=(r.2.2.2.1.size:Int)) (by omega),A0p (n:=r.2.2.2.2.1) (by omega),A0p (n:=(List.length r.2.2.2.2.2:Int)) (by omega)]
  simp only [List.append_assoc]
theorem C2D{r:D8}(h:K4 r=true):0≤r.2.1∧r.2.1≤199:=by
  simp only [K4,Bool.and_eq_true] at h
  exact of_decide_eq_true h.1.1.2
theorem C2E{r:D8}(h:K4 r=true)(c:List Int):B9 (A6O r++c)=r.2.2.2.1.size∧J3 (A6O r++c)=List.length r.2.2.2.2.2∧recAt (A6O r++c)=r:=by
  have hb:=R2 h
  have hq:=C2D h
  have e:=C5K h c
  generalize A6O r++c=b at e
  have b6:(O3 b 6 1:Int)=(r.2.2.2.1.size:Int):=A2s (big r.1 3++(big r.2.1 2++big r.2.2.1 1)) _ _ 1 6 (by rw [e];simp only [List.append_assoc];rfl) (by simp [G1]) (by omega) (by omega)
  have hid:B9 b=r.2.2.2.1.size:=by unfold B9;omega
  have b11:(O3 b (11+B9 b) 1:Int)=(List.length r.2.2.2.2.2:Int):=
    A2s (big r.1 3++(big r.2.1 2++(big r.2.2.1 1++(big (r.2.2.2.1.size:Int) 1++(bytesOf r.2.2.2.1++big r.2.2.2.2.1 4))))) _ _ 1 _ (by rw [e];simp only [List.append_assoc];rfl) (by simp [G1,bytesOf_length,hid];omega) (by omega) (by omega)
  have hdl:J3 b=List.length r.2.2.2.2.2:=by unfold J3;omega
  refine ⟨hid,hdl,?_⟩
  have b0:(O3 b 0 3:Int)=r.1:=A2s [] _ _ 3 0 (by rw [e];rfl) rfl (by omega) (by omega)
  have b3:(O3 b 3 2:Int)=r.2.1:=A2s (big r.1 3) _ _ 2 3 (by rw [e]) (by simp [G1]) (by omega) (by omega)
  have b5:(O3 b 5 1:Int)=r.2.2.1:=A2s (big r.1 3++big r.2.1 2) _ _ 1 5 (by rw [e];simp only [List.append_assoc];rfl) (by simp [G1]) (by omega) (by omega)
  have b7:(O3 b (7+B9 b) 4:Int)=r.2.2.2.2.1:=A2s (big r.1 3++(big r.2.1 2++(big r.2.2.1 1++(big (r.2.2.2.1.size:Int) 1++bytesOf r.2.2.2.1)))) _ _ 4 _ (by rw [e];simp only [List.append_assoc];rfl) (by simp [G1,bytesOf_length,hid];omega) (by omega) (by omega)
  have t1:(b.take (7+B9 b)).drop 7=bytesOf r.2.2.2.1:=by
    have e7:b=(big r.1 3++(big r.2.1 2++(big r.2.2.1 1++big (r.2.2.2.1.size:Int) 1)))++(bytesOf r.2.2.2.1++(big r.2.2.2.2.1 4++(big (List.length r.2.2.2.2.2:Int) 1++(r.2.2.2.2.2++c)))):=by rw [e];simp only [List.append_assoc]
    have hl7:(big r.1 3++(big r.2.1 2++(big r.2.2.1 1++big (r.2.2.2.1.size:Int) 1))).length=7:=by simp [G1]
    rw [hid,List.drop_take,Nat.add_sub_cancel_left,e7,← hl7,List.drop_left,← bytesOf_length,List.take_left]
  have t2:(b.take (12+B9 b+J3 b)).drop (12+B9 b)=r.2.2.2.2.2:=by
    have e12:b=(big r.1 3++(big r.2.1 2++(big r.2.2.1 1++(big (r.2.2.2.1.size:Int) 1++(bytesOf r.2.2.2.1++(big r.2.2.2.2.1 4++big (List.length r.2.2.2.2.2:Int) 1))))))++(r.2.2.2.2.2++c):=by rw [e];simp only [List.append_assoc]
    have hl12:(big r.1 3++(big r.2.1 2++(big r.2.2.1 1++(big (r.2.2.2.1.size:Int) 1++(bytesOf r.2.2.2.1++(big r.2.2.2.2.1 4++big (List.length r.2.2.2.2.2:Int) 1)))))).length=12+r.2.2.2.1.size:=by simp [G1,bytesOf_length];omega
    rw [hid,hdl,List.drop_take,Nat.add_sub_cancel_left,e12,← hl12,List.drop_left,List.take_left]
  unfold recAt
  rw [b0,b3,b5,b7,t1,t2,B4o]
theorem A99{r:D8}(h:A79 r):B7 (N1 r)=(r,true,()):=by
  have hpb:=B6a h
  obtain ⟨h1,h2,h3⟩:=C2E h.1 (big (R1 (C6C (A6O r))) 4)
  have hsz:(N1 r).size=12+r.2.2.2.1.size+List.length r.2.2.2.2.2+4:=by
    unfold N1
    rw [A5o,List.length_append,A76,G1]
  have hg:A3x (N1 r)=true:=by
    unfold A3x
    rw [hpb,h1,h2,h3,hsz,A0 (by omega),h.1]
    simp
  unfold B7
  rw [if_pos hg,hpb,h3]
theorem C2F{r:D8}(h:K4 r=true):(N1 r).size≤64:=by
  have hb:=R2 h
  unfold N1
  rw [A5o,List.length_append,A76,G1]
  omega
def X0(last:Int)(i:Nat)(s:ByteArray):Bool:=(B7 s).2.1&&decide ((B7 s).1.2.1=(i:Int))&&!decide ((B7 s).1.1<last)
def E8(last:Int)(i:Nat):List ByteArray→List D8
  | []=> []
  | s::l=>if X0 last i s=true then (B7 s).1::E8 (B7 s).1.1 (i+1) l else []
def A9(now:List ByteArray):List D8:=E8 0 0 now
def T7:Int→List D8→Int
  | e,[]=>e
  | _,r::l=>T7 r.1 l
theorem A2t(last:Int)(i:Nat)(l:List ByteArray):(E8 last i l).length≤l.length:=by
  induction l generalizing last i with
  | nil=>exact Nat.le_refl _
  | cons s l ih=>
    simp only [E8]
    split
    · have:=ih (B7 s).1.1 (i+1);simp only [List.length_cons];omega
    · simp
theorem A9A(last:Int)(i:Nat)(l:List ByteArray):∀ r∈E8 last i l,A79 r:=by
  induction l generalizing last i with
  | nil=>intro r hr;cases hr
  | cons s l ih=>
    intro r hr
    simp only [E8] at hr
    split at hr
    · rename_i hg
      simp only [X0,Bool.and_eq_true] at hg
      rcases List.mem_cons.1 hr with rfl | hr
      · exact B1O hg.1.1
      · exact ih _ _ r hr
    · cases hr
theorem C48(last:Int)(i:Nat)(l:List ByteArray):last≤T7 last (E8 last i l)∧∀ r∈E8 last i l,r.1≤T7 last (E8 last i l):=by
  induction l generalizing last i with
  | nil=>exact ⟨Int.le_refl _,fun r hr=>by cases hr⟩
  | cons s l ih=>
    simp only [E8]
    split
    · rename_i hg
      obtain ⟨h1,h2⟩:=ih (B7 s).1.1 (i+1)
      simp only [X0,Bool.and_eq_true,Bool.not_eq_true',decide_eq_false_iff_not] at hg
      have h3:=hg.2
      simp only [T7]
      refine ⟨by omega,fun r hr=>?_⟩
      rcases List.mem_cons.1 hr with rfl | hr
      · exact h1
      · exact h2 r hr
    · exact ⟨Int.le_refl _,fun r hr=>by cases hr⟩
theorem B5i(last:Int)(i:Nat)(a b:List ByteArray)(h:(E8 last i a).length=a.length):E8 last i (a++b)=E8 last i a++E8 (T7 last (E8 last i a)) (i+a.length) b:=by
  induction a generalizing last i with
  | nil=>simp [E8,T7]
  | cons s a ih=>
    simp only [E8,List.cons_append] at h ⊢
    split
    · rename_i hg
      rw [if_pos hg] at h
      simp only [List.length_cons,Nat.add_right_cancel_iff] at h
      rw [ih _ _ h,List.cons_append,T7,List.length_cons]
      congr 3
      omega
    · rename_i hg
      rw [if_neg hg] at h
      simp at h
theorem B9j(last:Int)(i:Nat)(l:List ByteArray):E8 last i (l.take (E8 last i l).length)=E8 last i l:=by
  induction l generalizing last i with
  | nil=>rfl
  | cons s l ih=>
    simp only [E8]
    split
    · rename_i hg
      simp only [List.length_cons,List.take_succ_cons,E8,if_pos hg,ih]
    · rfl
theorem A9B(last:Int)(i:Nat)(l:List ByteArray)(h:∀ s,l.head? = some s→X0 last i s=false):E8 last i l = []:=by
  cases l with
  | nil=>rfl
  | cons s l=>simp only [E8,h s rfl,Bool.false_eq_true,if_false]
theorem A5s(last:Int)(i:Nat)(s:ByteArray)(l:List ByteArray):E8 last i (s::l)=bif X0 last i s then (B7 s).1::E8 (B7 s).1.1 (i+1) l else []:=by
  simp only [E8]
  cases X0 last i s<;>rfl
set_option maxRecDepth 100000 in
theorem B5j(d:E5)(h:A9s d.1):M9 d=some (A9 d.1,()):=by
  have hl:=h.1
  obtain ⟨z,e,hz⟩:=A0Q (L6 F8 d) (fun l=>((d.1.length:Int)-l.2.1).toNat) (fun l=>∃ i:Nat,l.2.1=(i:Int)∧i≤d.1.length∧List.length l.2.2.1=i∧A9 d.1=l.2.2.1++E8 l.1 i (d.1.drop i))
    (fun z=>z=(A9 d.1,())) (fun l hl=>by
      obtain ⟨i,h0,h1,h2,h3⟩:=hl
      simp only [L6]
      by_cases hi:i<d.1.length
      · rw [h0,A0 (show (i:Int)<(d.1.length:Int) by omega),A0 (show (0:Int)≤(i:Int) by omega)]
        simp only [cond_true]
        rw [A1z _ (A41 h hi)]
        simp only [A3]
        rw [A1U hi]
        have hdrop:d.1.drop i=d.1[i]::d.1.drop (i+1):=List.drop_eq_getElem_cons hi
        rw [hdrop] at h3
        rw [A5s] at h3
        simp only [X0] at h3
        obtain ⟨g,hg⟩:∃ g,B7 d.1[i]=g:=⟨_,rfl⟩
        rw [hg] at h3 ⊢
        cases hk:g.2.1 with
        | false=>
          rw [hk] at h3
          simp only [Bool.false_and,cond_false,List.append_nil] at h3
          exact .inr ⟨_,rfl,by rw [h3]⟩
        | true=>
          rw [hk] at h3
          simp only [Bool.true_and] at h3
          simp only [Bool.not_true,cond_false]
          by_cases e1:g.1.2.1=(i:Int)
          · rw [A0 e1] at h3 ⊢
            by_cases e2:g.1.1<l.1
            · rw [A0 e2] at h3 ⊢
              simp only [Bool.not_true,Bool.and_false,cond_false,List.append_nil] at h3
              exact .inr ⟨_,rfl,by rw [h3]⟩
            · rw [A4 e2] at h3 ⊢
              simp only [Bool.not_false,Bool.and_true,cond_true,Bool.true_and] at h3
              simp only [Bool.not_true,cond_false]
              rw [A0 (by simp;omega),A0 (by simp;omega),w64 (by omega) (by omega)]
              refine .inl ⟨_,rfl,⟨i+1,by simp only;omega,by omega,by simp;omega,?_⟩,by simp only;omega⟩
              simp only
              rw [h3,List.append_assoc]
              rfl
          · rw [A4 e1] at h3 ⊢
            simp only [Bool.false_and,cond_false,List.append_nil] at h3
            exact .inr ⟨_,rfl,by rw [h3]⟩
      · rw [h0,A4 (show ¬ (i:Int)<(d.1.length:Int) by omega)]
        rw [List.drop_eq_nil_of_le (by omega)] at h3
        simp only [E8,List.append_nil] at h3
        exact .inr ⟨_,rfl,by rw [h3]⟩) (0,0,[],()) ⟨0,rfl,by omega,rfl,by simp [A9]⟩
  have e':M9 d=some z:=e
  rw [e',hz]
structure GoodS (st:A5):Prop where
  dk:A2L st.1=true
  ep:0≤st.2.1∧st.2.1≤10000
  up:G9 [] (A9 st.1.1)=some st.2.2.2
  nx:st.2.2.1=(List.length (A9 st.1.1):Int)
  le:T7 0 (A9 st.1.1)≤st.2.1
  tl:((st.1.1.drop (A9 st.1.1).length).all fun s=>!Z4 st.2.1 s)=true
theorem A1l{d:E5}(h:A2L d=true):A68 d∧d.1.length=d.2.length∧d.1.length≤200∧(∀ s∈d.1,s.size≤64)∧∀ s∈d.2,s.size≤64:=by
  simp only [A2L,Bool.and_eq_true] at h
  obtain ⟨h1,h2⟩:=h
  have h1:=of_decide_eq_true h1
  have k1:∀ s∈d.1,s.size≤64:=fun s hs=>by
    obtain ⟨i,hi,rfl⟩:=List.getElem_of_mem hs
    have:=List.all_eq_true.1 h2 i (List.mem_range.2 hi)
    simp only [Bool.and_eq_true,Bool.not_eq_true',decide_eq_false_iff_not] at this
    have h3:=this.1
    rw [A1U hi] at h3
    omega
  have k2:∀ s∈d.2,s.size≤64:=fun s hs=>by
    obtain ⟨i,hi,rfl⟩:=List.getElem_of_mem hs
    have:=List.all_eq_true.1 h2 i (List.mem_range.2 (by omega))
    simp only [Bool.and_eq_true,Bool.not_eq_true',decide_eq_false_iff_not] at this
    have h3:=this.2
    rw [A1U hi] at h3
    omega
  exact ⟨⟨⟨by omega,fun s hs=>by have:=k1 s hs;omega⟩,by omega,fun s hs=>by have:=k2 s hs;omega⟩,h1.1,h1.2,k1,k2⟩
theorem B3T{d:E5}(h1:d.1.length=d.2.length)(h2:d.1.length≤200)(h3:∀ s∈d.1,s.size≤64)(h4:∀ s∈d.2,s.size≤64):A2L d=true:=by
  simp only [A2L,Bool.and_eq_true]
  refine ⟨decide_eq_true ⟨h1,h2⟩,List.all_eq_true.2 fun i hi=>?_⟩
  have hi:=List.mem_range.1 hi
  rw [A1U hi,A1U (show i<d.2.length by omega)]
  have k1:=h3 _ (List.getElem_mem hi)
  have k2:=h4 _ (List.getElem_mem (show i<d.2.length by omega))
  rw [A4 (by omega),A4 (by omega)]
  rfl
theorem B9k(l:List D8)(h:0<l.length)(e:Int):(rd A2b l ((l.length:Int)-1)).1=T7 e l:=by
  induction l generalizing e with
  | nil=>simp at h
  | cons r l ih=>
    cases l with
    | nil=>rfl
    | cons r' l=>
      have h2:=ih (by simp) r.1
      simp only [T7] at h2 ⊢
      rw [← h2]
      have e1:((r::r'::l).length:Int)-1=(((l.length+1):Nat):Int):=by simp only [List.length_cons];omega
      have e2:((r'::l).length:Int)-1=((l.length:Nat):Int):=by simp only [List.length_cons];omega
      rw [e1,e2,E0 (k:=A2b) (xs:=r::r'::l) (by simp),E0 (k:=A2b) (xs:=r'::l) (by simp)]
      rfl
theorem B1P(st:A5)(h:A9s st.1.1)(hb:∀ u∈st.2.2.2,Byt u.2.2.1):∃ b,D0 st=some (b,())∧K0 st=some (b,())∧(b=true↔GoodS st):=by
  obtain ⟨b,hs,hi,_⟩:=B9b st h
  refine ⟨b,hs,hi,?_⟩
  have hl:=h.1
  have hrg:=A9A 0 0 st.1.1
  have hll:=A2t 0 0 st.1.1
  have hfs:=A4I (A9 st.1.1) (by simp only [maxLen,A9];omega) hrg
  simp only [D0,A3u,A7B,B5j st.1 h,hfs,A1j,A3] at hs
  have hsc:E8 0 0 st.1.1=A9 st.1.1:=rfl
  rw [hsc] at hrg hll
  cases hbd:A2L st.1 with
  | false=>
    rw [hbd] at hs
    have:b=false:=by
      simp only [Bool.not_false,cond_true] at hs
      first | (injection hs with hs;injection hs with hs;exact hs.symm) | (simp [C1] at hs;exact hs.symm)
    rw [this]
    exact ⟨fun e=>by (cases e),fun g=>by rw [g.dk] at hbd;cases hbd⟩
  | true=>
    rw [hbd] at hs
    simp only [Bool.not_true,cond_false] at hs
    by_cases he:0≤st.2.1∧st.2.1≤10000
    · rw [A0 he] at hs
      simp only [Bool.not_true,cond_false,C1] at hs
      unfold Z3 at hs
      cases hf:G9 [] (A9 st.1.1) with
      | none=>
        rw [hf] at hs
        have:b=false:=by
          first | (injection hs with hs;injection hs with hs;exact hs.symm) | (simp at hs;exact hs.symm)
        rw [this]
        exact ⟨fun e=>by (cases e),fun g=>by rw [g.up] at hf;cases hf⟩
      | some us=>
        have hu:=A40 B2Q hrg hf
        have hul:=hu.2.1
        rw [hf] at hs
        simp only at hs
        rw [B5Z _ _ (show us.length≤maxLen by simp only [maxLen];omega)] at hs
        simp only [Bool.not_true,cond_false] at hs
        cases hsm:T6 us st.2.2.2 with
        | false=>
          rw [hsm] at hs
          have:b=false:=by
            first | (injection hs with hs;injection hs with hs;exact hs.symm) | (simp at hs;exact hs.symm)
          rw [this]
          refine ⟨fun e=>by (cases e),fun g=>?_⟩
          have:=g.up
          rw [hf] at this
          injection this with this
          rw [this,A8T] at hsm
          cases hsm
        | true=>
          have heq:=B9d (fun u hu'=>(hu.2.2 u hu').2.2.2) hb hsm
          rw [hsm] at hs
          simp only [Bool.not_true,cond_false] at hs
          by_cases hn:st.2.2.1=(List.length (A9 st.1.1):Int)
          · rw [A0 hn] at hs
            simp only [Bool.not_true,cond_false] at hs
            have htail:=B5a st h (A9 st.1.1).length hll
            rw [hn] at hs
            rw [htail] at hs
            by_cases hl0:(List.length (A9 st.1.1):Int)>0
            · rw [A0 hl0,w64 (n:=(List.length (A9 st.1.1):Int)-1) (by omega) (by omega),A0 (show (0:Int)≤(List.length (A9 st.1.1):Int)-1 by omega),A0 (show (List.length (A9 st.1.1):Int)-1<(List.length (A9 st.1.1):Int) by omega),B9k (A9 st.1.1) (by omega) 0] at hs
              simp only [cond_true] at hs
              by_cases hle:T7 0 (A9 st.1.1)>st.2.1
              · rw [A0 hle] at hs
                have:b=false:=by
                  first | (injection hs with hs;injection hs with hs;exact hs.symm) | (simp at hs;exact hs.symm)
                rw [this]
                exact ⟨fun e=>by (cases e),fun g=>by have:=g.le;omega⟩
              · rw [A4 hle] at hs
                simp only [cond_false] at hs
                have:b=((st.1.1.drop (A9 st.1.1).length).all fun s=>!Z4 st.2.1 s):=by
                  first | (injection hs with hs;injection hs with hs;exact hs.symm) | (simp at hs;exact hs.symm)
                rw [this]
                exact ⟨fun e=>⟨hbd,he,by rw [hf,heq],hn,by omega,e⟩,fun g=>g.tl⟩
            · rw [A4 hl0] at hs
              simp only [cond_false] at hs
              have:b=((st.1.1.drop (A9 st.1.1).length).all fun s=>!Z4 st.2.1 s):=by
                first | (injection hs with hs;injection hs with hs;exact hs.symm) | (simp at hs;exact hs.symm)
              rw [this]
              have hnil:A9 st.1.1 = []:=List.length_eq_zero_iff.1 (by omega)
              exact ⟨fun e=>⟨hbd,he,by rw [hf,heq],hn,by rw [hnil];exact he.1,e⟩,fun g=>g.tl⟩
          · rw [A4 hn] at hs
            have:b=false:=by
              first | (injection hs with hs;injection hs with hs;exact hs.symm) | (simp at hs;exact hs.symm)
            rw [this]
            exact ⟨fun e=>by (cases e),fun g=>absurd g.nx hn⟩
    · rw [A4 he] at hs
      have:b=false:=by
        first | (injection hs with hs;injection hs with hs;exact hs.symm) | (simp [C1] at hs;exact hs.symm)
      rw [this]
      exact ⟨fun e=>by (cases e),fun g=>absurd g.ep he⟩
theorem C5L{st:A5}(h:GoodS st)(hr:Ups st.2.2.2):Rt st:=by
  obtain ⟨k1,k2,k3,k4,k5⟩:=A1l h.dk
  have:=A2t 0 0 st.1.1
  have hn:=h.nx
  exact ⟨⟨h.ep.1,h.ep.2,k2,k3,by simp only [A9] at hn;omega,st.2.2.2,hr,A8T _⟩,hr,k1⟩
theorem A4m{st:A5}(h:GoodS st):Ups st.2.2.2:=A40 B2Q (A9A 0 0 st.1.1) h.up
theorem B1Q:∀ (l l':List D8) (us:List TUp),G9 us (l++l')=(G9 us l).bind fun us'=>G9 us' l'
  | [],l',us=>rfl
  | r::l,l',us=>by
    simp only [List.cons_append,G9]
    cases H4 us r with
    | none=>rfl
    | some us'=>exact B1Q l l' us'
theorem C2G(l:List D8)(r:D8)(e:Int):T7 e (l ++ [r])=r.1:=by
  induction l generalizing e with
  | nil=>rfl
  | cons x l ih=>exact ih x.1
theorem A5t{st:A5}(h:GoodS st){r:D8}(hr:A79 r)(h1:r.1=st.2.1)(h2:r.2.1=st.2.2.1)(hlt:st.2.2.1<(st.1.1.length:Int)){us:List TUp}(hf:H4 st.2.2.2 r=some us) :
    GoodS (wrote st r us)∧A9 (wrote st r us).1.1=A9 st.1.1 ++ [r]:=by
  obtain ⟨k1,k2,k3,k4,k5⟩:=A1l h.dk
  have hn:=h.nx
  generalize hL:A9 st.1.1=L at *
  have hll:L.length≤st.1.1.length:=by rw [← hL];exact A2t 0 0 st.1.1
  have hlt':L.length<st.1.1.length:=by omega
  have hto:st.2.2.1.toNat=L.length:=by omega
  have hset:st.1.1.set L.length (N1 r)=st.1.1.take L.length++N1 r::st.1.1.drop (L.length+1):=by
    rw [List.set_eq_take_append_cons_drop,if_pos hlt']
  have htake:E8 0 0 (st.1.1.take L.length)=L:=by
    have:=B9j 0 0 st.1.1
    rw [show E8 0 0 st.1.1=L from hL] at this
    exact this
  have hgo:X0 (T7 0 L) L.length (N1 r)=true:=by
    simp only [X0,A99 hr,Bool.true_and]
    rw [h1,h2,A0 (by omega),A4 (by have:=h.le;rw [hL] at this;omega)]
    rfl
  have htl:=h.tl
  rw [hL] at htl
  have hscan:A9 (wrote st r us).1.1=L ++ [r]:=by
    show E8 0 0 (st.1.1.set st.2.2.1.toNat (N1 r))=_
    rw [hto,hset,B5i _ _ _ _ (by rw [htake,List.length_take];omega),htake]
    congr 1
    have hle:(st.1.1.take L.length).length=L.length:=by rw [List.length_take];omega
    simp only [E8,hle,Nat.zero_add,hgo,if_true,A99 hr]
    congr 1
    refine A9B _ _ _ fun s hs=>?_
    have hmem:s∈st.1.1.drop (L.length+1):=List.mem_of_mem_head? hs
    have hmem2:s∈st.1.1.drop L.length:=by
      rw [List.drop_eq_getElem_cons hlt']
      exact List.mem_cons_of_mem _ hmem
    have:=List.all_eq_true.1 htl s hmem2
    simp only [Z4,Bool.not_eq_true',Bool.and_eq_false_iff,decide_eq_false_iff_not] at this
    simp only [X0,h1]
    rcases this with h3 | h3
    · rw [h3];rfl
    · rw [A0 (show (B7 s).1.1<st.2.1 by omega)]
      simp
  have hlen:(L ++ [r]).length=L.length+1:=by simp
  refine ⟨⟨?_,h.ep,?_,?_,?_,?_⟩,hscan⟩
  · refine B3T ?_ ?_ (fun s hs=>?_) k5
    · show (st.1.1.set _ _).length=_;rw [List.length_set];exact k2
    · show (st.1.1.set _ _).length≤_;rw [List.length_set];exact k3
    · rcases List.mem_or_eq_of_mem_set hs with hs | rfl
      · exact k4 s hs
      · exact C2F hr.1
  · have hup:=h.up
    rw [hL] at hup
    rw [hscan,B1Q,hup]
    show G9 st.2.2.2 [r]=some us
    simp only [G9,hf]
  · rw [hscan,hlen]
    show st.2.2.1+1=_
    omega
  · rw [hscan,C2G,h1]
    exact Int.le_refl _
  · rw [hscan,hlen]
    show ((st.1.1.set st.2.2.1.toNat (N1 r)).drop (L.length+1)).all _=true
    rw [hto,List.drop_set_of_lt (by omega)]
    rw [List.drop_eq_getElem_cons hlt',List.all_cons,Bool.and_eq_true] at htl
    exact htl.2
def R4(now sure:List ByteArray)(k:List Bool):List ByteArray:=(List.range now.length).map fun i=>bif k.getD i false then now.getD i ⟨#[]⟩ else sure.getD i ⟨#[]⟩
def B7z(d:E5)(k:List Bool):E5:=(R4 d.1 d.2 k,R4 d.1 d.2 k)
theorem A9w(now sure:List ByteArray)(k:List Bool):(R4 now sure k).length=now.length:=by simp [R4]
theorem A9x{now sure:List ByteArray}{k:List Bool}(h:now.length=sure.length){i:Nat}(hi:i<now.length):(R4 now sure k)[i]? = if k.getD i false=true then now[i]? else sure[i]?:=by
  simp only [R4,List.getElem?_map,List.getElem?_range hi,Option.map_some]
  rw [List.getElem?_eq_getElem hi,List.getElem?_eq_getElem (show i<sure.length by omega)]
  have e1:now.getD i ⟨#[]⟩=now[i]:=by simp [List.getD,hi]
  have e2:sure.getD i ⟨#[]⟩=sure[i]'(by omega):=by simp [List.getD,show i<sure.length by omega]
  rw [e1,e2]
  by_cases hb:k.getD i false=true
  · rw [if_pos hb,hb];rfl
  · rw [if_neg hb,Bool.eq_false_iff.2 hb];rfl
def A6P{α:Type}(l x:List α)(i:Nat):List α:=l.take i++x.drop i
theorem B80{α:Type}{l x:List α}(h:l.length=x.length)(i:Nat):(A6P l x i).length=x.length:=by simp [A6P];omega
theorem B81{α:Type}{l x:List α}(h:l.length=x.length){i:Nat}(hi:i<l.length):(A6P l x i).set i l[i]=A6P l x (i+1):=by
  have hl:(l.take i).length=i:=by rw [List.length_take];omega
  unfold A6P
  rw [List.drop_eq_getElem_cons (show i<x.length by omega)]
  have e:(l.take i++x[i]'(by omega)::x.drop (i+1)).set i l[i]=l.take i++(x[i]'(by omega)::x.drop (i+1)).set (i-(l.take i).length) l[i]:=List.set_append_right _ _ (by omega)
  rw [e,hl,Nat.sub_self,List.set_cons_zero,List.take_succ_eq_append_getElem hi,List.append_assoc]
  rfl
theorem B5k{α:Type}{l x:List α}(h:l.length=x.length){i:Nat}(hi:i<l.length)(he:l[i]? = x[i]?):A6P l x i=A6P l x (i+1):=by
  unfold A6P
  rw [List.drop_eq_getElem_cons (show i<x.length by omega),List.take_succ_eq_append_getElem hi,List.append_assoc]
  rw [List.getElem?_eq_getElem hi,List.getElem?_eq_getElem (show i<x.length by omega)] at he
  injection he with he
  rw [he]
  rfl
theorem B82{α:Type}{l x:List α}(h:l.length=x.length){i:Nat}(hi:i<x.length):(A6P l x i)[i]? = x[i]?:=by
  unfold A6P
  rw [List.getElem?_append_right (by rw [List.length_take];omega),List.length_take,Nat.min_eq_left (by omega),Nat.sub_self,List.getElem?_drop,Nat.add_zero]
theorem C2H(d:E5)(k:List Bool)(hd:A2L d=true):Y0 d k=some (B7z d k,()):=by
  obtain ⟨hS,hlen,h200,_,_⟩:=A1l hd
  have hml:=A9w d.1 d.2 k
  simp only [Y0,A5k,A4J d hS,A7B,hd,bO,Bool.not_true,cond_false]
  have key:=I7 (A0m k) (fun i=>((i:Int),A6P (R4 d.1 d.2 k) d.1 i,A6P (R4 d.1 d.2 k) d.2 i,())) d.1.length (B7z d k,()) (fun i hi=>?_) ?_
  · exact key
  · have l1:=B80 (l:=R4 d.1 d.2 k) (x:=d.1) hml i
    have l2:=B80 (l:=R4 d.1 d.2 k) (x:=d.2) (by omega) i
    have g1:=B82 (l:=R4 d.1 d.2 k) (x:=d.1) hml hi
    have g2:=B82 (l:=R4 d.1 d.2 k) (x:=d.2) (by omega) (show i<d.2.length by omega)
    have hm:=A9x (k:=k) hlen hi
    have hmi:i<(R4 d.1 d.2 k).length:=by omega
    simp only [A0m,l1]
    rw [A0 (show (i:Int)<(d.1.length:Int) by omega)]
    have hb:(bif decide ((i:Int)<(k.length:Int)) then bif decide (0≤(i:Int)) then bif decide ((i:Int)<(k.length:Int)) then (some ((rd .bool k (i:Int)),()):Option (Bool×Unit)) else none else none else some (false,()))=some (k.getD i false,()):=by
      by_cases hik:i<k.length
      · rw [A0 (show (i:Int)<(k.length:Int) by omega),A0 (show (0:Int)≤(i:Int) by omega)]
        simp only [cond_true]
        rw [E0 (k:=.bool) hik]
        simp [List.getD,hik]
      · rw [A4 (show ¬ (i:Int)<(k.length:Int) by omega)]
        simp [List.getD,List.getElem?_eq_none (show k.length≤i by omega)]
    rw [hb]
    simp only [cond_true,bO,l2,hlen]
    rw [A0 (show (0:Int)≤(i:Int) by omega),A0 (show (i:Int)<(d.2.length:Int) by omega),w64 (by omega) (by omega)]
    have r1:rd .str (A6P (R4 d.1 d.2 k) d.1 i) (i:Int)=d.1[i]:=by
      rw [A1U (by omega)]
      have:=g1
      rw [List.getElem?_eq_getElem (by omega),List.getElem?_eq_getElem hi] at this
      injection this
    have r2:rd .str (A6P (R4 d.1 d.2 k) d.2 i) (i:Int)=d.2[i]:=by
      rw [A1U (by omega)]
      have:=g2
      rw [List.getElem?_eq_getElem (by omega),List.getElem?_eq_getElem (show i<d.2.length by omega)] at this
      injection this
    rw [r1,r2,Int.toNat_natCast]
    rw [List.getElem?_eq_getElem hmi,List.getElem?_eq_getElem hi,List.getElem?_eq_getElem (show i<d.2.length by omega)] at hm
    cases hkb:k.getD i false with
    | true=>
      rw [hkb,if_pos rfl] at hm
      injection hm with hm
      simp only [cond_true]
      rw [← hm,B81 (by omega) hmi,B5k (l:=R4 d.1 d.2 k) (x:=d.1) hml hmi (by rw [List.getElem?_eq_getElem hmi,List.getElem?_eq_getElem hi,hm])]
      rfl
    | false=>
      rw [hkb,if_neg (by simp)] at hm
      injection hm with hm
      simp only [cond_true,cond_false]
      rw [← hm,B81 hml hmi,B5k (l:=R4 d.1 d.2 k) (x:=d.2) (by omega) hmi (by rw [List.getElem?_eq_getElem hmi,List.getElem?_eq_getElem (show i<d.2.length by omega),hm])]
      rfl
  · have e1:A6P (R4 d.1 d.2 k) d.1 d.1.length=R4 d.1 d.2 k:=by unfold A6P;rw [List.drop_length,List.append_nil,List.take_of_length_le (by omega)]
    have e2:A6P (R4 d.1 d.2 k) d.2 d.1.length=R4 d.1 d.2 k:=by unfold A6P;rw [hlen,List.drop_length,List.append_nil,List.take_of_length_le (by omega)]
    simp only [A0m,e1,e2]
    rw [A4 (by omega)]
    rfl
theorem B83(last:Int)(i:Nat)(l:List ByteArray)(j:Nat):E8 last i (l.take j)=(E8 last i l).take j:=by
  induction l generalizing last i j with
  | nil=>simp [E8]
  | cons s l ih=>
    cases j with
    | zero=>simp [E8]
    | succ j=>
      simp only [List.take_succ_cons,A5s,ih]
      cases X0 last i s<;>simp
theorem B5l(last:Int)(j:Nat)(l:List ByteArray)(i:Nat)(hi:i<(E8 last j l).length):∃ s,l[i]? = some s∧B7 s=((E8 last j l)[i],true,()):=by
  induction l generalizing last j i with
  | nil=>simp [E8] at hi
  | cons s l ih=>
    have e:=A5s last j s l
    cases hg:X0 last j s with
    | false=>rw [hg] at e;rw [e] at hi;simp at hi
    | true=>
      rw [hg] at e
      simp only [cond_true] at e
      cases i with
      | zero=>
        refine ⟨s,rfl,?_⟩
        simp only [X0,Bool.and_eq_true] at hg
        have h0:(E8 last j (s::l))[0]=(B7 s).1:=by simp only [e];rfl
        rw [h0]
        have:=hg.1.1
        generalize B7 s=g at this
        obtain ⟨a,b,u⟩:=g
        simp only at this
        rw [this]
      | succ i=>
        have hi2:i<(E8 (B7 s).1.1 (j+1) l).length:=by rw [e] at hi;simpa using hi
        obtain ⟨s',h1,h2⟩:=ih _ _ i hi2
        refine ⟨s',h1,?_⟩
        rw [h2]
        congr 1
        simp only [e,List.getElem_cons_succ]
theorem A5u{now x:List ByteArray}{j:Nat}(hj:j≤(A9 now).length)(hx:x.take j=now.take j)(hlen:x.length=now.length):A9 x=(A9 now).take j++E8 (T7 0 ((A9 now).take j)) j (x.drop j):=by
  have hll:=A2t 0 0 now
  have hs:E8 0 0 (x.take j)=(A9 now).take j:=by rw [hx,B83];rfl
  have h1:(E8 0 0 (x.take j)).length=(x.take j).length:=by
    rw [hs,List.length_take,List.length_take]
    simp only [A9] at hj ⊢
    omega
  have:=B5i 0 0 (x.take j) (x.drop j) h1
  rw [List.take_append_drop,hs] at this
  have hj2:(x.take j).length=j:=by rw [List.length_take];simp only [A9] at hj;omega
  rw [hj2,Nat.zero_add] at this
  exact this
theorem C49{now:List ByteArray}{j:Nat}(hj:(A9 now).length=j):E8 (T7 0 (A9 now)) j (now.drop j) = []:=by
  have h:=A5u (now:=now) (x:=now) (j:=j) (by omega) rfl rfl
  rw [← hj,List.take_length] at h
  rw [← hj]
  have h2:A9 now ++ []=A9 now++E8 (T7 0 (A9 now)) (A9 now).length (now.drop (A9 now).length):=by rw [List.append_nil];exact h
  exact (List.append_cancel_left h2).symm
theorem C1K{st:A5}(h:GoodS st):∀ s∈st.1.1,(B7 s).2.1=true→(B7 s).1.1≤st.2.1:=by
  intro s hs hr
  obtain ⟨i,hi,rfl⟩:=List.getElem_of_mem hs
  by_cases hl:i<(A9 st.1.1).length
  · obtain ⟨s',h1,h2⟩:=B5l 0 0 st.1.1 i hl
    rw [List.getElem?_eq_getElem hi] at h1
    injection h1 with h1
    rw [h1,h2]
    have:=(C48 0 0 st.1.1).2 _ (List.getElem_mem hl)
    exact Int.le_trans this h.le
  · have hm:st.1.1[i]∈st.1.1.drop (A9 st.1.1).length:=by
      rw [List.mem_iff_getElem]
      refine ⟨i-(A9 st.1.1).length,by rw [List.length_drop];omega,?_⟩
      rw [List.getElem_drop]
      congr 1
      omega
    have:=List.all_eq_true.1 h.tl _ hm
    simp only [Z4,hr,Bool.true_and,Bool.not_eq_true',decide_eq_false_iff_not] at this
    omega
structure Dur (st:A5) (c:Nat):Prop where
  g:GoodS st
  le:c≤(A9 st.1.1).length
  out:∀ i,¬ (c≤i∧i<(A9 st.1.1).length)→st.1.2[i]? = st.1.1[i]?
  inn:∀ i s,c≤i→i<(A9 st.1.1).length→st.1.2[i]? = some s→Z4 st.2.1 s=false
  ep:∀ i (h:i<(A9 st.1.1).length),c≤i→(A9 st.1.1)[i].1=st.2.1
  sc:A9 st.1.2=(A9 st.1.1).take c
theorem B84{e:Int}{s:ByteArray}(h:Z4 e s=false)(i:Nat):X0 e i s=false:=by
  simp only [Z4,Bool.and_eq_false_iff,decide_eq_false_iff_not] at h
  simp only [X0]
  rcases h with h | h
  · rw [h];rfl
  · rw [A0 (show (B7 s).1.1<e by omega)];simp
theorem B3U{L:List D8}{e:Int}{j:Nat}(h0:0<j)(hj:j≤L.length):T7 e (L.take j)=(L[j-1]'(by omega)).1:=by
  induction L generalizing e j with
  | nil=>simp at hj;omega
  | cons r L ih=>
    cases j with
    | zero=>omega
    | succ j=>
      simp only [List.take_succ_cons,T7]
      cases j with
      | zero=>simp [T7]
      | succ j=>
        rw [ih (by omega) (by simpa using hj)]
        simp
theorem A7D{st:A5}{c:Nat}(h:Dur st c)(k:List Bool){i:Nat}(hi:i<st.1.1.length)(hk:k.getD i false=true∨¬ (c≤i∧i<(A9 st.1.1).length)):(R4 st.1.1 st.1.2 k)[i]? = st.1.1[i]?:=by
  obtain ⟨_,k2,_⟩:=A1l h.g.dk
  rw [A9x k2 hi]
  split
  · rfl
  · rename_i hn
    rcases hk with hk | hk
    · exact absurd hk hn
    · exact h.out i hk
theorem C2I{α:Type}{x now:List α}{j:Nat}(hx:x.take j=now.take j)(hj:j<now.length)(hlen:x.length=now.length)(he:x[j]? = now[j]?):x.take (j+1)=now.take (j+1):=by
  rw [List.take_succ_eq_append_getElem (show j<x.length by omega),List.take_succ_eq_append_getElem hj,hx]
  rw [List.getElem?_eq_getElem (show j<x.length by omega),List.getElem?_eq_getElem hj] at he
  injection he with he
  rw [he]
theorem C4A{st:A5}{c:Nat}(h:Dur st c)(k:List Bool):∃ m,c≤m∧m≤(A9 st.1.1).length∧A9 (R4 st.1.1 st.1.2 k)=(A9 st.1.1).take m:=by
  obtain ⟨_,k2,k3,_⟩:=A1l h.g.dk
  have hml:=A9w st.1.1 st.1.2 k
  have hll:(A9 st.1.1).length≤st.1.1.length:=A2t 0 0 st.1.1
  have go:∀ (n j:Nat),j+n=(A9 st.1.1).length→c≤j→(R4 st.1.1 st.1.2 k).take j=st.1.1.take j→∃ m,c≤m∧m≤(A9 st.1.1).length∧A9 (R4 st.1.1 st.1.2 k)=(A9 st.1.1).take m:=by
    intro n
    induction n with
    | zero=>
      intro j hj hc hx
      rw [Nat.add_zero] at hj
      refine ⟨j,hc,by omega,?_⟩
      rw [A5u (by omega) hx hml,hj,List.take_length]
      have hdrop:(R4 st.1.1 st.1.2 k).drop (A9 st.1.1).length=st.1.1.drop (A9 st.1.1).length:=by
        refine List.ext_getElem? fun i=>?_
        rw [List.getElem?_drop,List.getElem?_drop]
        by_cases hi:(A9 st.1.1).length+i<st.1.1.length
        · exact A7D h k hi (.inr (by omega))
        · rw [List.getElem?_eq_none (by omega),List.getElem?_eq_none (by omega)]
      rw [hdrop,C49 rfl,List.append_nil]
    | succ n ih=>
      intro j hj hc hx
      have hjl:j<st.1.1.length:=by omega
      cases hk:k.getD j false with
      | true=>exact ih (j+1) (by omega) (by omega) (C2I hx hjl hml (A7D h k hjl (.inl hk)))
      | false=>
        refine ⟨j,hc,by omega,?_⟩
        rw [A5u (by omega) hx hml]
        have hs:E8 (T7 0 ((A9 st.1.1).take j)) j ((R4 st.1.1 st.1.2 k).drop j) = []:=by
          refine A9B _ _ _ fun s hs=>?_
          have hs2:(R4 st.1.1 st.1.2 k)[j]? = some s:=by
            rw [List.head?_eq_getElem?,List.getElem?_drop,Nat.add_zero] at hs
            exact hs
          rw [A9x k2 hjl,hk,if_neg (by simp)] at hs2
          by_cases hjc:j=c
          · have hsp:=A5u (now:=st.1.2) (x:=st.1.2) (j:=c) (by rw [h.sc,List.length_take];omega) rfl rfl
            rw [h.sc,List.take_take,Nat.min_self] at hsp
            have hnil:E8 (T7 0 ((A9 st.1.1).take c)) c (st.1.2.drop c) = []:=by
              have h2:(A9 st.1.1).take c ++ []=(A9 st.1.1).take c++E8 (T7 0 ((A9 st.1.1).take c)) c (st.1.2.drop c):=by rw [List.append_nil];exact hsp
              exact (List.append_cancel_left h2).symm
            rw [hjc] at hs2 ⊢
            have hcl:c<st.1.2.length:=(List.getElem?_eq_some_iff.1 hs2).1
            rw [List.drop_eq_getElem_cons hcl,A5s] at hnil
            have:st.1.2[c]=s:=by rw [List.getElem?_eq_getElem hcl] at hs2;injection hs2
            rw [this] at hnil
            cases hg:X0 (T7 0 ((A9 st.1.1).take c)) c s with
            | false=>rfl
            | true=>rw [hg] at hnil;cases hnil
          · rw [B3U (by omega) (by omega),h.ep (j-1) (by omega) (by omega)]
            exact B84 (h.inn j s hc (by omega) hs2) _
        rw [hs,List.append_nil]
  refine go ((A9 st.1.1).length-c) c (by have:=h.le;omega) (Nat.le_refl _) ?_
  refine List.ext_getElem? fun i=>?_
  by_cases hi:i<c
  · rw [List.getElem?_take_of_lt hi,List.getElem?_take_of_lt hi]
    exact A7D h k (by have:=h.le;omega) (.inr (by omega))
  · rw [List.getElem?_eq_none (by rw [List.length_take];omega),List.getElem?_eq_none (by rw [List.length_take];omega)]
theorem B6b{now sure:List ByteArray}{k:List Bool}(h:now.length=sure.length){s:ByteArray}(hs:s∈R4 now sure k):s∈now∨s∈sure:=by
  obtain ⟨i,hi,rfl⟩:=List.getElem_of_mem hs
  have hi':i<now.length:=by rw [A9w] at hi;exact hi
  have:=A9x (k:=k) h hi'
  rw [List.getElem?_eq_getElem hi] at this
  split at this
  · exact .inl (List.mem_of_getElem? this.symm)
  · exact .inr (List.mem_of_getElem? this.symm)
theorem B85{st:A5}{c:Nat}(h:Dur st c):∀ s∈st.1.2,(B7 s).2.1=true→(B7 s).1.1≤st.2.1:=by
  intro s hs hr
  obtain ⟨i,hi,rfl⟩:=List.getElem_of_mem hs
  by_cases hb:c≤i∧i<(A9 st.1.1).length
  · have:=h.inn i _ hb.1 hb.2 (List.getElem?_eq_getElem hi)
    simp only [Z4,hr,Bool.true_and,decide_eq_false_iff_not] at this
    omega
  · have:=h.out i hb
    rw [List.getElem?_eq_getElem hi] at this
    exact C1K h.g _ (List.mem_of_getElem? this.symm) hr
theorem A9y:∀ (l:List D8) (us us':List TUp) (m:Nat),G9 us l=some us'→∃ u,G9 us (l.take m)=some u
  | _,us,_,0,_=>⟨us,by simp [G9]⟩
  | [],us,us',m+1,h=>⟨us',by simpa using h⟩
  | r::l,us,us',m+1,h=>by
    simp only [G9] at h
    simp only [List.take_succ_cons,G9]
    split at h
    · rename_i u1 e1
      exact A9y l u1 us' m h
    · cases h
theorem C5M{l:List ByteArray}{b:Int}(hb:-1≤b)(h:∀ s∈l,(B7 s).2.1=true→(B7 s).1.1≤b):A1X l≤b:=by
  have h1:=A7z (b+1) l (-1)
  have h2:(l.all fun s=>!Z4 (b+1) s)=true:=List.all_eq_true.2 fun s hs=>by
    simp only [Z4,Bool.not_eq_true',Bool.and_eq_false_iff,decide_eq_false_iff_not]
    cases hr:(B7 s).2.1 with
    | false=>exact .inl rfl
    | true=>have:=h s hs hr;exact .inr (by omega)
  rw [h2,A0 (show (-1:Int)<b+1 by omega),Bool.and_true] at h1
  have:=of_decide_eq_true h1
  show l.foldl A0R (-1)≤b
  omega
def A42(x:List ByteArray)(us:List TUp):A5:=((x,x),(A1X x+1,((List.length (A9 x):Int),us)))
theorem B86{x:List ByteArray}{us:List TUp}(hd:A2L (x,x)=true)(hu:G9 [] (A9 x)=some us)(ht:A1X x+1≤10000):GoodS (A42 x us):=by
  have h0:=C1I x
  refine ⟨hd,⟨by show 0≤A1X x+1;omega,ht⟩,hu,rfl,?_,?_⟩
  · show T7 0 (A9 x)≤A1X x+1
    have hg:∀ (i:Nat) (hi:i<(A9 x).length),∃ s,x[i]? = some s∧B7 s=((A9 x)[i],true,()):=B5l 0 0 x
    by_cases hl:0<(A9 x).length
    · have e:=B3U (L:=A9 x) (e:=0) (j:=(A9 x).length) hl (Nat.le_refl _)
      rw [List.take_length] at e
      rw [e]
      obtain ⟨s,h1,h2⟩:=hg ((A9 x).length-1) (by omega)
      have h3:=C1J (List.mem_of_getElem? h1) (by rw [h2])
      rw [h2] at h3
      have h5:((A9 x)[(A9 x).length-1]'(by omega)).1≤A1X x:=h3
      have h6:@LE.le Int _ ((A9 x)[(A9 x).length-1]'(by omega)).1 (A1X x+1):=by omega
      exact h6
    · rw [List.length_eq_zero_iff.1 (show (A9 x).length=0 by omega)]
      show (0:Int)≤_
      omega
  · refine List.all_eq_true.2 fun s hs=>?_
    have hs2:s∈x:=List.mem_of_mem_drop hs
    simp only [Z4,Bool.not_eq_true',Bool.and_eq_false_iff,decide_eq_false_iff_not]
    cases hr:(B7 s).2.1 with
    | false=>exact .inl rfl
    | true=>
      have:=C1J hs2 hr
      refine .inr ?_
      show ¬ (B7 s).1.1≥A1X x+1
      omega
theorem B3V{st:A5}(h:GoodS st):Dur ((st.1.1,st.1.1),st.2) (A9 st.1.1).length:=
  ⟨⟨C2C h.dk,h.ep,h.up,h.nx,h.le,h.tl⟩,Nat.le_refl _,fun i _=>rfl,fun i s h1 h2 _=>by (have h3:i<(A9 st.1.1).length:=h2;omega),fun i h1 h2=>by (have h3:i<(A9 st.1.1).length:=h1;omega),(List.take_length).symm⟩
theorem B9l{x:List ByteArray}{us:List TUp}(h:GoodS (A42 x us)):Dur (A42 x us) (A9 x).length:=B3V h
theorem C2J{st:A5}{c:Nat}(h:Dur st c){r:D8}(hr:A79 r)(h1:r.1=st.2.1)(h2:r.2.1=st.2.2.1)(hlt:st.2.2.1<(st.1.1.length:Int)){us:List TUp}(hf:H4 st.2.2.2 r=some us):Dur (wrote st r us) c:=by
  obtain ⟨hg,hsc⟩:=A5t h.g hr h1 h2 hlt hf
  have hnx:=h.g.nx
  have hto:st.2.2.1.toNat=(A9 st.1.1).length:=by omega
  have hll:(A9 st.1.1).length<st.1.1.length:=by omega
  have hlen:((A9 st.1.1) ++ [r]).length=(A9 st.1.1).length+1:=by simp
  have hle:=h.le
  refine ⟨hg,by rw [hsc,hlen];omega,fun i hi=>?_,fun i s hc hi hs=>?_,fun i hi hc=>?_,?_⟩
  · rw [hsc,hlen] at hi
    show st.1.2[i]? = (st.1.1.set st.2.2.1.toNat (N1 r))[i]?
    rw [hto,List.getElem?_set_ne (by omega)]
    exact h.out i (by omega)
  · rw [hsc,hlen] at hi
    by_cases hi2:i<(A9 st.1.1).length
    · exact h.inn i s hc hi2 hs
    · have e:=h.out i (by omega)
      have hs':st.1.2[i]? = some s:=hs
      rw [e] at hs'
      have hm:s∈st.1.1.drop (A9 st.1.1).length:=by
        rw [List.mem_iff_getElem?]
        exact ⟨i-(A9 st.1.1).length,by rw [List.getElem?_drop,show (A9 st.1.1).length+(i-(A9 st.1.1).length)=i by omega];exact hs'⟩
      have:=List.all_eq_true.1 h.g.tl s hm
      have h7:Z4 st.2.1 s=false:=by simpa using this
      exact h7
  · have hi':=hi
    rw [hsc,hlen] at hi'
    have e:(A9 (wrote st r us).1.1)[i]=((A9 st.1.1) ++ [r])[i]'(by omega):=by simp only [hsc]
    rw [e]
    by_cases hi2:i<(A9 st.1.1).length
    · rw [List.getElem_append_left hi2]
      exact h.ep i hi2 hc
    · rw [List.getElem_append_right (by omega)]
      simp only [show i-(A9 st.1.1).length=0 by omega,List.getElem_cons_zero]
      exact h1
  · show A9 st.1.2=_
    rw [hsc,List.take_append_of_le_length hle]
    exact h.sc
theorem C2K{st:A5}{c:Nat}(h:Dur st c)(k:List Bool)(hep:st.2.1≤9999):∃ m us,c≤m∧m≤(A9 st.1.1).length∧A9 (R4 st.1.1 st.1.2 k)=(A9 st.1.1).take m∧G9 [] ((A9 st.1.1).take m)=some us∧
    A1X (R4 st.1.1 st.1.2 k)≤st.2.1∧A2L (B7z st.1 k)=true∧GoodS (A42 (R4 st.1.1 st.1.2 k) us):=by
  obtain ⟨_,k2,k3,k4,k5⟩:=A1l h.g.dk
  obtain ⟨m,h1,h2,h3⟩:=C4A h k
  obtain ⟨us,hu⟩:=A9y _ _ _ m h.g.up
  have hml:=A9w st.1.1 st.1.2 k
  have hdb:A2L (R4 st.1.1 st.1.2 k,R4 st.1.1 st.1.2 k)=true:=by
    have hall:∀ s∈R4 st.1.1 st.1.2 k,s.size≤64:=fun s hs=>(B6b k2 hs).elim (k4 s) (k5 s)
    exact B3T rfl (by simp only [hml];exact k3) hall hall
  have ht:A1X (R4 st.1.1 st.1.2 k)≤st.2.1:=C5M (by have:=h.g.ep.1;omega) fun s hs hr=>(B6b k2 hs).elim (fun hs=>C1K h.g s hs hr) (fun hs=>B85 h s hs hr)
  exact ⟨m,us,h1,h2,h3,hu,ht,hdb,B86 hdb (by rw [h3];exact hu) (by omega)⟩
inductive Steps (id:ByteArray) (st:A5):A5→Prop
  | refl:Steps id st st
  | step {st1:A5} {r:D8} {us:List TUp}:Steps id st st1→A79 r→r.1=st1.2.1→r.2.1=st1.2.2.1→st1.2.2.1<(st1.1.1.length:Int)→r.2.2.2.1=id→(r.2.2.1=1→r.2.2.2.2.1≤1000000)→H4 st1.2.2.2 r=some us→Steps id st (wrote st1 r us)
theorem B87{st:A5}{id:ByteArray}{n:Int}(h:Rt st):Steps id st (B7q st id n).1:=by
  unfold B7q
  split
  · rename_i h1
    split
    · exact Steps.refl
    · rename_i h2
      split
      · exact Steps.refl
      · rename_i h3
        have hr:=A98 h.g 1 n id h1.1 (fun hx=>h3 (.inl hx)) (.inl ⟨rfl,h1.2.1,by omega⟩)
        exact .step Steps.refl ⟨hr,A0o⟩ rfl rfl (by omega) rfl (fun _=>h1.2.2) (B5g h2 (fun hx=>h3 (.inr hx)))
  · exact Steps.refl
theorem B1R{st:A5}{id:ByteArray}{n:Int}(h:Rt st):Steps id st (A2M st id n).1:=by
  unfold A2M
  split
  · rename_i h1
    split
    · rename_i h2
      split
      · exact Steps.refl
      · rename_i h3
        split
        · exact Steps.refl
        · split
          · exact Steps.refl
          · rename_i h5
            split
            · exact Steps.refl
            · rename_i h6
              have hr:=A98 h.g 3 0 id h1 h6 (.inr ⟨.inl rfl,rfl⟩)
              exact .step Steps.refl ⟨hr,A0o⟩ rfl rfl (by omega) rfl (fun e=>by cases e) (B0k h.up h2 h3 h5)
    · exact Steps.refl
  · exact Steps.refl
theorem B88{st:A5}{id:ByteArray}(h:Rt st):Steps id st (B7r st id).1:=by
  unfold B7r
  split
  · rename_i h1
    split
    · rename_i h2
      split
      · exact Steps.refl
      · rename_i h3
        have hr:=A98 h.g 4 0 id h1 h3 (.inr ⟨.inr rfl,rfl⟩)
        exact .step Steps.refl ⟨hr,A0o⟩ rfl rfl (by omega) rfl (fun e=>by cases e) (B5h h2)
    · exact Steps.refl
  · exact Steps.refl
theorem B1S{st:A5}{id:ByteArray}{off:Int}{dat:List Int}(hc:B7o st id off dat):∀ j,j≤nPc dat→Steps id st (putAt st id off dat j)
  | 0,_=>Steps.refl
  | j+1,hj=>by
    have hI:=A9v hc j (by omega)
    obtain ⟨hr,hf,_⟩:=A9u hc hI (by omega)
    have h1:=hc.nx.2
    have h2:=hI.nx
    have h3:=hI.len
    exact .step (B1S hc j (by omega)) ⟨hr,A75 (A3J hc.byt _) _⟩ rfl rfl (by omega) rfl (fun e=>by cases e) hf
theorem B3W{st:A5}{id:ByteArray}{off:Int}{dat:List Int}(h:Rt st)(hb:Byt dat):Steps id st (A5r st id off dat).1:=by
  unfold A5r
  split
  · rename_i h1
    split
    · rename_i h3
      split
      · exact Steps.refl
      · rename_i h4
        split
        · exact Steps.refl
        · rename_i h5
          exact B1S (B2R h hb h1.1 h1.2 h3 h4 h5) _ (Nat.le_refl _)
    · exact Steps.refl
  · exact Steps.refl
theorem B5m{id:ByteArray}{st st':A5}(hs:Steps id st st'){c:Nat}(h:Dur st c):Dur st' c∧st'.2.1=st.2.1∧st'.1.2=st.1.2∧st'.1.1.length=st.1.1.length∧
    (∃ R,A9 st'.1.1=A9 st.1.1++R∧∀ r∈R,r.2.2.2.1=id)∧∀ s∈st'.1.1,s∈st.1.1∨∃ r,A79 r∧r.2.2.2.1=id∧s=N1 r:=by
  induction hs with
  | refl=>exact ⟨h,rfl,rfl,rfl,⟨[],by simp,fun r hr=>by cases hr⟩,fun s hs=>.inl hs⟩
  | @step st1 r us h1 hr e1 e2 hlt hid _ hf ih=>
    obtain ⟨k1,k2,k3,k4,⟨R,k5,k6⟩,k7⟩:=ih
    refine ⟨C2J k1 hr e1 e2 hlt hf,k2,k3,by simp only [wrote,List.length_set];exact k4,?_,?_⟩
    · refine ⟨R ++ [r],?_,fun r' hr'=>?_⟩
      · rw [(A5t k1.g hr e1 e2 hlt hf).2,k5,List.append_assoc]
      · rcases List.mem_append.1 hr' with hr' | hr'
        · exact k6 r' hr'
        · rw [List.mem_singleton.1 hr'];exact hid
    · intro s hs
      rcases List.mem_or_eq_of_mem_set hs with hs | rfl
      · exact k7 s hs
      · exact .inr ⟨_,hr,hid,rfl⟩
theorem A7E{st:A5}(h:GoodS st):Rt st∧A5p st∧D0 st=some (true,())∧K0 st=some (true,()):=by
  have hU:=A4m h
  have hS:=A1l h.dk
  obtain ⟨b,h1,h2,h3⟩:=B1P st hS.1.1 (fun u hu=>(hU.2.2 u hu).2.2.2)
  rw [h3.2 h] at h1 h2
  exact ⟨C5L h hU,B9i hS.1 hU,h1,h2⟩
theorem B6c{N:Int}{us us':List TUp}{r:D8}(h:H4 us r=some us')(hr:r.2.2.1=1→r.2.2.2.2.1≤N)(hus:∀ u∈us,(show Int from u.2.1)≤N):∀ u∈us',(show Int from u.2.1)≤N:=by
  intro u hu
  simp only [H4] at h
  have hset:∀ v:TUp,H1 us r.2.2.2.1=true→v.2.1=(rd kUp us (A7 us r.2.2.2.1:Int)).2.1→u∈us.set (A7 us r.2.2.2.1) v→(show Int from u.2.1)≤N:=fun v hh hv hu=>by
    rcases List.mem_or_eq_of_mem_set hu with hu | rfl
    · exact hus u hu
    · obtain ⟨hlt,_⟩:=F6.1 hh
      rw [E0 (k:=kUp) (xs:=us) hlt] at hv
      have:=hus _ (List.getElem_mem hlt)
      rw [← hv] at this
      exact this
  split at h
  · rename_i h1
    split at h
    · cases h
    · injection h with h;subst h
      rcases List.mem_append.1 hu with hu | hu
      · exact hus u (List.mem_of_mem_take hu)
      · rcases List.mem_cons.1 hu with rfl | hu
        · exact hr h1
        · exact hus u (List.mem_of_mem_drop hu)
  · split at h
    · cases h
    · rename_i hh
      have hh:H1 us r.2.2.2.1=true:=by simpa using hh
      split at h
      · split at h
        · cases h
        · injection h with h;subst h
          refine hset _ hh ?_ hu
          rfl
      · split at h
        · split at h
          · cases h
          · injection h with h;subst h
            refine hset _ hh ?_ hu
            rfl
        · split at h
          · injection h with h;subst h
            rcases List.mem_append.1 hu with hu | hu
            · exact hus u (List.mem_of_mem_take hu)
            · exact hus u (List.mem_of_mem_drop hu)
          · cases h
theorem A9z{N:Int}:∀ {l:List D8} {us us':List TUp},G9 us l=some us'→(∀ r∈l,r.2.2.1=1→r.2.2.2.2.1≤N)→(∀ u∈us,(show Int from u.2.1)≤N)→∀ u∈us',(show Int from u.2.1)≤N
  | [],us,us',h,_,hus=>by
    simp only [G9,Option.some.injEq] at h;subst h
    exact hus
  | r::l,us,us',h,hr,hus=>by
    simp only [G9] at h
    split at h
    · rename_i us1 e1
      exact A9z h (fun x hx=>hr x (List.mem_cons_of_mem _ hx)) (B6c e1 (hr r List.mem_cons_self) hus)
    · cases h
def B3X(st:A5):Prop:=∀ r∈A9 st.1.1,r.2.2.1=1→r.2.2.2.2.1≤1000000
theorem B9m{id:ByteArray}{st st':A5}(hs:Steps id st st'){c:Nat}(h:Dur st c)(hw:B3X st):B3X st':=by
  induction hs with
  | refl=>exact hw
  | @step st1 r us h1 hr e1 e2 hlt hid hn hf ih=>
    have hg:=(B5m h1 h).1.g
    unfold B3X
    rw [(A5t hg hr e1 e2 hlt hf).2]
    intro x hx h1
    rcases List.mem_append.1 hx with hx | hx
    · exact ih x hx h1
    · rw [List.mem_singleton] at hx;subst hx;exact hn h1
structure A3L (k:Nat) (st:A5):Prop where
  dur:∃ c,Dur st c
  ep:st.2.1≤(k:Int)
  ids:∀ s,s∈st.1.1∨s∈st.1.2→(B7 s).2.1=true→(B7 s).1.2.2.2.1∈ [(⟨#[97]⟩:ByteArray),(⟨#[98]⟩:ByteArray),(⟨#[99]⟩:ByteArray)]
  wn:B3X st
theorem A43{k:Nat}{st st':A5}{id:ByteArray}(h:A3L k st)(hs:Steps id st st')(hid:id∈ [(⟨#[97]⟩:ByteArray),(⟨#[98]⟩:ByteArray),(⟨#[99]⟩:ByteArray)]):A3L k st':=by
  obtain ⟨c,hd⟩:=h.dur
  obtain ⟨k1,k2,k3,_,_,k7⟩:=B5m hs hd
  refine ⟨⟨c,k1⟩,by rw [k2];exact h.ep,fun s hs hr=>?_,B9m hs hd h.wn⟩
  rw [k3] at hs
  rcases hs with hs | hs
  · rcases k7 s hs with hs | ⟨r,h1,h2,rfl⟩
    · exact h.ids s (.inl hs) hr
    · rw [A99 h1,h2];exact hid
  · exact h.ids s (.inr hs) hr
theorem C2L{x:List ByteArray}{us:List TUp}(h:GoodS (A42 x us)):J5 (x,x)=some (A42 x us,true,()):=by
  obtain ⟨hS,_,h200,_⟩:=A1l h.dk
  have hdk:A2L (x,x)=true:=h.dk
  have hl:x.length≤200:=h200
  have hll:=A2t 0 0 x
  have hfs:=A4I (A9 x) (by simp only [maxLen,A9];omega) (A9A 0 0 x)
  have hf:Z3 (A9 x)=(us,true,()):=by
    unfold Z3
    rw [show G9 [] (A9 x)=some us from h.up]
  have htop:=C1I x
  have hep:A1X x+1≤10000:=h.ep.2
  simp only [J5,Y6,A7B,hdk,B5j (x,x) hS.1,hfs,hf,B4m (x,x) hS.1,A4J (x,x) hS,bO,Bool.not_true,cond_false]
  rw [w64 (n:=A1X x+1) (by omega) (by omega),A4 (show ¬ A1X x+1>10000 by omega)]
  rfl
theorem B89{k:Nat}{st:A5}(h:A3L k st)(hk:k≤9999)(ke:List Bool):∃ us,Y0 st.1 ke=some (B7z st.1 ke,())∧J5 (B7z st.1 ke)=some (A42 (R4 st.1.1 st.1.2 ke) us,true,())∧A3L (k+1) (A42 (R4 st.1.1 st.1.2 ke) us):=by
  obtain ⟨c,hd⟩:=h.dur
  obtain ⟨_,k2,_⟩:=A1l hd.g.dk
  have hep:=h.ep
  obtain ⟨m,us,_,_,g3,_,h5,h6,h7⟩:=C2K hd ke (by omega)
  refine ⟨us,C2H st.1 ke hd.g.dk,C2L h7,⟨_,B9l h7⟩,?_,fun s hs hr=>?_,fun r hr h1=>by
    have hr':r∈A9 (R4 st.1.1 st.1.2 ke):=hr
    rw [g3] at hr'
    exact h.wn r (List.mem_of_mem_take hr') h1⟩
  · show A1X (R4 st.1.1 st.1.2 ke)+1≤((k+1:Nat):Int)
    omega
  · have hs2:s∈R4 st.1.1 st.1.2 ke:=hs.elim id id
    exact h.ids s (B6b k2 hs2) hr
theorem B9n{k:Nat}{st:A5}(h:A3L k st):A3L k ((st.1.1,st.1.1),st.2):=by
  obtain ⟨c,hd⟩:=h.dur
  exact ⟨⟨_,B3V hd.g⟩,h.ep,fun s hs hr=>h.ids s (.inl (hs.elim id id)) hr,h.wn⟩
theorem A0I{k k':Nat}{st:A5}(h:A3L k st)(hk:k≤k'):A3L k' st:=⟨h.dur,by have:=h.ep;omega,h.ids,h.wn⟩
theorem B9o(k:Nat)(hk:k≤9999)(c:C0)(st:A5)(hc:Cur c)(h:A3L k st):∃ y c',D5 c st=some (y,c',())∧A3L (k+1) y∧Cur c':=by
  obtain ⟨cc,hdur⟩:=h.dur
  obtain ⟨hR,hS,hok,_⟩:=A7E hdur.g
  have hk1:k≤k+1:=Nat.le_succ k
  obtain ⟨s,c1,q1,h1,hs⟩:=B7g c [(⟨#[97]⟩:ByteArray),(⟨#[98]⟩:ByteArray),(⟨#[99]⟩:ByteArray)] hc (by simp)
  have hsz:s.size≤maxLen:=by
    simp only [List.mem_cons,List.not_mem_nil,or_false] at hs
    rcases hs with rfl | rfl | rfl<;>decide
  obtain ⟨k,c2,q2,h2,k0,k1⟩:=A0H c1 12 h1 (by omega)
  simp only [D5,M6,q1,q2,bO]
  obtain ⟨b0,m0⟩:∃ b,(bif decide (k=0) then (some (decide (k=0),()):Option (Bool×Unit)) else some (decide (k=1),()))=some (b,()):=by
    cases decide (k=0)<;>exact ⟨_,rfl⟩
  rw [m0]
  simp only [bO]
  cases b0 with
  | true=>
    obtain ⟨n,c3,q3,h3,_⟩:=A4l c2 [0,3,30,60] h2 (by simp)
    have q4:=B7s st s n hsz hR hS hok
    simp only [cond_true,q3,q4,bO]
    exact ⟨_,_,rfl,A0I (A43 h (B87 hR) hs) hk1,h3⟩
  | false=>
    simp only [cond_false]
    obtain ⟨b1,m1⟩:∃ b,(bif decide (k=2) then (some (decide (k=2),()):Option (Bool×Unit)) else bif decide (k=3) then some (decide (k=3),()) else bif decide (k=4) then some (decide (k=4),()) else some (decide (k=5),()))=some (b,()):=by
      cases decide (k=2)<;>cases decide (k=3)<;>cases decide (k=4)<;>exact ⟨_,rfl⟩
    rw [m1]
    simp only [bO]
    obtain ⟨u,bu,qu,u1,u2,u3⟩:=C45 st s hR.up
    cases b1 with
    | true=>
      obtain ⟨n,c3,q3,h3,hn⟩:=A4l c2 [1,3,24,30] h2 (by simp)
      have hn2:0≤n∧n≤30:=by
        simp only [List.mem_cons,List.not_mem_nil,or_false] at hn
        omega
      simp only [cond_true,qu,q3,bO]
      rw [w64 (n:=u.2.1-(List.length u.2.2.1:Int)) (by omega) (by omega)]
      obtain ⟨n',c4,m2,hn',h4⟩:∃ (n':Int) (c4:C0),(bif bu then bif decide (n>u.2.1-(List.length u.2.2.1:Int)) then A3 (N6 c3 5) fun (c68:Bool×C0×Unit)=>bif (!c68.1) then some (u.2.1-(List.length u.2.2.1:Int),c68.2.1.1,c68.2.1.2.1,c68.2.1.2.2,()) else some (n,c68.2.1.1,c68.2.1.2.1,c68.2.1.2.2,()) else some (n,c3.1,c3.2.1,c3.2.2,()) else some (n,c3.1,c3.2.1,c3.2.2,()))=some (n',c4.1,c4.2.1,c4.2.2,())∧(0≤n'∧n'≤30)∧Cur c4:=by
        cases bu with
        | false=>exact ⟨_,c3,rfl,hn2,h3⟩
        | true=>
          by_cases hg:n>u.2.1-(List.length u.2.2.1:Int)
          · obtain ⟨b,c5,q5,h5⟩:=A81 c3 5 h3 (by omega)
            rw [A0 hg,q5]
            cases b with
            | false=>exact ⟨_,c5,rfl,by omega,h5⟩
            | true=>exact ⟨_,c5,rfl,hn2,h5⟩
          · rw [A4 hg]
            exact ⟨_,c3,rfl,hn2,h3⟩
      rw [m2]
      simp only [bO]
      obtain ⟨dat,c6,q6,h6,hl6,hb6⟩:=B3L c4 n' h4 (by omega)
      have q7:=B3S st s (List.length u.2.2.1:Int) dat hsz hR hS hok hb6 (by omega) (by omega)
      have q6':I6 (c4.1,(c4.2.1,c4.2.2)) n' = _:=q6
      rw [q6']
      simp only [bO,q7]
      exact ⟨_,_,rfl,A0I (A43 h (B3W hR hb6) hs) hk1,h6⟩
    | false=>
      simp only [cond_false]
      cases decide (k=6) with
      | true=>
        have q7:=B7u st s (((A1y u.2.2.1 ^^^ 4294967295:Nat):Int)) hsz hR hS hok
        simp only [cond_true,qu,bO]
        rw [B3I _ u3 (by simp only [maxLen];omega)]
        simp only [bO,q7]
        exact ⟨_,_,rfl,A0I (A43 h (B1R hR) hs) hk1,h2⟩
      | false=>
        simp only [cond_false]
        cases decide (k=7) with
        | true=>
          obtain ⟨b,c5,q5,h5⟩:=A81 c2 3 h2 (by omega)
          have q7:=B7v st s hsz hR hS hok
          simp only [cond_true,q5,bO]
          cases b with
          | true=>
            simp only [cond_true,q7,bO]
            exact ⟨_,_,rfl,A0I (A43 h (B88 hR) hs) hk1,h5⟩
          | false=>exact ⟨_,_,rfl,A0I h hk1,h5⟩
        | false=>
          simp only [cond_false]
          obtain ⟨b3,m3⟩:∃ b,(bif decide (k=8) then (some (decide (k=8),()):Option (Bool×Unit)) else some (decide (k=9),()))=some (b,()):=by
            cases decide (k=8)<;>exact ⟨_,rfl⟩
          rw [m3]
          simp only [bO]
          cases b3 with
          | true=>
            simp only [cond_true,A1i,A4F,R3 st hS,hok,B9c st.1 hS.1,bO]
            exact ⟨_,_,rfl,A0I (B9n h) hk1,h2⟩
          | false=>
            obtain ⟨ke,c7,q9,h7⟩:=B9f c2 h2
            obtain ⟨us,f1,f2,f3⟩:=B89 h hk ke
            simp only [cond_false,q9,f1,f2,bO]
            exact ⟨_,_,rfl,f3,h7⟩
theorem B9p(last:Int)(i:Nat)(l:List ByteArray)(h:∀ s∈l,(B7 s).2.1=false):E8 last i l = []:=A9B _ _ _ fun s hs=>by
  simp only [X0,h s (List.mem_of_mem_head? hs),Bool.false_and]
theorem B00:(B7 ⟨#[]⟩).2.1=false:=by
  unfold B7 A3x
  have h0:(⟨#[]⟩:ByteArray).size=0:=rfl
  rw [h0,A4 (by omega)]
  rfl
theorem B4p(n:Int)(hn:n≤200):A3L 0 (F4 n,(0,(0,[]))):=by
  have hall:∀ s,s∈(F4 n).1∨s∈(F4 n).2→s=⟨#[]⟩:=by
    intro s hs
    unfold F4 at hs
    split at hs
    · rcases hs with hs | hs<;>exact (List.mem_replicate.1 hs).2
    · rcases hs with hs | hs<;>cases hs
  have hg:∀ s∈(F4 n).1,(B7 s).2.1=false:=fun s hs=>by rw [hall s (.inl hs)];exact B00
  have hsc:A9 (F4 n).1 = []:=B9p _ _ _ hg
  have hsz:∀ s,s∈(F4 n).1∨s∈(F4 n).2→s.size≤64:=fun s hs=>by rw [hall s hs];show 0≤64;omega
  have hlen:(F4 n).1.length=(F4 n).2.length∧(F4 n).1.length≤200:=by
    unfold F4
    split<;>simp<;>omega
  have heq:(F4 n).2=(F4 n).1:=by
    unfold F4
    split<;>rfl
  have hG:GoodS (F4 n,(0,(0,[]))):=by
    refine ⟨B3T hlen.1 hlen.2 (fun s hs=>hsz s (.inl hs)) (fun s hs=>hsz s (.inr hs)),by simp,?_,?_,?_,?_⟩
    · show G9 [] (A9 (F4 n).1)=_;rw [hsc];rfl
    · show (0:Int)=((A9 (F4 n).1).length:Int);rw [hsc];rfl
    · show T7 0 (A9 (F4 n).1)≤0;rw [hsc];exact Int.le_refl _
    · refine List.all_eq_true.2 fun s hs=>?_
      have:=hg s (List.mem_of_mem_drop hs)
      simp only [Z4,this,Bool.false_and,Bool.not_false]
  refine ⟨⟨0,hG,Nat.zero_le _,fun i _=>by rw [show ((F4 n,((0:Int),((0:Int),([]:List TUp)))):A5).1.2=(F4 n).1 from heq],fun i s _ h2 _=>?_,fun i h1 _=>?_,?_⟩,by simp,fun s hs hr=>?_,fun r hr=>by (have hr':r∈A9 (F4 n).1:=hr;rw [hsc] at hr';cases hr')⟩
  · have h2':i<(A9 (F4 n).1).length:=h2
    rw [hsc] at h2';simp at h2'
  · have h1':i<(A9 (F4 n).1).length:=h1
    rw [hsc] at h1';simp at h1'
  · show A9 (F4 n).2=(A9 (F4 n).1).take 0
    rw [heq,hsc];rfl
  · rw [hall s hs,B00] at hr;cases hr
theorem B9q(c:C0)(n:Int)(hc:Cur c)(hn:0<n∧n≤1000):∃ y c',J2 c n=some (y,c',())∧A3L 1000 y∧Cur c':=by
  obtain ⟨m,c1,q1,h1,hm⟩:=A4l c [30,30,8,0] hc (by simp)
  have hm2:m≤200:=by
    simp only [List.mem_cons,List.not_mem_nil,or_false] at hm
    omega
  obtain ⟨k,c2,q2,h2,k0,k1⟩:=A0H c1 n h1 (by omega)
  simp only [J2,S9,A2g,A5e,B6Z,q1,q2,bO]
  obtain ⟨z,e,hz⟩:=A0Q (P5 D5) (fun l=>l.1.toNat)
    (fun l=>∃ j:Nat,l.1≤1000-(j:Int)∧j≤1000∧A3L j ((l.2.2.2.2.2.2.1,l.2.2.2.2.2.2.2.1),(l.2.1,(l.2.2.1,l.2.2.2.2.2.2.2.2.1)))∧Cur (l.2.2.2.1,(l.2.2.2.2.1,l.2.2.2.2.2.1))) (fun z=>A3L 1000 z.1∧Cur z.2.1) (fun l hl=>by
      obtain ⟨j,g0,gj,g1,g2⟩:=hl
      simp only [P5]
      by_cases hi:l.1>0
      · obtain ⟨y,c',e,hy,hc'⟩:=B9o j (by omega) _ _ g2 g1
        rw [A0 hi,e]
        simp only [cond_true,bO]
        rw [w64 (by omega) (by omega)]
        exact .inl ⟨_,rfl,⟨j+1,by simp only;omega,by omega,hy,hc'⟩,by simp only;omega⟩
      · rw [A4 hi]
        exact .inr ⟨_,rfl,A0I g1 gj,g2⟩) (k,0,0,c2.1,c2.2.1,c2.2.2,(F4 m).1,(F4 m).2,[],()) ⟨0,by simp only;omega,by omega,B4p m hm2,h2⟩
  exact ⟨z.1,z.2.1,e,hz⟩
theorem C2M{st:A5}{id:ByteArray}{n:Int}{d:List Int}(h:¬ (A5r st id n d).2=0):(A5r st id n d).1=st:=by
  unfold A5r at h ⊢
  split
  · rename_i h1
    rw [if_pos h1] at h
    split
    · rename_i h2
      rw [if_pos h2] at h
      split
      · rfl
      · rename_i h3
        rw [if_neg h3] at h
        split
        · rfl
        · rename_i h4
          rw [if_neg h4] at h
          exact absurd rfl h
    · rfl
  · rfl
theorem B9r(st:A5)(id:ByteArray):(∃ u∈st.2.2.2,u.1=id∧B4j st id=(u,true,()))∨B4j st id=C6A:=by
  unfold B4j
  split
  · rename_i hlt
    have hf:=A2l (fun j=>!((rd kUp st.2.2.2 (j:Int)).1.toList == id.toList)) st.2.2.2.length 0 (by unfold B1s at hlt;omega)
    have hf2:(!((rd kUp st.2.2.2 (B1s st.2.2.2 id:Int)).1.toList == id.toList))=false:=hf
    rw [E0 (k:=kUp) (xs:=st.2.2.2) hlt] at hf2 ⊢
    simp only [Bool.not_eq_false',beq_iff_eq] at hf2
    exact .inl ⟨_,List.getElem_mem hlt,B6Y hf2,rfl⟩
  · exact .inr rfl
theorem B3Y{id:ByteArray}{st st':A5}(hs:Steps id st st')(h:GoodS st):GoodS st':=by
  induction hs with
  | refl=>exact h
  | step h1 hr e1 e2 hlt hid _ hf ih=>exact (A5t ih hr e1 e2 hlt hf).1
structure B8A (st:A5):Prop where
  sd:A68 st.1
  n:st.2.2.2.length≤20
  up:∀ u∈st.2.2.2,u.1.size≤64∧Byt u.2.2.1∧List.length u.2.2.1≤1000000∧(@LE.le Int _ (List.length u.2.2.1:Int) u.2.1∧@LE.le Int _ u.2.1 1000000)
theorem C5N{st:A5}(h:GoodS st)(hw:B3X st):B8A st:=by
  have hU:=A4m h
  have hS:=A1l h.dk
  have hwant:=A9z (N:=1000000) h.up hw (fun u hu=>by cases hu)
  refine ⟨hS.1,by have:=hU.2.1;omega,fun u hu=>?_⟩
  have hg:=hU.2.2 u hu
  have h1:=hg.1
  have h2:@LE.le Int _ u.2.1 1000000:=hwant u hu
  have h3:=hg.2.2.1
  exact ⟨by omega,hg.2.2.2,by omega,h1,h2⟩
theorem C2N{k:Nat}{st:A5}(h:A3L k st):B8A st:=by
  obtain ⟨c,hd⟩:=h.dur
  exact C5N hd.g h.wn
theorem C6F{st:A5}(h:B8A st):A5p st:=⟨h.sd,by have:=h.n;omega,fun u hu=>by have:=(h.up u hu).2.2.1;omega⟩
theorem C2O(c:C0)(n:Int)(hc:Cur c)(hn:0<n∧n≤1000):∃ y c',K7 c n=some (y,c',())∧B8A y∧Cur c':=by
  obtain ⟨st,c1,q1,h1,hc1⟩:=B9q c n hc hn
  have ha:=C2N h1
  obtain ⟨k,c2,q2,hc2,k0,k1⟩:=A0H c1 12 hc1 (by omega)
  have hl:=ha.n
  simp only [K7,V0,q1,q2,bO]
  cases decide (k=0) with
  | true=>
    obtain ⟨m,c3,q3,hc3,_⟩:=A4l c2 [(-1),10000,10001,0] hc2 (by simp)
    simp only [cond_true,q3,bO]
    exact ⟨_,_,rfl,⟨ha.sd,ha.n,ha.up⟩,hc3⟩
  | false=>
  simp only [cond_false]
  cases decide (k=1) with
  | true=>exact ⟨_,_,rfl,⟨ha.sd,ha.n,ha.up⟩,hc2⟩
  | false=>
  simp only [cond_false]
  cases decide (k=2) with
  | true=>
    obtain ⟨cd,hdr⟩:=h1.dur
    have hl10:=(A4m hdr.g).2.1
    simp only [cond_true]
    rw [A0 (by simp;omega),A0 (by simp;omega)]
    refine ⟨_,_,rfl,⟨ha.sd,by simp only [List.length_append,List.length_cons,List.length_nil];omega,fun u hu=>?_⟩,hc2⟩
    rcases List.mem_append.1 hu with hu | hu
    · exact ha.up u hu
    · rw [List.mem_singleton.1 hu]
      exact ⟨by decide,A0o,Nat.zero_le _,by decide,by decide⟩
  | false=>
  simp only [cond_false]
  cases decide (k=3) with
  | true=>
    simp only [cond_true]
    by_cases hz:(st.1.1.length:Int)>0
    · rw [A0 hz]
      exact ⟨_,_,rfl,⟨⟨B7m ha.sd.1 0 (by decide),ha.sd.2⟩,ha.n,ha.up⟩,hc2⟩
    · rw [A4 hz]
      exact ⟨_,_,rfl,ha,hc2⟩
  | false=>exact ⟨_,_,rfl,ha,hc2⟩
theorem C5O{st:A5}(h:B8A st):∃ b,D0 st=some (b,())∧K0 st=some (b,())∧(b=true→GoodS st):=by
  obtain ⟨b,h1,h2,h3⟩:=B1P st h.sd.1 (fun u hu=>(h.up u hu).2.1)
  exact ⟨b,h1,h2,h3.1⟩
theorem C5P{st:A5}(h:B8A st)(id:ByteArray)(off:Int)(dat:List Int)(hid:id.size≤maxLen)(hb:Byt dat)(hd:dat.length≤1048576)(ho:-9223372036854775808≤off∧off≤9223372036854775807) :
    ∃ y c,H7 st id off dat=some (y,c,())∧A2p st id off dat=some (y,c,())∧(y=st∧¬ c=0∨GoodS st∧(y,c)=A5r st id off dat):=by
  have hS:=C6F h
  obtain ⟨b,h1,h2,h3⟩:=C5O h
  cases b with
  | false=>
    refine ⟨st,1,?_,?_,.inl ⟨rfl,by omega⟩⟩
    · simp only [H7,A05,R3 st hS,h1,bO];rfl
    · simp only [A2p,A7x,A3K st hS,h2,bO];rfl
  | true=>
    have hG:=h3 rfl
    obtain ⟨hR,hS2,o1,o2⟩:=A7E hG
    refine ⟨(A5r st id off dat).1,(A5r st id off dat).2,B3S st id off dat hid hR hS o1 hb hd ho,?_,.inr ⟨hG,rfl⟩⟩
    simp only [A2p,A7x,A3K st hS,o2,bO,B9h st id off dat hid hR hb hd ho]
    rfl
theorem C4B{st:A5}(hG:GoodS st)(id:ByteArray)(sum:Int)(hid:id.size≤maxLen):A3H st id sum=some ((A2M st id sum).1,(A2M st id sum).2,()):=by
  obtain ⟨hR,hS,o1,o2⟩:=A7E hG
  simp only [A3H,A92,A3K st hS,o2,bO,B7t st id sum hid hR]
  rfl
theorem B8B(us:List TUp)(hn:us.length≤20)(h:∀ u∈us,List.length u.2.2.1≤2000000000):A0O us us=some (true,()):=by
  simp only [A0O,A6t,decide_true,Bool.not_true,cond_false]
  have e:=B5T (A1c L4 us us) us.length (by simp only [maxLen];omega) (fun _=>true) (fun i hi=>by
    have g1:((i:Int)<(us.length:Int)):=by omega
    have g2:(0:Int)≤(i:Int):=by omega
    have hdl:=h _ (List.getElem_mem hi)
    have hb:=A7C us[i].2.2.1 (by simp only [maxLen];omega)
    simp only [A1c,A0 g1,A0 g2,cond_true,E0 (k:=kUp) (xs:=us) hi,beq_self_eq_true,decide_true,Bool.not_true,cond_false]
    rw [hb]
    rfl) (by simp [A1c])
  rw [e]
  simp
theorem B6d{st:A5}(h:B8A st):A0O st.2.2.2 st.2.2.2=some (true,()):=
  B8B _ h.n fun u hu=>by have:=(h.up u hu).2.2.1;omega
theorem B9s(st:A5)(id:ByteArray)(hl:st.2.2.2.length≤1048576)(hd:∀ u∈st.2.2.2,List.length u.2.2.1≤2000000000):A1s st id=some (B4j st id):=by
  simp only [A1s,B38]
  have e:=A1x (A36 M2 st id) (fun i=>((i:Int),())) st.2.2.2.length (fun i=>if i<st.2.2.2.length then .inr (rd kUp st.2.2.2 (i:Int),true,()) else .inl ()) (fun i=>!((rd kUp st.2.2.2 (i:Int)).1.toList == id.toList)) (fun i hi=>?_) ?_
  · have e':C3 (A36 M2 st id) (0,())=_:=e
    rw [e']
    simp only [B4j]
    by_cases hi:B1s st.2.2.2 id<st.2.2.2.length
    · rw [if_pos hi]
      have hi':K3 (fun i=>!((rd kUp st.2.2.2 (i:Int)).1.toList == id.toList)) 0 st.2.2.2.length<st.2.2.2.length:=hi
      rw [if_pos hi']
      rfl
    · rw [if_neg hi]
      have hi':¬ K3 (fun i=>!((rd kUp st.2.2.2 (i:Int)).1.toList == id.toList)) 0 st.2.2.2.length<st.2.2.2.length:=hi
      rw [if_neg hi']
      rfl
  · have h1:((i:Int)<(st.2.2.2.length:Int)):=by omega
    have h2:(0:Int)≤(i:Int):=by omega
    have hc:M2 (rd kUp st.2.2.2 (i:Int))=some (rd kUp st.2.2.2 (i:Int),()):=by
      have:=hd _ (List.getElem_mem hi)
      rw [← E0 (k:=kUp) hi] at this
      simp only [M2,A5V,A4H _ (show List.length (rd kUp st.2.2.2 (i:Int)).2.2.1≤140737488355328 by omega),A3]
    simp only [A36,A0 h1,A0 h2,cond_true,if_pos hi]
    rw [w64 (by omega) (by omega),hc]
    cases ((rd kUp st.2.2.2 (i:Int)).1.toList == id.toList)<;>simp [A3]
  · simp [A36]
theorem B3Z{st:A5}(hU:Ups st.2.2.2)(id:ByteArray):A1s st id=some (B4j st id):=by
  have:=hU.2.1
  exact B9s st id (by omega) (A7y hU)
theorem B3a{st:A5}{id:ByteArray}(hU:Ups st.2.2.2)(h:H1 st.2.2.2 id=true):B4j st id=(rd kUp st.2.2.2 (A7 st.2.2.2 id:Int),true,()):=by
  obtain ⟨hlt,_⟩:=F6.1 h
  unfold B4j
  rw [A9r hU.1 h,if_pos hlt]
theorem size_le(a:List Int)(h:a.length≤1048576)(m:Int)(hm:3≤m∧m≤1000):∃ s,A3F a m=some (s,())∧3≤s∧s≤m:=by
  have ht:(a.length:Int).tdiv 12=(a.length:Int) / 12:=Int.tdiv_eq_ediv_of_nonneg (by omega)
  simp only [A3F,A91,ht]
  rw [w64 (n:=(a.length:Int) / 12) (by omega) (by omega),w64 (by omega) (by omega)]
  by_cases h1:3+(a.length:Int) / 12>m
  · rw [A0 h1];exact ⟨_,rfl,by omega⟩
  · rw [A4 h1];exact ⟨_,rfl,by omega⟩
theorem C4C(c:C0)(hc:Cur c):∃ id c',A4j c=some (id,c',())∧Cur c'∧id.size≤maxLen:=by
  obtain ⟨s,c2,q2,h2,hs⟩:=B7g c [(⟨#[97]⟩:ByteArray),(⟨#[98]⟩:ByteArray),(⟨#[99]⟩:ByteArray),(⟨#[97]⟩:ByteArray),(⟨#[98]⟩:ByteArray),(⟨#[110,101,119]⟩:ByteArray),(⟨#[]⟩:ByteArray),(⟨#[65]⟩:ByteArray)] hc (by simp)
  simp only [A4j,B0d,q2,bO]
  refine ⟨_,_,rfl,h2,?_⟩
  simp only [List.mem_cons,List.not_mem_nil,or_false] at hs
  rcases hs with rfl | rfl | rfl | rfl | rfl | rfl | rfl | rfl<;>decide
theorem B9t(a:List Int)(h:a.length≤1048576):∃ st id off dat,M8 a=some (st,id,off,dat,())∧B8A st∧id.size≤maxLen∧(-1≤off∧off≤1000001)∧Byt dat∧dat.length≤1048576:=by
  obtain ⟨c,q,hc⟩:=C41 a h
  obtain ⟨s,qs,hs⟩:=size_le a h 20 (by omega)
  obtain ⟨st,c1,q1,hst,hc1⟩:=C2O c s hc (by omega)
  obtain ⟨id,c2,q2,hc2,hid⟩:=C4C c1 hc1
  have hnl:=hst.n
  have hsm:Sm 1048576 (.sl 0 kUp) st.2.2.2:=⟨by show List.length st.2.2.2≤_;omega,fun u hu=>by
    obtain ⟨g1,_,g3,_⟩:=hst.up u hu
    exact ⟨by show u.1.size≤_;omega,trivial,⟨by show List.length u.2.2.1≤_;omega,fun _ _=>trivial⟩,trivial⟩⟩
  have qu:=C25 st id hsm
  obtain ⟨u,bu,qu',u1,u2,u3⟩:∃ u b,Z1 st id=some (u,b,())∧(List.length u.2.2.1:Int)≤u.2.1∧u.2.1≤1000000∧Byt u.2.2.1:=by
    rcases B9r st id with ⟨u,hu,_,e⟩ | e
    · obtain ⟨_,g2,_,g4,g5⟩:=hst.up u hu
      exact ⟨u,true,by rw [qu,e],g4,g5,g2⟩
    · refine ⟨C6A.1,false,by rw [qu,e];rfl,?_,?_,A0o⟩
      · show ((0:Nat):Int)≤0
        omega
      · show (0:Int)≤1000000
        omega
  obtain ⟨n,c3,q3,hc3,hn⟩:=A4l c2 [1,3,25,0,401] hc2 (by simp)
  have hn2:0≤n∧n≤401:=by
    simp only [List.mem_cons,List.not_mem_nil,or_false] at hn
    omega
  obtain ⟨b,c4,q4,hc4⟩:=A81 c3 2 hc3 (by omega)
  simp only [M8,Y7,q,qs,q1,q2,qu',q3,q4,bO]
  have mid:∃ m:Int,(bif b then bif decide (u.2.1>(List.length u.2.2.1:Int)) then some ((IntKind.i64.wrap (u.2.1-(List.length u.2.2.1:Int)),c4.1,c4.2.1,c4.2.2,()):Int×List Int×Int×Int×Unit) else some (n,c4.1,c4.2.1,c4.2.2,()) else some (n,c4.1,c4.2.1,c4.2.2,()))=some (m,c4.1,c4.2.1,c4.2.2,())∧0≤m∧m≤1048576:=by
    cases b with
    | false=>exact ⟨n,rfl,by omega,by omega⟩
    | true=>
      by_cases hg:u.2.1>(List.length u.2.2.1:Int)
      · rw [A0 hg,w64 (by omega) (by omega)]
        exact ⟨_,rfl,by omega,by omega⟩
      · rw [A4 hg]
        exact ⟨n,rfl,by omega,by omega⟩
  obtain ⟨m,qm,m0,m1⟩:=mid
  rw [qm]
  have hw:IntKind.i64.wrap ((List.length u.2.2.1:Int)+1)=(List.length u.2.2.1:Int)+1:=w64 (by omega) (by omega)
  obtain ⟨o,c5,q5,hc5,ho⟩:=A4l c4 [(List.length u.2.2.1:Int),(List.length u.2.2.1:Int),(List.length u.2.2.1:Int),0,(List.length u.2.2.1:Int)+1,(-1)] hc4 (by simp)
  have ho2:-1≤o∧o≤1000001:=by
    simp only [List.mem_cons,List.not_mem_nil,or_false] at ho
    omega
  have q5':O5 (c4.1,(c4.2.1,c4.2.2)) [(List.length u.2.2.1:Int),(List.length u.2.2.1:Int),(List.length u.2.2.1:Int),0,(List.length u.2.2.1:Int)+1,(-1)]=_:=q5
  obtain ⟨dat,c6,q6,h6,hl6,hb6⟩:=B3L c5 m hc5 ⟨m0,m1⟩
  simp only [bO,hw,q5',q6]
  exact ⟨st,id,o,dat,rfl,hst,hid,ho2,hb6,by omega⟩
theorem B01{st:A5}{id:ByteArray}{off:Int}{dat:List Int}:∀ j,(putAt st id off dat j).2.2.2.length=st.2.2.2.length
  | 0=>rfl
  | j+1=>by
    show (B5f _ _ _).length=_
    unfold B5f
    rw [List.length_set]
    exact B01 j
theorem exactKept(a:List Int):A94 a=some (true,()):=by
  simp only [A94,A93,B2N,B6L,bO]
  by_cases ha:(a.length:Int)>1048576
  · rw [A0 ha];rfl
  rw [A4 ha]
  obtain ⟨st,id,off,dat,q,hst,hid,ho,hb,hd⟩:=B9t a (by omega)
  obtain ⟨y,c,es,ei,hy⟩:=C5P hst id off dat hid hb hd (by omega)
  have hself:=B6d hst
  simp only [cond_false,q,es,ei,bO]
  rw [A0 trivial]
  by_cases hc0:c=0
  · rcases hy with ⟨_,hc⟩ | ⟨hG,hy⟩
    · exact absurd hc0 hc
    have hn0:=hc0
    have hR:=(A7E hG).1
    have hU:=A4m hG
    have hGy:=B3Y (B3W (id:=id) (off:=off) hR hb) hG
    have e1:y=(A5r st id off dat).1:=congrArg Prod.fst hy
    have e2:c=(A5r st id off dat).2:=congrArg Prod.snd hy
    rw [← e1] at hGy
    have key:B7o st id off dat∧y=putAt st id off dat (nPc dat):=by
      rw [e1]
      rw [e2] at hc0
      revert hc0
      unfold A5r
      split
      · rename_i h1
        split
        · rename_i h3
          split
          · intro h;cases h
          · rename_i h4
            split
            · intro h;cases h
            · rename_i h5
              exact fun _=>⟨B2R hR hb h1.1 h1.2 h3 h4 h5,rfl⟩
        · intro h;cases h
      · intro h;cases h
    obtain ⟨hC,hya⟩:=key
    have hI:=A9v hC (nPc dat) (Nat.le_refl _)
    rw [← hya] at hI
    have hlen:y.2.2.2.length=st.2.2.2.length:=by rw [hya];exact B01 _
    have hall:dat.take (nPc dat*24)=dat:=List.take_of_length_le (by unfold nPc;omega)
    have hval:=hI.val
    rw [hall] at hval
    have hUy:=A4m hGy
    have hua:A1s st id=some (rd kUp st.2.2.2 (A7 st.2.2.2 id:Int),true,()):=by rw [B3Z hU,B3a hU hC.has]
    have hub:A1s y id=some (rd kUp y.2.2.2 (A7 y.2.2.2 id:Int),true,()):=by rw [B3Z hUy,B3a hUy hI.has]
    obtain ⟨hlt,_⟩:=F6.1 hI.has
    have hgu:=hUy.2.2 _ (List.getElem_mem hlt)
    rw [← E0 (k:=kUp) (xs:=y.2.2.2) hlt] at hgu
    obtain ⟨g1,g2,g3,g4⟩:=hgu
    obtain ⟨hlt0,_⟩:=F6.1 hC.has
    have hgu0:=hU.2.2 _ (List.getElem_mem hlt0)
    rw [← E0 (k:=kUp) (xs:=st.2.2.2) hlt0] at hgu0
    obtain ⟨k1,k2,k3,k4⟩:=hgu0
    have hdt:(rd kUp y.2.2.2 (A7 y.2.2.2 id:Int)).2.2.1=([]++(rd kUp st.2.2.2 (A7 st.2.2.2 id:Int)).2.2.1)++dat:=by rw [hval];rfl
    have hnd:(rd kUp y.2.2.2 (A7 y.2.2.2 id:Int)).2.2.2=false:=by rw [hval]
    obtain ⟨hRy,hSy,o1,o2⟩:=A7E hGy
    generalize hv:rd kUp y.2.2.2 (A7 y.2.2.2 id:Int)=v at hub g1 g2 g3 g4 hdt hnd hval
    generalize hu0:rd kUp st.2.2.2 (A7 st.2.2.2 id:Int)=u at hua k1 k2 k3 k4 hdt hval
    have hvl:List.length v.2.2.1≤maxLen:=by simp only [maxLen];omega
    have hcrc:=B3J v.2.2.1 g4 hvl
    have hdn:=C4B hGy id ((A1y v.2.2.1 ^^^ 4294967295:Nat):Int) hid
    have hsb:=A7C v.2.2.1 hvl
    have hsb':L4 v.2.2.1 (([]++u.2.2.1)++dat)=some (true,()):=by rw [← hdt];exact hsb
    rw [A0 hn0]
    simp only [hua,hub,o2,hcrc,hdn,bO,C1,Bool.not_true,cond_false]
    have l1:([]:List Int).length=0:=rfl
    rw [A0 (show ([]:List Int).length+List.length u.2.2.1≤9223372036854775807 by rw [l1];omega),A0 (show (([]:List Int).length+List.length u.2.2.1)*1≤140737488355328 by rw [l1];omega),
      A0 (show (([]:List Int)++u.2.2.1).length+dat.length≤9223372036854775807 by rw [List.nil_append];omega),A0 (show ((([]:List Int)++u.2.2.1).length+dat.length)*1≤140737488355328 by rw [List.nil_append];omega)]
    simp only [cond_true,hsb',bO,Bool.not_true,cond_false]
    rw [A0 (show (y.2.2.2.length:Int)=(st.2.2.2.length:Int) by omega)]
    simp only [Bool.not_true,cond_false]
    by_cases hw:(List.length v.2.2.1:Int)<v.2.1
    · rw [A0 hw]
      have:(A2M y id ((A1y v.2.2.1 ^^^ 4294967295:Nat):Int)).2=4:=by
        unfold A2M
        rw [if_pos hC.idok,if_pos hI.has,hv,if_pos hw]
      rw [this]
      rfl
    · rw [A4 hw]
      simp only [cond_false]
      have hdd:(A2M y id ((A1y v.2.2.1 ^^^ 4294967295:Nat):Int)).2=5∨(A2M y id ((A1y v.2.2.1 ^^^ 4294967295:Nat):Int)).2=0∧(A2M y id ((A1y v.2.2.1 ^^^ 4294967295:Nat):Int)).1.2.2.2=y.2.2.2.set (A7 y.2.2.2 id) (v.1,v.2.1,v.2.2.1,true):=by
        unfold A2M
        rw [if_pos hC.idok,if_pos hI.has,hv,if_neg hw,if_neg (fun h=>h rfl),if_neg (by rw [hnd];simp)]
        split
        · exact .inl rfl
        · exact .inr ⟨rfl,rfl⟩
      have hGd:=B3Y (B1R (id:=id) (n:=((A1y v.2.2.1 ^^^ 4294967295:Nat):Int)) hRy) hGy
      have hUd:=A4m hGd
      rw [B3Z hUd]
      simp only [bO]
      rcases hdd with h5 | ⟨h0,hs⟩
      · rw [h5]
        rfl
      · rw [h0]
        obtain ⟨s1,s2,s3⟩:=B5e hI.has (v.1,v.2.1,v.2.2.1,true) (by rw [hv])
        rw [← hs] at s1 s2 s3
        rw [B3a hUd s1,s2,s3]
        rfl
  · have hyst:y=st:=by
      rcases hy with ⟨h,_⟩ | ⟨hG,hy⟩
      · exact h
      · rw [show y=(A5r st id off dat).1 from congrArg Prod.fst hy]
        exact C2M (by rw [← show c=(A5r st id off dat).2 from congrArg Prod.snd hy];exact hc0)
    subst hyst
    rw [A4 hc0]
    simp only [hself,bO,C1,Bool.not_true,Bool.not_false,cond_false,cond_true]
    rw [A0 trivial]
end Go.Proofs.Ytfnmpcbehimkgaa.Ev
