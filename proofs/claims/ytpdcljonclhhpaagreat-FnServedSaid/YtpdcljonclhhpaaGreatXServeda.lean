/- What the plain functions of the program and of the reference answer: laws of plain data. -/
import Derived.Test.YtpdcljonclhhpaaGreatPu
import Derived.Laws.Strings
set_option linter.unusedVariables false
set_option linter.unusedSimpArgs false
namespace Go.Proofs.YtpdcljonclhhpaaGreat.Ev
theorem w64{n:Int}(h0:-9223372036854775808≤n)(h1:n<9223372036854775808):IntKind.i64.wrap n=n:=by
  simp only [IntKind.wrap,IntKind.bits,IntKind.signed,Bool.true_and]
  simp
  split<;>omega
theorem A0P{α β:Type}(f:α→Option (α⊕β))(μ:α→Nat)(I:α→Prop)(Q:β→Prop)
    (h:∀ x,I x→(∃ y,f x=some (.inl y)∧I y∧μ y<μ x)∨∃ z,f x=some (.inr z)∧Q z):∀ x,I x→∃ z,C5 f x=some z∧Q z:=by
  intro x
  generalize hn:μ x=n
  induction n using Nat.strongRecOn generalizing x with
  | ind n ih=>
    intro hx
    rw [A0b]
    rcases h x hx with ⟨y,e,hy,hl⟩ | ⟨z,e,hz⟩
    · rw [e];exact ih (μ y) (by omega) y rfl hy
    · rw [e];exact ⟨z,rfl,hz⟩
theorem I1{α β:Type}(f:α→Option (α⊕β))(s:Nat→α)(n:Nat)(z:β)(h:∀ i,i<n→f (s i)=some (.inl (s (i+1))))(he:f (s n)=some (.inr z)):C5 f (s 0)=some z:=by
  have key:∀ k i,i+k=n→C5 f (s i)=some z:=by
    intro k
    induction k with
    | zero=>intro i hi;rw [A0b,show i=n by omega,he]
    | succ k ih=>intro i hi;rw [A0b,h i (by omega)];exact ih (i+1) (by omega)
  exact key n 0 (by omega)
theorem C4o{α β:Type}(f:α→Option (α⊕β))(s:Nat→α)(n:Nat)(z:Nat→β)(go:Nat→Bool)(h:∀ i,i<n→f (s i)=if go i then some (.inl (s (i+1))) else some (.inr (z i)))(he:f (s n)=some (.inr (z n))) :
    ∃ i,i≤n∧(∀ j,j<i→go j=true)∧(i<n→go i=false)∧C5 f (s 0)=some (z i):=by
  have key:∀ k i,i+k=n→(∀ j,j<i→go j=true)→∃ i',i'≤n∧(∀ j,j<i'→go j=true)∧(i'<n→go i' = false)∧C5 f (s i)=some (z i'):=by
    intro k
    induction k with
    | zero=>
      intro i hi hg
      obtain rfl:i=n:=by omega
      exact ⟨i,Nat.le_refl _,hg,fun h=>absurd h (by omega),by rw [A0b,he]⟩
    | succ k ih=>
      intro i hi hg
      cases hgo:go i with
      | true=>
        obtain ⟨i',h1,h2,h3,h4⟩:=ih (i+1) (by omega) (fun j hj=>by
          by_cases h:j<i
          · exact hg j h
          · rw [show j=i by omega];exact hgo)
        refine ⟨i',h1,h2,h3,?_⟩
        rw [A0b,h i (by omega),if_pos hgo]
        exact h4
      | false=>
        refine ⟨i,by omega,hg,fun _=>hgo,?_⟩
        rw [A0b,h i (by omega),hgo]
        rfl
  exact key n 0 (by omega) (fun j hj=>by omega)
theorem D2N(s:ByteArray)(i:Int):0≤bt s i:=by unfold bt;omega
theorem D2O(s:ByteArray)(i:Int):bt s i<256:=by
  have:=(s.data.toList.getD i.toNat 0).toNat_lt
  unfold bt;omega
theorem D1w(s:ByteArray)(i:Int):IntKind.i64.wrap (bt s i)=bt s i:=w64 (by have:=D2N s i;omega) (by have:=D2O s i;omega)
theorem E3{k:K}{xs:List k.T}{i:Nat}(h:i<xs.length):rd k xs (i:Int)=xs[i]:=by
  unfold rd
  rw [Int.toNat_natCast]
  simp [List.getD,h]
theorem B7y{κ:IntKind}{xs:List Int}{i:Nat}(h:i<xs.length):rd (.int κ) xs (i:Int)=xs[i]:=E3 (k:=.int κ) h
theorem A3V{xs:List ByteArray}{i:Nat}(h:i<xs.length):rd .str xs (i:Int)=xs[i]:=E3 (k:=.str) h
def Byt(a:List Int):Prop:=∀ x∈a,0≤x∧x<256
theorem A0{p:Prop} [Decidable p] (h:p):decide p=true:=decide_eq_true h
theorem A3{p:Prop} [Decidable p] (h:¬ p):decide p=false:=decide_eq_false h
def Sm(N:Nat):(k:K)→k.T→Prop
  | .int _,_=>True
  | .bool,_=>True
  | .fnc _,_=>True
  | .str,s=>s.size≤N
  | .sl _ k,xs=>xs.length≤N∧∀ x∈xs,Sm N k x
  | .rs _ k,xs=>xs.length≤N∧∀ x∈xs,Sm N k x
  | .pair a b,x=>Sm N a x.1∧Sm N b x.2
theorem Sm.l{N:Nat}{a b:K}{x:(K.pair a b).T}(h:Sm N (.pair a b) x):Sm N a x.1:=h.1
theorem Sm.r{N:Nat}{a b:K}{x:(K.pair a b).T}(h:Sm N (.pair a b) x):Sm N b x.2:=h.2
theorem B0X{α β:Type}{f g:α→Option (α⊕β)}(I:α→Prop)(h:∀ x,I x→f x=g x)(hI:∀ x y,I x→f x=some (.inl y)→I y):∀ n x,I x→A4a f n x=A4a g n x
  | 0,_,_=>rfl
  | n+1,x,hx=>by
    simp only [A4a,← h x hx]
    cases e:f x with
    | none=>rfl
    | some v=>
      cases v with
      | inl y=>exact B0X I h hI n y (hI x y hx e)
      | inr z=>rfl
theorem C2p{α β:Type}{f g:α→Option (α⊕β)}(I:α→Prop)(h:∀ x,I x→f x=g x)(hI:∀ x y,I x→f x=some (.inl y)→I y){x:α}(hx:I x):C5 f x=C5 g x:=by
  cases e:C5 g x with
  | some z=>
    obtain ⟨n,hn⟩:=A3D e
    exact B0C (n:=n) (by rw [B0X I h hI n x hx];exact hn)
  | none=>
    cases e':C5 f x with
    | none=>rfl
    | some z=>
      obtain ⟨n,hn⟩:=A3D e'
      rw [B0X I h hI n x hx] at hn
      rw [B0C hn] at e
      cases e
def P4(go:Nat→Bool):Nat→Nat→Nat
  | i,0=>i
  | i,k+1=>if go i then P4 go (i+1) k else i
theorem B4d(go:Nat→Bool):∀ k i,P4 go i k≤i+k
  | 0,i=>Nat.le_refl _
  | k+1,i=>by
    simp only [P4]
    split
    · have:=B4d go k (i+1);omega
    · omega
theorem A52(go:Nat→Bool):∀ k i,P4 go i k<i+k→go (P4 go i k)=false
  | 0,i,h=>by simp [P4] at h
  | k+1,i,h=>by
    simp only [P4] at h ⊢
    split
    · rename_i hg
      rw [if_pos hg] at h
      exact A52 go k (i+1) (by omega)
    · rename_i hg
      simpa using hg
theorem A45{α β:Type}(f:α→Option (α⊕β))(s:Nat→α)(n:Nat)(z:Nat→β)(go:Nat→Bool)(h:∀ i,i<n→f (s i)=if go i then some (.inl (s (i+1))) else some (.inr (z i)))(he:f (s n)=some (.inr (z n))) :
    C5 f (s 0)=some (z (P4 go 0 n)):=by
  have key:∀ k i,i+k=n→C5 f (s i)=some (z (P4 go i k)):=by
    intro k
    induction k with
    | zero=>
      intro i hi
      obtain rfl:i=n:=by omega
      rw [A0b,he]
      rfl
    | succ k ih=>
      intro i hi
      rw [A0b,h i (by omega)]
      simp only [P4]
      cases go i with
      | true=>simp only [if_true];exact ih (i+1) (by omega)
      | false=>rfl
  exact key n 0 (by omega)
theorem C0N(L:Int×Unit→Option ((Int×Unit)⊕(Bool×Unit)))(n:Nat)(hn:n≤maxLen)(go:Nat→Bool)(hs:∀ i:Nat,i<n→L ((i:Int),())=bif go i then some (.inl (IntKind.i64.wrap ((i:Int)+1),())) else some (.inr (false,())))
    (he:L ((n:Int),())=some (.inr (true,()))):C5 L (0,())=some ((List.range n).all go,()):=by
  have h:=A45 L (fun i=>((i:Int),())) n (fun i=>(decide (i=n),())) go (fun i hi=>by
    rw [hs i hi,w64 (by omega) (by simp only [maxLen] at hn;omega)]
    cases go i with
    | true=>rfl
    | false=>simp only [Bool.false_eq_true,if_false,cond_false];rw [A3 (by omega)]) (by rw [he];simp)
  have h':C5 L (0,())=some (decide (P4 go 0 n=n),()):=h
  rw [h']
  have key:∀ k i,decide (P4 go i k=i+k)=((List.range k).all fun j=>go (i+j)):=by
    intro k
    induction k with
    | zero=>intro i;simp [P4]
    | succ k ih=>
      intro i
      have e:((List.range (k+1)).all fun j=>go (i+j))=(go i&&(List.range k).all fun j=>go (i+1+j)):=by
        rw [List.range_succ_eq_map,List.all_cons,List.all_map]
        simp only [Nat.add_zero]
        congr 2
        funext j
        simp only [Function.comp]
        congr 1
        omega
      rw [e,← ih (i+1)]
      by_cases hg:go i=true
      · have e1:P4 go i (k+1)=P4 go (i+1) k:=by simp only [P4];rw [if_pos hg]
        rw [Bool.eq_iff_iff,hg]
        simp only [decide_eq_true_eq,Bool.true_and,e1]
        omega
      · have e1:P4 go i (k+1)=i:=by simp only [P4];rw [if_neg hg]
        rw [Bool.eq_iff_iff]
        simp only [decide_eq_true_eq,Bool.and_eq_true,e1]
        constructor
        · intro h;omega
        · intro h;exact absurd h.1 hg
  have k0:=key n 0
  simp only [Nat.zero_add] at k0
  rw [k0]
theorem A1e(a b c:Int):K1 a b c=some (decide (b≤a∧a≤c),()):=by
  simp only [K1,B7u]
  by_cases h:b≤a<;>by_cases h2:a≤c<;>simp [h,h2]
theorem A0m(a b c:Int):F8 a b c=some (decide (b≤a∧a≤c),()):=A1e a b c
def C1P(s:ByteArray)(i:Nat):Bool:=decide (97≤bt s i∧bt s i≤122)||decide (48≤bt s i∧bt s i≤57)
def idB(s:ByteArray):Bool:=(List.range s.size).all (C1P s)&&decide (1≤(s.size:Int)∧(s.size:Int)≤8)
theorem C4p(s:ByteArray)(h:s.size≤maxLen)(i:Nat)(hi:i<s.size):A6J K1 s ((i:Int),())=if C1P s i then some (.inl (((i+1:Nat):Int),())) else some (.inr (.inr (false,()))):=by
  have h1:((i:Int)<(s.size:Int)):=by omega
  have h2:(0:Int)≤(i:Int):=by omega
  simp only [A6J,A0 h1,A0 h2,cond_true,D1w,A1e,A4]
  rw [w64 (by omega) (by simp only [maxLen] at h;omega)]
  unfold C1P
  cases decide (97≤bt s i∧bt s i≤122)<;>cases decide (48≤bt s i∧bt s i≤57)<;>simp
theorem C7b(s:ByteArray)(h:s.size≤maxLen)(i:Nat)(hi:i<s.size):A8a s ((i:Int),())=if C1P s i then some (.inl (((i+1:Nat):Int),())) else some (.inr (.inr (false,()))):=by
  have h1:((i:Int)<(s.size:Int)):=by omega
  have h2:(0:Int)≤(i:Int):=by omega
  simp only [A8a,A0 h1,A0 h2,cond_true]
  rw [w64 (by omega) (by simp only [maxLen] at h;omega)]
  unfold C1P
  by_cases a:bt s i≥97<;>by_cases b:bt s i≤122<;>by_cases c:bt s i≥48<;>by_cases d:bt s i≤57<;>simp [a,b,c,d]
theorem D1T{s:ByteArray}{f:Int×Unit→Option ((Int×Unit)⊕(Unit⊕(Bool×Unit)))}(hs:∀ i:Nat,i<s.size→f ((i:Int),())=if C1P s i then some (.inl (((i+1:Nat):Int),())) else some (.inr (.inr (false,()))))
    (he:f ((s.size:Int),())=some (.inr (.inl ()))) (g:Unit→Option (Bool×Unit)) (hg:g ()=some (decide (1≤(s.size:Int)∧(s.size:Int)≤8),())):B7 (C5 f (0,())) g=some (idB s,()):=by
  obtain ⟨i,h1,h2,h3,h4⟩:=C4o f (fun i=>((i:Int),())) s.size (fun i=>if i<s.size then .inr (false,()) else .inl ()) (C1P s) (fun i hi=>by
    simp only [if_pos hi];exact hs i hi) (by simp only [Nat.lt_irrefl,if_false];exact he)
  have h4':C5 f (0,())=some (if i<s.size then .inr (false,()) else .inl ()):=h4
  rw [h4']
  unfold idB
  by_cases hi:i<s.size
  · rw [if_pos hi]
    have:(List.range s.size).all (C1P s)=false:=by
      rw [List.all_eq_false]
      exact ⟨i,List.mem_range.2 hi,by simp [h3 hi]⟩
    simp [B7,this]
  · rw [if_neg hi]
    have:(List.range s.size).all (C1P s)=true:=by
      rw [List.all_eq_true]
      intro j hj
      exact h2 j (by have:=List.mem_range.1 hj;omega)
    simp only [B7,this,hg,Bool.true_and]
theorem A7J(s:ByteArray)(h:s.size≤maxLen):O3 s=some (idB s,()):=by
  simp only [O3,B4V]
  exact D1T (C4p s h) (by simp [A6J]) _ (by simp only [A1e,A4])
theorem B1S(s:ByteArray)(h:s.size≤maxLen):T0 s=some (idB s,()):=by
  simp only [T0,B7w]
  exact D1T (C7b s h) (by simp [A8a]) _ (by simp only [A0m,A4])
theorem B7z{R:Type}(a:Option R):eqO a a=a:=by
  unfold eqO
  rw [if_pos rfl]
theorem B22(a:List Int)(h:a.length≤140737488355328):F0 a=some (a,()):=by
  simp only [F0,W6]
  have e:(bif decide (([]:List Int).length+a.length≤9223372036854775807) then bif decide ((([]:List Int).length+a.length)*1≤140737488355328) then some (([]++a),()) else none else none)=some (a,()):=by
    rw [A0 (by simp;omega),A0 (by simp;omega)]
    simp
  rw [e]
  cases a with
  | nil=>simp [B7z]
  | cons x xs=>simp
def B80(n:Int)(k j:Nat):Int:=IntKind.u8.wrap (n.fdiv (2 ^ (8*(k-1-j))))
def big(n:Int)(k:Nat):List Int:=(List.range k).map (B80 n k)
theorem I5(n:Int)(k:Nat):(big n k).length=k:=by simp [big]
theorem D2q{n:Int}(h0:0≤n)(h1:n<18446744073709551616):IntKind.u64.wrap n=n:=by
  simp only [IntKind.wrap,IntKind.bits,IntKind.signed]
  simp
  omega
theorem C6h(v:Int)(b:List Int)(k:Nat)(hk:k≤8)(hb:b.length+8≤140737488355328):C5 (Z5 (v,())) ((k:Int)-1,b,())=some (b++big v k,()):=by
  have key:=I1 (Z5 (v,())) (fun j=>((k:Int)-1-(j:Int),b++(List.range j).map (B80 v k),())) k (b++big v k,()) (fun j hj=>?_) ?_
  · simpa using key
  · have h1:(k:Int)-1-(j:Int)≥0:=by omega
    have e1:(k:Int)-1-(j:Int)=((k-1-j:Nat):Int):=by omega
    have hs:IntKind.u64.wrap (IntKind.i64.wrap (8*((k:Int)-1-(j:Int))))=((8*(k-1-j):Nat):Int):=by
      rw [w64 (by omega) (by omega),D2q (by omega) (by omega)]
      omega
    have hm:min (8*(k-1-j)) IntKind.i64.bits=8*(k-1-j):=Nat.min_eq_left (by simp only [IntKind.bits];omega)
    simp only [Z5,A0 h1,cond_true,hs,Int.toNat_natCast,hm]
    rw [A3 (by omega)]
    simp only [cond_false]
    have hl:(b++(List.range j).map (B80 v k)).length=b.length+j:=by simp
    rw [A0 (by rw [hl];simp;omega),A0 (by rw [hl];simp;omega)]
    simp only [cond_true]
    rw [w64 (by omega) (by omega),List.range_succ,List.map_append,List.append_assoc]
    have e2:(k:Int)-1-(j:Int)-1=(k:Int)-1-((j+1:Nat):Int):=by omega
    rw [e2]
    rfl
  · have h1:¬ ((k:Int)-1-(k:Int)≥0):=by omega
    simp only [Z5,A3 h1,cond_false]
    rfl
def Y3(n:Int):Int:=if n<0 then 0 else n
theorem A0n(b:List Int)(n:Int)(k:Nat)(h1:1≤k)(hk:k≤8)(hb:b.length+8≤140737488355328):A5X b n (k:Int)=some (b++big (Y3 n) k,()):=by
  simp only [A5X,B2W]
  rw [A0 (by simp;omega),A0 (by simp;omega)]
  have e:(bif decide (n<0) then some ((0:Int),()) else some (n,()))=some (Y3 n,()):=by
    unfold Y3
    by_cases h:n<0<;>simp [h]
  simp only [cond_true,e,A4,A1e]
  rw [A0 (by omega)]
  simp only [Bool.not_true,cond_false,List.nil_append]
  rw [w64 (by omega) (by omega)]
  exact C6h _ b k hk hb
theorem A6R(b:List Int)(n:Int)(k:Nat)(hk:k≤8)(hb:b.length+8≤140737488355328):A5d b n (k:Int)=some (b++big (Y3 n) k,()):=by
  simp only [A5d,B2e]
  have e:A8c n=Z5 (Y3 n,()):=by
    funext l
    have:(bif decide (0>n) then (0:Int) else n)=Y3 n:=by
      unfold Y3
      by_cases h:n<0<;>simp [h]
    simp only [A8c,Z5,this]
  rw [e,w64 (by omega) (by omega)]
  exact C6h _ b k hk hb
theorem B4e{n:Nat}(h:n<9223372036854775808):IntKind.i64.wrap (n:Int)=(n:Int):=w64 (by omega) (by omega)
theorem D1x{n:Nat}(h:n<4294967296):IntKind.u32.wrap (n:Int)=(n:Int):=by
  simp only [IntKind.wrap,IntKind.bits,IntKind.signed]
  simp
  omega
theorem bits_nat{w x:Nat}(h:x<2 ^ w):(BitVec.ofInt w (x:Int)).toNat=x:=by
  rw [BitVec.ofInt_natCast,BitVec.toNat_ofNat]
  exact Nat.mod_eq_of_lt h
theorem B81{x y:Nat}(hx:x<4294967296)(hy:y<4294967296):B6H .i64 (x:Int) (y:Int)=((x ^^^ y:Nat):Int):=by
  have h:x ^^^ y<2 ^ 32:=Nat.xor_lt_two_pow (by omega) (by omega)
  unfold B6H
  rw [BitVec.toNat_xor,bits_nat (by simp only [IntKind.bits];omega),bits_nat (by simp only [IntKind.bits];omega)]
  exact B4e (by omega)
theorem B82{x y:Nat}(hx:x<4294967296)(hy:y<4294967296):B6H .u32 (x:Int) (y:Int)=((x ^^^ y:Nat):Int):=by
  have h:x ^^^ y<2 ^ 32:=Nat.xor_lt_two_pow (by omega) (by omega)
  unfold B6H
  rw [BitVec.toNat_xor,bits_nat (by simp only [IntKind.bits];omega),bits_nat (by simp only [IntKind.bits];omega)]
  exact D1x (by omega)
theorem C9o{x y:Nat}(hx:x<4294967296)(hy:y<4294967296):B4S .i64 (x:Int) (y:Int)=((x &&& y:Nat):Int):=by
  have h:x &&& y<2 ^ 32:=Nat.and_lt_two_pow _ (by omega)
  unfold B4S
  rw [BitVec.toNat_and,bits_nat (by simp only [IntKind.bits];omega),bits_nat (by simp only [IntKind.bits];omega)]
  exact B4e (by omega)
theorem C9p{x y:Nat}(hx:x<4294967296)(hy:y<4294967296):B4S .u32 (x:Int) (y:Int)=((x &&& y:Nat):Int):=by
  have h:x &&& y<2 ^ 32:=Nat.and_lt_two_pow _ (by omega)
  unfold B4S
  rw [BitVec.toNat_and,bits_nat (by simp only [IntKind.bits];omega),bits_nat (by simp only [IntKind.bits];omega)]
  exact D1x (by omega)
def B3Q(c:Nat):Nat:=if c &&& 1=1 then (c / 2) ^^^ 2197175160 else c / 2
def B4f(c:Nat):Nat→Nat
  | 0=>c
  | i+1=>B3Q (B4f c i)
theorem C4q{c:Nat}(h:c<4294967296):B3Q c<4294967296:=by
  unfold B3Q
  split
  · have:(c / 2) ^^^ 2197175160<2 ^ 32:=Nat.xor_lt_two_pow (by omega) (by omega)
    omega
  · omega
theorem B7A{c:Nat}(h:c<4294967296):∀ i,B4f c i<4294967296
  | 0=>h
  | i+1=>C4q (B7A h i)
theorem half(c:Nat):((c:Int)).fdiv 2=((c / 2:Nat):Int):=by
  rw [Int.fdiv_eq_ediv_of_nonneg _ (by omega)]
  omega
def A46(a:List Int):Nat:=a.foldl (fun c x=>B4f (c ^^^ x.toNat) 8) 4294967295
theorem D0x(a:List Int)(ha:Byt a):∀ c,c<4294967296→a.foldl (fun c x=>B4f (c ^^^ x.toNat) 8) c<4294967296:=by
  induction a with
  | nil=>intro c h;exact h
  | cons x a ih=>
    intro c h
    have hx:=ha x (by simp)
    refine ih (fun y hy=>ha y (by simp [hy])) _ (B7A ?_ 8)
    have:c ^^^ x.toNat<2 ^ 32:=Nat.xor_lt_two_pow (by omega) (by omega)
    omega
theorem A5l{a:List Int}(h:Byt a)(i:Nat):Byt (a.take i):=fun x hx=>h x (List.mem_of_mem_take hx)
theorem A8l{a:List Int}(h:Byt a):A46 a<4294967296:=D0x a h _ (by omega)
theorem C0O{a:List Int}{i:Nat}(hi:i<a.length):A46 (a.take (i+1))=B4f (A46 (a.take i) ^^^ a[i].toNat) 8:=by
  unfold A46
  rw [List.take_succ_eq_append_getElem hi,List.foldl_append]
  rfl
theorem D0y(l0:Int×Int×Unit)(c:Nat)(h:c<4294967296):C5 (B1M l0) ((c:Int),0,())=some (.inl ((B4f c 8:Int),IntKind.i64.wrap (l0.2.1+1),())):=by
  refine I1 (B1M l0) (fun i=>((B4f c i:Int),(i:Int),())) 8 _ (fun i hi=>?_) ?_
  · have hl:=B7A h i
    have h1:(i:Int)<8:=by omega
    simp only [B1M,A0 h1,cond_true,half]
    rw [show (1:Int)=((1:Nat):Int) from rfl,C9o hl (by omega),show (2197175160:Int)=((2197175160:Nat):Int) from rfl,B81 (by omega) (by omega)]
    rw [show ((i:Int)+((1:Nat):Int))=((i+1:Nat):Int) by omega,B4e (by omega)]
    simp only [B4f,B3Q]
    by_cases hb:B4f c i &&& 1=1
    · rw [A0 (by rw [hb]),if_pos hb];rfl
    · rw [A3 (by omega),if_neg hb];rfl
  · rfl
theorem B0Y(a:List Int)(ha:Byt a)(h:a.length≤maxLen):A2K a=some (((A46 a ^^^ 4294967295:Nat):Int),()):=by
  simp only [A2K,C1M]
  have key:=I1 (A7F a) (fun i=>((A46 (a.take i):Int),(i:Int),())) a.length ((A46 a:Int),()) (fun i hi=>?_) ?_
  · have e:C5 (A7F a) (4294967295,0,())=some ((A46 a:Int),()):=key
    rw [e]
    simp only [A4]
    rw [show (4294967295:Int)=((4294967295:Nat):Int) from rfl,B81 (A8l ha) (by omega)]
  · have h1:((i:Int)<(a.length:Int)):=by omega
    have h2:(0:Int)≤(i:Int):=by omega
    have hx:=ha a[i] (List.getElem_mem hi)
    have hc:=A8l (A5l ha i)
    simp only [A7F,A0 h1,A0 h2,cond_true,B7y hi]
    have hxor:A46 (a.take i) ^^^ a[i].toNat<2 ^ 32:=Nat.xor_lt_two_pow (by omega) (by omega)
    rw [w64 (by omega) (by omega),show a[i]=((a[i].toNat:Nat):Int) by omega,B81 hc (by omega)]
    rw [D0y _ _ (by omega)]
    simp only
    rw [show ((i:Int)+1)=((i+1:Nat):Int) by omega,B4e (by simp only [maxLen] at h;omega),C0O hi]
  · simp [A7F]
theorem D0z(l0:Int×Int×Unit)(c:Nat)(h:c<4294967296):C5 (B1O l0) ((c:Int),0,())=some (.inl ((B4f c 8:Int),IntKind.i64.wrap (l0.2.1+1),())):=by
  refine I1 (B1O l0) (fun i=>((B4f c i:Int),(i:Int),())) 8 _ (fun i hi=>?_) ?_
  · have hl:=B7A h i
    have h1:(i:Int)<8:=by omega
    simp only [B1O,A0 h1,cond_true,half]
    rw [show (1:Int)=((1:Nat):Int) from rfl,C9p hl (by omega),show (2197175160:Int)=((2197175160:Nat):Int) from rfl,B82 (by omega) (by omega)]
    rw [show ((i:Int)+((1:Nat):Int))=((i+1:Nat):Int) by omega,B4e (by omega)]
    simp only [B4f,B3Q]
    by_cases hb:B4f c i &&& 1=1
    · rw [A0 (by rw [hb]),if_pos hb];rfl
    · rw [A3 (by omega),if_neg hb];rfl
  · rfl
theorem C2q(a:List Int)(ha:Byt a)(h:a.length≤maxLen):A8b a=some (((A46 a ^^^ 4294967295:Nat):Int),()):=by
  simp only [A8b,C1O]
  have key:=I1 (A7H a) (fun i=>((A46 (a.take i):Int),(i:Int),())) a.length ((A46 a:Int),()) (fun i hi=>?_) ?_
  · have e:C5 (A7H a) (4294967295,0,())=some ((A46 a:Int),()):=key
    rw [e]
    simp only [A4]
    have hm:IntKind.u32.max=((4294967295:Nat):Int):=rfl
    have hxor:A46 a ^^^ 4294967295<2 ^ 32:=Nat.xor_lt_two_pow (by have:=A8l ha;omega) (by omega)
    rw [hm,B82 (by omega) (A8l ha),Nat.xor_comm,B4e (by omega)]
  · have h1:((i:Int)<(a.length:Int)):=by omega
    have h2:(0:Int)≤(i:Int):=by omega
    have hx:=ha a[i] (List.getElem_mem hi)
    have hc:=A8l (A5l ha i)
    simp only [A7H,A0 h1,A0 h2,cond_true,B7y hi]
    have hxor:A46 (a.take i) ^^^ a[i].toNat<2 ^ 32:=Nat.xor_lt_two_pow (by omega) (by omega)
    rw [show a[i]=((a[i].toNat:Nat):Int) by omega,D1x (by omega),B82 hc (by omega)]
    rw [D0z _ _ (by omega)]
    simp only
    rw [show ((i:Int)+1)=((i+1:Nat):Int) by omega,B4e (by simp only [maxLen] at h;omega),C0O hi]
  · simp [A7H]
abbrev D1y:=Int×Int
def P0(r:D1y):Bool:=decide (100≤r.1∧r.1≤599)&&decide (-1≤r.2∧r.2≤1000000000)
theorem A47(r:D1y):M2 r=some (P0 r,()):=by
  simp only [M2,B2U,A1e,A4,P0]
  cases decide (100≤r.1∧r.1≤599)<;>simp
theorem C2r(r:D1y):A1l r=some (P0 r,()):=by
  simp only [A1l,B2c,A0m,A4,P0]
  cases decide (100≤r.1∧r.1≤599)<;>simp
def B83(us:List TUp)(id:ByteArray):Nat:=P4 (fun i=>!((rd kUp us (i:Int)).1.toList == id.toList)) 0 us.length
def D1z:TUp×Bool×Unit:=((⟨#[]⟩,0,[],false),false,())
def C9q(st:A5)(id:ByteArray):TUp×Bool×Unit:=if B83 st.2.2.2 id<st.2.2.2.length then (rd kUp st.2.2.2 (B83 st.2.2.2 id:Int),true,()) else D1z
theorem B84(us:List TUp)(id:ByteArray)(h:us.length≤maxLen):M8 us id=some (if B83 us id<us.length then (B83 us id:Int) else -1,()):=by
  simp only [M8,B4X]
  refine A45 (A6K us id) (fun i=>((i:Int),())) us.length (fun i=>(if i<us.length then (i:Int) else -1,())) (fun i=>!((rd kUp us (i:Int)).1.toList == id.toList)) (fun i hi=>?_) ?_
  · have h1:((i:Int)<(us.length:Int)):=by omega
    have h2:(0:Int)≤(i:Int):=by omega
    simp only [A6K,A0 h1,A0 h2,cond_true,if_pos hi]
    rw [w64 (by omega) (by simp only [maxLen] at h;omega)]
    cases ((rd kUp us (i:Int)).1.toList == id.toList)<;>simp
  · simp [A6K]
theorem D10{us:List TUp}{N:Nat}(h:Sm N (.sl 0 kUp) us){i:Nat}(hi:i<us.length):Sm N kUp (rd kUp us (i:Int)):=by
  rw [E3 (k:=kUp) (xs:=us) hi]
  exact h.2 _ (List.getElem_mem hi)
theorem C7c(st:A5)(id:ByteArray)(h:Sm 1048576 (.sl 0 kUp) st.2.2.2):P3 st id=some (C9q st id):=by
  have hl:st.2.2.2.length≤1048576:=h.1
  simp only [P3,B0R]
  rw [B84 _ _ (by simp only [maxLen];omega)]
  simp only [A4,C9q]
  by_cases hi:B83 st.2.2.2 id<st.2.2.2.length
  · have hd:List.length (rd kUp st.2.2.2 (B83 st.2.2.2 id:Int)).2.2.1≤1048576:=(Sm.l (Sm.r (Sm.r (D10 h hi)))).1
    rw [if_pos hi,if_pos hi,A3 (by omega),A0 (show (0:Int)≤(B83 st.2.2.2 id:Int) by omega),A0 (by omega),A0 (by simp;omega),A0 (by simp;omega)]
    simp
  · rw [if_neg hi,if_neg hi]
    rfl
theorem D20{x y:Int}(hx:0≤x∧x<256)(hy:0≤y∧y<256)(h:UInt8.ofNat x.toNat=UInt8.ofNat y.toNat):x=y:=by
  have:=congrArg UInt8.toNat h
  simp only [UInt8.toNat_ofNat'] at this
  omega
theorem D11{x y:Nat}(hx:x<9223372036854775808)(hy:y<9223372036854775808):bOr .i64 (x:Int) (y:Int)=((x ||| y:Nat):Int):=by
  have h:x ||| y<2 ^ 63:=Nat.or_lt_two_pow (by omega) (by omega)
  unfold bOr
  rw [BitVec.toNat_or,bits_nat (by simp only [IntKind.bits];omega),bits_nat (by simp only [IntKind.bits];omega)]
  exact B4e (by omega)
def U1(b:List Int)(at_:Nat):Nat→Nat
  | 0=>0
  | j+1=>(U1 b at_ j*256) ||| (b.getD (at_+j) 0).toNat
theorem C2s{b:List Int}(hb:Byt b)(i:Nat):0≤b.getD i 0∧b.getD i 0<256:=by
  by_cases h:i<b.length
  · simp only [List.getD,List.getElem?_eq_getElem h,Option.getD_some]
    exact hb _ (List.getElem_mem h)
  · simp only [List.getD,List.getElem?_eq_none (show b.length≤i by omega),Option.getD_none]
    omega
theorem C1Q{b:List Int}(hb:Byt b)(at_:Nat):∀ j,U1 b at_ j<2 ^ (8*j)
  | 0=>by simp [U1]
  | j+1=>by
    have h1:=C1Q hb at_ j
    have h2:=C2s hb (at_+j)
    have e:2 ^ (8*(j+1))=2 ^ (8*j)*256:=by rw [show 8*(j+1)=8*j+8 by omega,Nat.pow_add]
    refine Nat.or_lt_two_pow ?_ ?_
    · rw [e];exact Nat.mul_lt_mul_of_pos_right h1 (by omega)
    · have:1≤2 ^ (8*j):=Nat.one_le_two_pow
      rw [e];omega
theorem C2t{b:List Int}(hb:Byt b)(at_ j:Nat)(hj:j<7)(x:Int)(hx:x=b.getD (at_+j) 0):bOr .i64 (IntKind.i64.wrap (((U1 b at_ j:Nat):Int)*256)) (IntKind.i64.wrap x)=((U1 b at_ (j+1):Nat):Int):=by
  have h1:=C1Q hb at_ j
  have h2:=C2s hb (at_+j)
  have h3:2 ^ (8*j)≤2 ^ 48:=Nat.pow_le_pow_right (by omega) (by omega)
  subst hx
  rw [show ((U1 b at_ j:Nat):Int)*256=((U1 b at_ j*256:Nat):Int) by omega,B4e (by omega),show b.getD (at_+j) 0=(((b.getD (at_+j) 0).toNat:Nat):Int) by omega,B4e (by omega),D11 (by omega) (by omega)]
  simp only [U1,Int.toNat_natCast]
def A3W(b:List Int)(a:Int)(k:Nat):Int×Bool×Unit:=if 0≤a∧a≤(b.length:Int)-k then ((U1 b a.toNat k:Int),true,()) else (0,false,())
theorem C2u(b:List Int)(hb:Byt b)(h:b.length≤1048576)(a:Int)(k:Nat)(hk:1≤k∧k≤7):A3F b a (k:Int)=some (A3W b a k):=by
  simp only [A3F,B2V,A1e,A4,A3W]
  rw [A0 (show (1:Int)≤(k:Int)∧(k:Int)≤7 by omega),w64 (by omega) (by omega)]
  simp only [Bool.not_true,cond_false]
  by_cases h1:a<0
  · rw [A0 h1,if_neg (by omega)];rfl
  rw [A3 h1]
  by_cases h2:a>(b.length:Int)-k
  · rw [A0 h2,if_neg (by omega)];rfl
  rw [A3 h2,if_pos (by omega)]
  simp only [cond_false,B7]
  have key:=I1 (A2J (k:Int) a b) (fun j=>((U1 b a.toNat j:Int),(j:Int),())) k ((U1 b a.toNat k:Int),()) (fun j hj=>?_) ?_
  · have e:C5 (A2J (k:Int) a b) (0,0,())=_:=key
    rw [e]
  · have g1:(j:Int)<(k:Int):=by omega
    simp only [A2J,A0 g1,cond_true]
    rw [w64 (n:=a+(j:Int)) (by omega) (by omega)]
    have g2:0≤a+(j:Int):=by omega
    have g3:a+(j:Int)<(b.length:Int):=by omega
    rw [A0 g2,A0 g3]
    simp only [cond_true]
    rw [C2t hb a.toNat j (by omega) _ (by
      rw [show a+(j:Int)=((a.toNat+j:Nat):Int) by omega,B7y (by omega)]
      simp [List.getD,show a.toNat+j<b.length by omega]),show (j:Int)+1=((j+1:Nat):Int) by omega,B4e (by omega)]
  · simp [A2J]
theorem B0Z(b:List Int)(hb:Byt b)(h:b.length≤1048576)(a:Int)(k:Nat)(hk:1≤k∧k≤7):A5c b a (k:Int)=some (A3W b a k):=by
  simp only [A5c,B2d,A0m,A4,A3W]
  rw [A0 (show (1:Int)≤(k:Int)∧(k:Int)≤7 by omega),w64 (n:=(b.length:Int)-(k:Int)) (by omega) (by omega)]
  simp only [Bool.not_true,cond_false]
  by_cases h1:a<0
  · rw [A0 h1,if_neg (by omega)];rfl
  rw [A3 h1]
  by_cases h2:a>(b.length:Int)-k
  · rw [A0 h2,if_neg (by omega)];rfl
  rw [A3 h2,if_pos (by omega)]
  simp only [cond_false,B7]
  rw [w64 (n:=a+(k:Int)) (by omega) (by omega),A0 (show 0≤a by omega),A0 (show a≤a+(k:Int) by omega),A0 (show a+(k:Int)≤(b.length:Int) by omega)]
  simp only [cond_true]
  have hlen:((b.take (a+(k:Int)).toNat).drop a.toNat).length=k:=by simp;omega
  have key:=I1 (A2R b a (k:Int)) (fun j=>((U1 b a.toNat j:Int),(j:Int),())) k ((U1 b a.toNat k:Int),()) (fun j hj=>?_) ?_
  · have e:C5 (A2R b a (k:Int)) (0,0,())=_:=key
    rw [e]
  · have g1:(j:Int)<(k:Int):=by omega
    have g2:(0:Int)≤(j:Int):=by omega
    simp only [A2R]
    rw [w64 (n:=a+(k:Int)) (by omega) (by omega)]
    simp only [hlen,A0 g1,A0 g2,cond_true]
    rw [C2t hb a.toNat j (by omega) _ (by
      rw [B7y (by rw [hlen];exact hj)]
      simp [List.getD,show a.toNat+j<b.length by omega]),show (j:Int)+1=((j+1:Nat):Int) by omega,B4e (by omega)]
  · simp only [A2R]
    rw [w64 (n:=a+(k:Int)) (by omega) (by omega)]
    simp [hlen]
theorem C7d{α β:Type}{f:α→Option (α⊕β)}{x:α}{z:β}(h:f x=some (.inr z)):C5 f x=some z:=by rw [A0b,h]
theorem A8m(xs:List Int):(strOf xs).size=xs.length:=strOfNums_size xs
theorem C2v(x:Int):0≤B4S .i64 x 255∧B4S .i64 x 255≤255:=by
  unfold B4S
  have h:(BitVec.ofInt IntKind.i64.bits x &&& BitVec.ofInt IntKind.i64.bits 255).toNat≤255:=by
    rw [BitVec.toNat_and]
    have:(BitVec.ofInt IntKind.i64.bits (255:Int)).toNat=255:=bits_nat (w:=64) (x:=255) (by omega)
    rw [this]
    exact Nat.and_le_right
  rw [B4e (by omega)]
  omega
def Cur(c:B5):Prop:=List.length c.1≤1048576∧0≤c.2.1∧c.2.1≤1048576
theorem A7K(c:B5)(h:Cur c):∃ r c',A0e c=some (r,c',())∧Cur c'∧0≤r∧r≤255:=by
  obtain ⟨h1,h2,h3⟩:=h
  simp only [A0e,B2T]
  by_cases hi:c.2.1<(List.length c.1:Int)
  · simp only [A0 hi,A0 h2,cond_true]
    refine ⟨_,_,rfl,⟨h1,?_,?_⟩,C2v _⟩
    · simp only;rw [w64 (by omega) (by omega)];omega
    · simp only;rw [w64 (by omega) (by omega)];omega
  · simp only [A3 hi,cond_false]
    exact ⟨_,_,rfl,⟨h1,h2,h3⟩,C2v _⟩
theorem K2(c:B5)(n:Int)(h:Cur c)(hn:0<n∧n<9223372036854775808):∃ r c',C1 c n=some (r,c',())∧Cur c'∧0≤r∧r<n:=by
  simp only [C1,B0O]
  rw [A3 (show ¬ n≤0 by omega)]
  have hz:(n == 0)=false:=by simp;omega
  simp only [cond_false,hz]
  by_cases h1:n≤256
  · rw [A0 h1]
    obtain ⟨r,c',e,hc,hr⟩:=A7K c h
    simp only [cond_true,e,A4]
    refine ⟨_,_,rfl,hc,?_⟩
    rw [Int.tmod_eq_emod_of_nonneg hr.1]
    exact ⟨Int.emod_nonneg _ (by omega),Int.emod_lt_of_pos _ (by omega)⟩
  · rw [A3 h1]
    obtain ⟨r1,c1,e1,hc1,hr1⟩:=A7K c h
    obtain ⟨r2,c2,e2,hc2,hr2⟩:=A7K c1 hc1
    obtain ⟨r3,c3,e3,hc3,hr3⟩:=A7K c2 hc2
    simp only [cond_false,e1,e2,e3,A4]
    refine ⟨_,_,rfl,hc3,?_⟩
    rw [w64 (n:=r1*65536) (by omega) (by omega),w64 (n:=r2*256) (by omega) (by omega),w64 (n:=r1*65536+r2*256) (by omega) (by omega),w64 (n:=r1*65536+r2*256+r3) (by omega) (by omega)]
    rw [Int.tmod_eq_emod_of_nonneg (by omega)]
    exact ⟨Int.emod_nonneg _ (by omega),Int.emod_lt_of_pos _ (by omega)⟩
theorem A7L(c:B5)(xs:List ByteArray)(h:Cur c)(hx:0<xs.length∧xs.length≤1048576):∃ s c',X9 c xs=some (s,c',())∧Cur c'∧s∈xs:=by
  obtain ⟨r,c',e,hc,h0,h1⟩:=K2 c (xs.length:Int) h (by omega)
  simp only [X9,B4Z,e,A4,A0 h0,A0 h1,cond_true]
  refine ⟨_,_,rfl,hc,?_⟩
  obtain ⟨n,rfl⟩:∃ n:Nat,r=(n:Int):=⟨r.toNat,by omega⟩
  rw [A3V (by omega)]
  exact List.getElem_mem _
theorem O1(c:B5)(xs:List Int)(h:Cur c)(hx:0<xs.length∧xs.length≤1048576):∃ s c',J9 c xs=some (s,c',())∧Cur c'∧s∈xs:=by
  obtain ⟨r,c',e,hc,h0,h1⟩:=K2 c (xs.length:Int) h (by omega)
  simp only [J9,B4U,e,A4,A0 h0,A0 h1,cond_true]
  refine ⟨_,_,rfl,hc,?_⟩
  obtain ⟨n,rfl⟩:∃ n:Nat,r=(n:Int):=⟨r.toNat,by omega⟩
  rw [B7y (by omega)]
  exact List.getElem_mem _
theorem wrap_u8(x:Int):0≤IntKind.u8.wrap x∧IntKind.u8.wrap x<256:=by
  simp only [IntKind.wrap,IntKind.bits,IntKind.signed]
  simp
  omega
theorem A5m(c:B5)(n:Int)(h:Cur c)(hn:0≤n∧n≤1048576):∃ b c',H8 c n=some (b,c',())∧Cur c'∧(List.length b:Int)=n∧Byt b:=by
  simp only [H8,A3U]
  obtain ⟨z,e,hz⟩:=A0P (A1p A0e n) (fun l=>(n-l.1).toNat) (fun l=>0≤l.1∧l.1≤n∧Cur (l.2.1,l.2.2.1,l.2.2.2.1)∧(List.length l.2.2.2.2.1:Int)=l.1∧Byt l.2.2.2.2.1)
    (fun z=>Cur z.2.1∧(List.length z.1:Int)=n∧Byt z.1) (fun l hl=>by
      obtain ⟨h0,h1,hc,hlen,hb⟩:=hl
      simp only [A1p]
      by_cases hi:l.1<n
      · obtain ⟨r,c',e,hc',hr⟩:=A7K _ hc
        refine .inl ⟨(l.1+1,c'.1,c'.2.1,c'.2.2,l.2.2.2.2.1 ++ [IntKind.u8.wrap r],()),?_,⟨by simp only;omega,by simp only;omega,hc',by simp;omega,?_⟩,by simp only;omega⟩
        · rw [A0 hi,e]
          simp only [cond_true,A4]
          rw [A0 (by simp;omega),A0 (by simp;omega),w64 (by omega) (by omega)]
          rfl
        · intro x hx
          rcases List.mem_append.1 hx with hx | hx
          · exact hb x hx
          · rw [List.mem_singleton.1 hx];exact wrap_u8 _
      · rw [A3 hi]
        exact .inr ⟨_,rfl,hc,by simp only;omega,hb⟩) (0,c.1,c.2.1,c.2.2,[],()) ⟨by simp,hn.1,h,by simp,fun x hx=>by cases hx⟩
  exact ⟨z.1,z.2.1,e,hz⟩
theorem C9r(a:List Int)(h:a.length≤1048576):∃ c,A7D a=some (c,())∧Cur c:=by
  simp only [A7D,B4T]
  obtain ⟨z,e,_⟩:=A0P (B0N a) (fun l=>((a.length:Int)-l.2.1).toNat) (fun l=>0≤l.2.1) (fun _=>True) (fun l hl=>by
    simp only [B0N]
    by_cases hi:l.2.1<(a.length:Int)
    · by_cases h4:l.2.1<4000
      · rw [A0 hi,A0 h4]
        simp only [cond_true,B7]
        rw [A0 hl,w64 (n:=l.2.1+1) (by omega) (by omega)]
        exact .inl ⟨_,rfl,by simp only;omega,by simp only;omega⟩
      · rw [A0 hi,A3 h4]
        exact .inr ⟨_,rfl,trivial⟩
    · rw [A3 hi]
      exact .inr ⟨_,rfl,trivial⟩) (IntKind.i64.wrap (369369+(a.length:Int)),0,()) (by simp)
  rw [e]
  exact ⟨_,rfl,h,by simp,by simp⟩
def N3(r:E9):Bool:=
  decide (0≤r.1∧r.1≤10000)&&decide (0≤r.2.1∧r.2.1≤199)&&idB r.2.2.2.1 &&
  (if r.2.2.1=1 then decide (0≤r.2.2.2.2.1∧r.2.2.2.2.1≤1000000000)&&decide ((List.length r.2.2.2.2.2:Int)=0)
   else if r.2.2.1=2 then decide (0≤r.2.2.2.2.1∧r.2.2.2.2.1≤1000000000)&&decide (1≤(List.length r.2.2.2.2.2:Int)∧(List.length r.2.2.2.2.2:Int)≤24)
   else if r.2.2.1=3∨r.2.2.1=4 then decide (r.2.2.2.2.1=0)&&decide ((List.length r.2.2.2.2.2:Int)=0) else false)
theorem C4r(r:E9)(h:r.2.2.2.1.size≤maxLen):A7E r=some (N3 r,()):=by
  simp only [A7E,B4W,A7J _ h,A1e,A4,N3]
  cases decide (0≤r.1∧r.1≤10000)
  · rfl
  cases decide (0≤r.2.1∧r.2.1≤199)
  · rfl
  cases idB r.2.2.2.1
  · rfl
  simp only [Bool.not_true,cond_false,B7,Bool.true_and]
  by_cases h1:r.2.2.1=1
  · rw [A0 h1,if_pos h1]
    cases decide (0≤r.2.2.2.2.1∧r.2.2.2.2.1≤1000000000)<;>rfl
  rw [A3 h1,if_neg h1]
  by_cases h2:r.2.2.1=2
  · rw [A0 h2,if_pos h2]
    cases decide (0≤r.2.2.2.2.1∧r.2.2.2.2.1≤1000000000)<;>rfl
  rw [A3 h2,if_neg h2]
  by_cases h3:r.2.2.1=3
  · rw [A0 h3,if_pos (.inl h3)]
    cases decide (r.2.2.2.2.1=0)<;>rfl
  rw [A3 h3]
  by_cases h4:r.2.2.1=4
  · rw [A0 h4,if_pos (.inr h4)]
    cases decide (r.2.2.2.2.1=0)<;>rfl
  rw [A3 h4,if_neg (by omega)]
  rfl
theorem B85(r:E9)(h:r.2.2.2.1.size≤maxLen):A3M r=some (N3 r,()):=by
  simp only [A3M,B4a,A0h,A6N,B1S _ h,A0m,A4,N3]
  cases decide (0≤r.1∧r.1≤10000)
  · rfl
  cases decide (0≤r.2.1∧r.2.1≤199)
  · rfl
  by_cases hk:1≤r.2.2.1∧r.2.2.1≤4
  · rw [A0 hk]
    cases idB r.2.2.2.1
    · rfl
    simp only [Bool.not_true,cond_false,B7,Bool.true_and]
    by_cases h1:r.2.2.1=1
    · rw [A0 h1,if_pos h1]
      cases decide (0≤r.2.2.2.2.1∧r.2.2.2.2.1≤1000000000)<;>rfl
    rw [A3 h1,if_neg h1]
    by_cases h2:r.2.2.1=2
    · rw [A0 h2,if_pos h2]
      cases decide (0≤r.2.2.2.2.1∧r.2.2.2.2.1≤1000000000)<;>rfl
    rw [A3 h2,if_neg h2,if_pos (by omega)]
    cases decide (r.2.2.2.2.1=0)<;>rfl
  · rw [A3 hk,if_neg (by omega),if_neg (by omega),if_neg (by omega)]
    cases idB r.2.2.2.1<;>rfl
theorem Y4{r:E9}(h:N3 r=true):0≤r.1∧r.1≤10000∧1≤r.2.2.1∧r.2.2.1≤4∧r.2.2.2.1.size≤8∧0≤r.2.2.2.2.1∧r.2.2.2.2.1≤1000000000∧List.length r.2.2.2.2.2≤24:=by
  simp only [N3,idB,Bool.and_eq_true,decide_eq_true_eq] at h
  obtain ⟨⟨⟨h1,h2⟩,h3,h4⟩,h5⟩:=h
  split at h5
  · simp only [Bool.and_eq_true,decide_eq_true_eq] at h5;omega
  · split at h5
    · simp only [Bool.and_eq_true,decide_eq_true_eq] at h5;omega
    · split at h5
      · simp only [Bool.and_eq_true,decide_eq_true_eq] at h5;omega
      · cases h5
theorem C1R{a b:List Int}(ha:Byt a)(hb:Byt b):Byt (a++b):=fun x hx=>(List.mem_append.1 hx).elim (ha x) (hb x)
theorem C6i(n:Int)(k:Nat):Byt (big n k):=by
  intro x hx
  obtain ⟨j,_,rfl⟩:=List.mem_map.1 hx
  exact wrap_u8 _
theorem A6S(s:ByteArray):Byt (bytesOf s):=by
  intro x hx
  obtain ⟨b,_,rfl⟩:=List.mem_map.1 hx
  have:=b.toNat_lt
  omega
theorem Q1:Byt []:=fun x hx=>by cases hx
theorem B0a{a:List Int}(h:Byt a)(i:Nat):Byt (a.drop i):=fun x hx=>h x (List.mem_of_mem_drop hx)
def A9p(r:E9):List Int:=
  big (Y3 r.1) 3++big (Y3 r.2.1) 2++big (Y3 r.2.2.1) 1++big (Y3 (r.2.2.2.1.size:Int)) 1++bytesOf r.2.2.2.1++big (Y3 r.2.2.2.2.1) 4++big (Y3 (List.length r.2.2.2.2.2:Int)) 1++r.2.2.2.2.2
def D21(b:List Int):Int:=((A46 b ^^^ 4294967295:Nat):Int)
def S0(r:E9):ByteArray:=strOf (A9p r++big (Y3 (D21 (A9p r))) 4)
theorem B0b(r:E9):(A9p r).length=12+r.2.2.2.1.size+List.length r.2.2.2.2.2:=by
  simp only [A9p,List.length_append,I5,bytesOf_length]
  omega
theorem B86(r:E9)(h:Byt r.2.2.2.2.2):Byt (A9p r):=by
  unfold A9p
  repeat' first | apply C1R | apply C6i | apply A6S | exact h
theorem B5a(r:E9)(h1:r.2.2.2.1.size≤10000000)(h2:List.length r.2.2.2.2.2≤10000000)(hb:Byt r.2.2.2.2.2):A1i r=some (S0 r,()):=by
  have hlen:=B0b r
  simp only [A1i,B2X]
  rw [show (3:Int)=((3:Nat):Int) from rfl,A0n [] _ 3 (by omega) (by omega) (by simp)]
  simp only [A4,List.nil_append]
  rw [show (2:Int)=((2:Nat):Int) from rfl,A0n _ _ 2 (by omega) (by omega) (by simp [I5])]
  simp only
  rw [show (1:Int)=((1:Nat):Int) from rfl,A0n _ _ 1 (by omega) (by omega) (by simp [I5])]
  simp only
  rw [A0n _ _ 1 (by omega) (by omega) (by simp [I5])]
  simp only
  rw [A0 (by simp [I5];omega)]
  simp only [cond_true]
  rw [show (4:Int)=((4:Nat):Int) from rfl,A0n _ _ 4 (by omega) (by omega) (by simp [I5,bytesOf_length];omega)]
  simp only
  rw [A0n _ _ 1 (by omega) (by omega) (by simp [I5,bytesOf_length];omega)]
  simp only
  rw [A0 (by simp [I5,bytesOf_length];omega),A0 (by simp [I5,bytesOf_length];omega)]
  simp only [cond_true]
  have e:big (Y3 r.1) 3++big (Y3 r.2.1) 2++big (Y3 r.2.2.1) 1++big (Y3 (r.2.2.2.1.size:Int)) 1++bytesOf r.2.2.2.1++big (Y3 r.2.2.2.2.1) 4++big (Y3 (List.length r.2.2.2.2.2:Int)) 1++r.2.2.2.2.2=A9p r:=rfl
  rw [e,B0Y _ (B86 r hb) (by rw [hlen];simp only [maxLen];omega)]
  simp only
  rw [A0n _ _ 4 (by omega) (by omega) (by rw [hlen];omega)]
  rfl
theorem C1S(n:Int):big n 1 = [IntKind.u8.wrap n]:=by
  simp [big,B80]
theorem A2b{n:Int}(h:0≤n):Y3 n=n:=by unfold Y3;rw [if_neg (by omega)]
theorem B5b(r:E9)(h1:r.2.2.2.1.size≤maxLen)(hb:Byt r.2.2.2.2.2):A1m r=some (if N3 r then S0 r else ⟨#[]⟩,()):=by
  simp only [A1m,B2f,B85 r h1]
  cases hr:N3 r with
  | false=>rfl
  | true=>
    have hbd:=Y4 hr
    have hlen:=B0b r
    simp only [A4,Bool.not_true,cond_false]
    rw [show (3:Int)=((3:Nat):Int) from rfl,A6R [] _ 3 (by omega) (by simp)]
    simp only [List.nil_append]
    rw [show (2:Int)=((2:Nat):Int) from rfl,A6R _ _ 2 (by omega) (by simp [I5])]
    simp only
    rw [A0 (by simp [I5]),A0 (by simp [I5])]
    simp only [cond_true]
    rw [A0 (by simp [I5];omega)]
    simp only [cond_true]
    rw [show (4:Int)=((4:Nat):Int) from rfl,A6R _ _ 4 (by omega) (by simp [I5,bytesOf_length];omega)]
    simp only
    rw [A0 (by simp [I5,bytesOf_length];omega),A0 (by simp [I5,bytesOf_length];omega)]
    simp only [cond_true]
    rw [A0 (by simp [I5,bytesOf_length];omega),A0 (by simp [I5,bytesOf_length];omega)]
    simp only [cond_true]
    have e:big (Y3 r.1) 3++big (Y3 r.2.1) 2 ++ [IntKind.u8.wrap r.2.2.1,IntKind.u8.wrap (r.2.2.2.1.size:Int)]++bytesOf r.2.2.2.1++big (Y3 r.2.2.2.2.1) 4 ++ [IntKind.u8.wrap (List.length r.2.2.2.2.2:Int)]++r.2.2.2.2.2=A9p r:=by
      unfold A9p
      rw [C1S,C1S,C1S,A2b (n:=r.2.2.1) (by omega),A2b (n:=(r.2.2.2.1.size:Int)) (by omega),A2b (n:=(List.length r.2.2.2.2.2:Int)) (by omega)]
      simp [List.append_assoc]
    rw [e,C2q _ (B86 r hb) (by rw [hlen];simp only [maxLen];omega)]
    simp only
    rw [A6R _ _ 4 (by omega) (by rw [hlen];omega)]
    rfl
def C4(b:List Int):Nat:=U1 b 6 1
def M5(b:List Int):Nat:=U1 b (11+C4 b) 1
def recAt(b:List Int):E9:=((U1 b 0 3:Int),(U1 b 3 2:Int),(U1 b 5 1:Int),strOf ((b.take (7+C4 b)).drop 7),(U1 b (7+C4 b) 4:Int),(b.take (12+C4 b+M5 b)).drop (12+C4 b))
def C6j:E9×Bool×Unit:=((0,0,0,⟨#[]⟩,0,[]),false,())
def A6T(s:ByteArray):Bool:=decide (12+C4 (bytesOf s)+M5 (bytesOf s)≤s.size)&&N3 (recAt (bytesOf s))&&((S0 (recAt (bytesOf s))).toList == s.toList)
def C2(s:ByteArray):E9×Bool×Unit:=if A6T s=true then (recAt (bytesOf s),true,()) else C6j
theorem A3X(b:List Int)(a k:Nat)(h:a+k≤b.length):A3W b (a:Int) k=((U1 b a k:Int),true,()):=by
  unfold A3W
  rw [if_pos (by omega),Int.toNat_natCast]
theorem B4g(b:List Int)(a k:Nat)(h:¬ a+k≤b.length):A3W b (a:Int) k=(0,false,()):=by
  unfold A3W
  rw [if_neg (by omega)]
theorem B7B{b:List Int}(hb:Byt b)(a:Nat):U1 b a 1<256:=by
  have:=C1Q hb a 1
  omega
theorem C0P(b:List Int)(h:12+C4 b+M5 b≤b.length):(recAt b).2.2.2.1.size=C4 b∧List.length (recAt b).2.2.2.2.2=M5 b:=by
  simp only [recAt,A8m,List.length_drop,List.length_take]
  omega
theorem B4h{b:List Int}(hb:Byt b):Byt (recAt b).2.2.2.2.2:=B0a (A5l hb _) _
theorem A48(s:ByteArray)(hs:s.size≤1048576):I2 s=some (C2 s):=by
  have hbl:=bytesOf_length s
  have hb:=A6S s
  have hh:(bytesOf s).length≤1048576:=by omega
  have hsz:s.size=(bytesOf s).length:=hbl.symm
  simp only [C2,A6T,hsz]
  have hlen:decide ((bytesOf s).length≤9223372036854775807)=true:=A0 (by omega)
  simp only [I2,B2Y,hsz,hlen,cond_true]
  clear hlen hsz
  generalize bytesOf s=b at hb hh ⊢
  clear hbl
  have g0:∀ (a:Int) (k:Nat) (k':Int),k' = (k:Int)→1≤k∧k≤7→A3F b a k' = some (A3W b a k):=fun a k k' e hk=>by rw [e];exact C2u b hb hh a k hk
  have q0:=g0 0 3 3 rfl (by omega)
  have q3:=g0 3 2 2 rfl (by omega)
  have q5:=g0 5 1 1 rfl (by omega)
  have q6:=g0 6 1 1 rfl (by omega)
  simp only [q0,q3,q5,q6]
  by_cases c1:7≤b.length
  · have e0:=A3X b 0 3 (by omega)
    have e3:=A3X b 3 2 (by omega)
    have e5:=A3X b 5 1 (by omega)
    have e6:=A3X b 6 1 (by omega)
    simp only [Int.cast_ofNat_Int] at e0 e3 e5 e6
    have hn:=B7B hb 6
    have hN:(U1 b 6 1:Int)=((C4 b:Nat):Int):=rfl
    have hn':C4 b<256:=hn
    simp only [e0,e3,e5,e6,A4,Bool.not_true,cond_false,hN]
    rw [w64 (n:=7+(C4 b:Int)) (by omega) (by omega),w64 (n:=11+(C4 b:Int)) (by omega) (by omega),w64 (n:=12+(C4 b:Int)) (by omega) (by omega)]
    by_cases c2:7+C4 b≤b.length
    · rw [A3 (show ¬ 7+(C4 b:Int)>(b.length:Int) by omega)]
      simp only [cond_false,B7]
      rw [A0 (show 7≤7+(C4 b:Int) by omega),A0 (show 7+(C4 b:Int)≤(b.length:Int) by omega)]
      simp only [cond_true]
      have q7:=g0 (7+(C4 b:Int)) 4 4 rfl (by omega)
      have q11:=g0 (11+(C4 b:Int)) 1 1 rfl (by omega)
      simp only [q7,q11]
      by_cases c3:12+C4 b≤b.length
      · have e7:=A3X b (7+C4 b) 4 (by omega)
        have e11:=A3X b (11+C4 b) 1 (by omega)
        simp only [Int.natCast_add,Int.cast_ofNat_Int] at e7 e11
        have hm:M5 b<256:=B7B hb _
        have hM:(U1 b (11+C4 b) 1:Int)=((M5 b:Nat):Int):=rfl
        simp only [e7,e11,Bool.not_true,cond_false,hM]
        rw [w64 (n:=12+(C4 b:Int)+(M5 b:Int)) (by omega) (by omega)]
        by_cases c4:12+C4 b+M5 b≤b.length
        · rw [A3 (show ¬ 12+(C4 b:Int)+(M5 b:Int)>(b.length:Int) by omega),A0 (show 0≤12+(C4 b:Int) by omega),A0 (show 12+(C4 b:Int)≤12+(C4 b:Int)+(M5 b:Int) by omega),A0 (show 12+(C4 b:Int)+(M5 b:Int)≤(b.length:Int) by omega)]
          simp only [cond_true,cond_false]
          rw [A0 (by simp;omega),A0 (by simp;omega)]
          have t1:(7+(C4 b:Int)).toNat=7+C4 b:=by omega
          have t2:(12+(C4 b:Int)+(M5 b:Int)).toNat=12+C4 b+M5 b:=by omega
          have t3:(12+(C4 b:Int)).toNat=12+C4 b:=by omega
          simp only [cond_true,List.nil_append,t1,t2,t3]
          have hr:(((U1 b 0 3:Nat):Int),((U1 b 3 2:Nat):Int),((U1 b 5 1:Nat):Int),strOf ((b.take (7+C4 b)).drop 7),((U1 b (7+C4 b) 4:Nat):Int),(b.take (12+C4 b+M5 b)).drop (12+C4 b))=recAt b:=rfl
          obtain ⟨l1,l2⟩:=C0P b c4
          rw [hr,C4r _ (by rw [l1];simp only [maxLen];omega),B5a _ (by rw [l1];omega) (by rw [l2];omega) (B4h hb)]
          rw [A0 c4]
          simp only [Bool.true_and]
          cases N3 (recAt b)
          · rfl
          · cases hp:((S0 (recAt b)).toList == s.toList)
            · rfl
            · rfl
        · rw [A0 (show 12+(C4 b:Int)+(M5 b:Int)>(b.length:Int) by omega),A3 c4]
          rfl
      · have e11:=B4g b (11+C4 b) 1 (by omega)
        simp only [Int.natCast_add,Int.cast_ofNat_Int] at e11
        simp only [e11]
        rw [A3 (show ¬ 12+C4 b+M5 b≤b.length by omega)]
        cases (A3W b (7+(C4 b:Int)) 4).2.1<;>rfl
    · rw [A0 (show 7+(C4 b:Int)>(b.length:Int) by omega),A3 (show ¬ 12+C4 b+M5 b≤b.length by omega)]
      rfl
  · have e6:=B4g b 6 1 (by omega)
    simp only [Int.cast_ofNat_Int] at e6
    rw [A3 (show ¬ 12+C4 b+M5 b≤b.length by omega)]
    simp only [e6,A4]
    cases (A3W b 0 3).2.1<;>cases (A3W b 3 2).2.1<;>cases (A3W b 5 1).2.1<;>rfl
theorem A08{b:List Int}(hb:Byt b)(hh:b.length≤1048576)(a k:Nat)(k':Int)(e:k' = (k:Int))(hk:1≤k∧k≤7)(h:a+k≤b.length):C3 (b,(a:Int),false) k' = some ((U1 b a k:Int),(b,((a+k:Nat):Int),false),()):=by
  subst e
  simp only [C3,N8,B0Z b hb hh _ k hk,A3X b a k h,A4,B7,Bool.not_true,cond_false]
  rw [w64 (by omega) (by omega)]
  rfl
theorem A5E{b:List Int}(hb:Byt b)(hh:b.length≤1048576)(a k:Nat)(k':Int)(e:k' = (k:Int))(hk:1≤k∧k≤7)(h:¬ a+k≤b.length):C3 (b,(a:Int),false) k' = some (0,(b,(a:Int),true),()):=by
  subst e
  simp only [C3,N8,B0Z b hb hh _ k hk,B4g b a k h,A4,B7,Bool.not_false,cond_false,cond_true]
theorem D12{b:List Int}(hb:Byt b)(hh:b.length≤1048576)(a:Int)(k:Nat)(k':Int)(e:k' = (k:Int))(hk:1≤k∧k≤7):C3 (b,a,true) k' = some (0,(b,a,true),()):=by
  subst e
  simp only [C3,N8,B0Z b hb hh _ k hk,A4,B7,cond_true]
theorem C9s(b:List Int)(a n:Int):G0 (b,a,true) n=some ([],(b,a,true),()):=by
  simp only [G0,R3,cond_true,B7]
theorem B4i{b:List Int}(hh:b.length≤1048576)(a n:Nat)(h:a+n≤b.length):G0 (b,(a:Int),false) (n:Int)=some ((b.take (a+n)).drop a,(b,((a+n:Nat):Int),false),()):=by
  simp only [G0,R3,cond_false]
  rw [w64 (n:=(b.length:Int)-(a:Int)) (by omega) (by omega),A3 (by omega),w64 (n:=(a:Int)+(n:Int)) (by omega) (by omega),w64 (n:=(a:Int)+(n:Int)-(n:Int)) (by omega) (by omega)]
  simp only [cond_false,B7]
  rw [A0 (by omega),A0 (by omega),A0 (by omega)]
  simp only [cond_true]
  rw [B22 _ (by simp;omega),show ((a:Int)+(n:Int)).toNat=a+n by omega,show ((a:Int)+(n:Int)-(n:Int)).toNat=a by omega]
  rfl
theorem B87{b:List Int}(hh:b.length≤1048576)(a n:Nat)(ha:a≤b.length)(h:¬ a+n≤b.length):G0 (b,(a:Int),false) (n:Int)=some ([],(b,(a:Int),true),()):=by
  simp only [G0,R3,cond_false]
  rw [w64 (n:=(b.length:Int)-(a:Int)) (by omega) (by omega),A0 (by omega)]
  rfl
theorem B0c(s:ByteArray)(hs:s.size≤1048576):A00 s=some (C2 s):=by
  have hbl:=bytesOf_length s
  have hb:=A6S s
  have hh:(bytesOf s).length≤1048576:=by omega
  have hsz:s.size=(bytesOf s).length:=hbl.symm
  simp only [C2,A6T,hsz]
  have hlen:decide ((bytesOf s).length≤9223372036854775807)=true:=A0 (by omega)
  simp only [A00,B2g,hsz,hlen,cond_true]
  clear hlen hsz
  generalize bytesOf s=b at hb hh ⊢
  clear hbl
  have nb:∀ (a:Int) (k:Nat) (k':Int),k' = (k:Int)→1≤k∧k≤7→C3 (b,a,true) k' = some (0,(b,a,true),()):=fun a k k' e hk=>D12 hb hh a k k' e hk
  have nb1:∀ a:Int,C3 (b,a,true) 1=some (0,(b,a,true),()):=fun a=>nb a 1 1 rfl (by omega)
  have nb2:∀ a:Int,C3 (b,a,true) 2=some (0,(b,a,true),()):=fun a=>nb a 2 2 rfl (by omega)
  have nb4:∀ a:Int,C3 (b,a,true) 4=some (0,(b,a,true),()):=fun a=>nb a 4 4 rfl (by omega)
  have tb:=C9s b
  have z0:((0:Int),false)=(((0:Nat):Int),false):=rfl
  rw [z0]
  by_cases c4:12+C4 b+M5 b≤b.length
  · have hn':C4 b<256:=B7B hb _
    have hm':M5 b<256:=B7B hb _
    have hN:(U1 b 6 1:Int)=((C4 b:Nat):Int):=rfl
    have hM:(U1 b (11+C4 b) 1:Int)=((M5 b:Nat):Int):=rfl
    rw [A08 hb hh 0 3 3 rfl (by omega) (by omega)]
    simp only [A4]
    rw [A08 hb hh (0+3) 2 2 rfl (by omega) (by omega)]
    simp only
    rw [A08 hb hh (0+3+2) 1 1 rfl (by omega) (by omega)]
    simp only
    rw [A08 hb hh (0+3+2+1) 1 1 rfl (by omega) (by omega)]
    simp only [Nat.zero_add,Nat.reduceAdd,hN]
    rw [B4i hh 7 (C4 b) (by omega)]
    simp only
    rw [A08 hb hh (7+C4 b) 4 4 rfl (by omega) (by omega)]
    simp only
    rw [A08 hb hh (7+C4 b+4) 1 1 rfl (by omega) (by omega)]
    simp only
    rw [show 7+C4 b+4=11+C4 b by omega,hM,show 11+C4 b+1=12+C4 b by omega,B4i hh (12+C4 b) (M5 b) (by omega)]
    simp only [cond_false]
    have hr:(((U1 b 0 3:Nat):Int),((U1 b 3 2:Nat):Int),((U1 b 5 1:Nat):Int),strOf ((b.take (7+C4 b)).drop 7),((U1 b (7+C4 b) 4:Nat):Int),(b.take (12+C4 b+M5 b)).drop (12+C4 b))=recAt b:=rfl
    obtain ⟨l1,l2⟩:=C0P b c4
    rw [hr,B85 _ (by rw [l1];simp only [maxLen];omega),B5b _ (by rw [l1];simp only [maxLen];omega) (B4h hb)]
    rw [A0 c4]
    simp only [Bool.true_and]
    cases N3 (recAt b)
    · rfl
    · cases hp:((S0 (recAt b)).toList == s.toList)
      · simp [hp];rfl
      · simp [hp]
  · rw [A3 c4]
    have fin:(if (false&&N3 (recAt b)&&((S0 (recAt b)).toList == s.toList))=true then (recAt b,true,()) else C6j)=C6j:=by simp
    rw [fin]
    rcases Nat.lt_or_ge b.length (0+3) with d3 | d3
    · rw [A5E hb hh 0 3 3 rfl (by omega) (by omega)]
      simp only [A4,nb1,nb2,nb4,tb]
      rfl
    rw [A08 hb hh 0 3 3 rfl (by omega) d3]
    simp only [A4]
    rcases Nat.lt_or_ge b.length (0+3+2) with d5 | d5
    · rw [A5E hb hh (0+3) 2 2 rfl (by omega) (by omega)]
      simp only [nb1,nb2,nb4,tb]
      rfl
    rw [A08 hb hh (0+3) 2 2 rfl (by omega) d5]
    simp only
    rcases Nat.lt_or_ge b.length (0+3+2+1) with d6 | d6
    · rw [A5E hb hh (0+3+2) 1 1 rfl (by omega) (by omega)]
      simp only [nb1,nb2,nb4,tb]
      rfl
    rw [A08 hb hh (0+3+2) 1 1 rfl (by omega) d6]
    simp only
    rcases Nat.lt_or_ge b.length (0+3+2+1+1) with d7 | d7
    · rw [A5E hb hh (0+3+2+1) 1 1 rfl (by omega) (by omega)]
      simp only [nb1,nb2,nb4,tb]
      rfl
    rw [A08 hb hh (0+3+2+1) 1 1 rfl (by omega) d7]
    have hN:(U1 b 6 1:Int)=((C4 b:Nat):Int):=rfl
    have hM:(U1 b (11+C4 b) 1:Int)=((M5 b:Nat):Int):=rfl
    simp only [Nat.zero_add,Nat.reduceAdd,hN]
    rcases Nat.lt_or_ge b.length (7+C4 b) with e7 | e7
    · rw [B87 hh 7 (C4 b) (by omega) (by omega)]
      simp only [nb1,nb2,nb4,tb]
      rfl
    rw [B4i hh 7 (C4 b) e7]
    simp only
    rcases Nat.lt_or_ge b.length (7+C4 b+4) with e11 | e11
    · rw [A5E hb hh (7+C4 b) 4 4 rfl (by omega) (by omega)]
      simp only [nb1,nb2,nb4,tb]
      rfl
    rw [A08 hb hh (7+C4 b) 4 4 rfl (by omega) e11]
    simp only
    rcases Nat.lt_or_ge b.length (7+C4 b+4+1) with e12 | e12
    · rw [A5E hb hh (7+C4 b+4) 1 1 rfl (by omega) (by omega)]
      simp only [nb1,nb2,nb4,tb]
      rfl
    rw [A08 hb hh (7+C4 b+4) 1 1 rfl (by omega) e12]
    simp only
    rw [show 7+C4 b+4=11+C4 b by omega,hM,show 11+C4 b+1=12+C4 b by omega,B87 hh (12+C4 b) (M5 b) (by omega) c4]
    rfl
theorem A5F:∀ x:List UInt8,Op.bytesLess x x=false
  | []=>rfl
  | a::x=>by
    have h:¬ a<a:=UInt8.lt_irrefl a
    simp [Op.bytesLess,A5F x,h]
theorem B3R:∀ {x y z:List UInt8},Op.bytesLess x y=true→Op.bytesLess y z=true→Op.bytesLess x z=true
  | _,[],_,h,_=>by cases ‹List UInt8›<;>simp [Op.bytesLess] at h
  | _,_::_,[],_,h=>by simp [Op.bytesLess] at h
  | [],_::_,_::_,_,_=>rfl
  | a::x,b::y,c::z,h1,h2=>by
    simp only [Op.bytesLess,Bool.or_eq_true,Bool.and_eq_true,decide_eq_true_eq,beq_iff_eq] at h1 h2 ⊢
    rcases h1 with h1 | ⟨rfl,h1⟩
    · rcases h2 with h2 | ⟨rfl,h2⟩
      · exact .inl (UInt8.lt_trans h1 h2)
      · exact .inl h1
    · rcases h2 with h2 | ⟨rfl,h2⟩
      · exact .inl h2
      · exact .inr ⟨rfl,B3R h1 h2⟩
theorem C2w:∀ {x y:List UInt8},Op.bytesLess x y=false→Op.bytesLess y x=false→x=y
  | [],[],_,_=>rfl
  | [],_::_,h,_=>by simp [Op.bytesLess] at h
  | _::_,[],_,h=>by simp [Op.bytesLess] at h
  | a::x,b::y,h1,h2=>by
    simp only [Op.bytesLess,Bool.or_eq_false_iff,decide_eq_false_iff_not,Bool.and_eq_false_iff,beq_eq_false_iff_ne] at h1 h2
    have hab:a=b:=by
      apply UInt8.le_antisymm
      · exact UInt8.not_lt.1 h2.1
      · exact UInt8.not_lt.1 h1.1
    subst hab
    exact congrArg (a::·) (C2w (by simpa using h1.2) (by simpa using h2.2))
theorem C9t{x y:List UInt8}(h:Op.bytesLess x y=true):Op.bytesLess y x=false:=by
  cases e:Op.bytesLess y x with
  | false=>rfl
  | true=>have:=B3R h e;rw [A5F] at this;cases this
def Ord(us:List TUp):Prop:=us.Pairwise fun a b=>Op.bytesLess a.1.toList b.1.toList=true
theorem C1T{us:List TUp}(h:Ord us){i j:Nat}(hij:i<j)(hj:j<us.length):Op.bytesLess (us[i]'(by omega)).1.toList us[j].1.toList=true:=List.pairwise_iff_getElem.1 h i j (by omega) hj hij
def A8(us:List TUp)(id:ByteArray):Nat:=P4 (fun i=>Op.bytesLess (rd kUp us (i:Int)).1.toList id.toList) 0 us.length
def F3(us:List TUp)(id:ByteArray):Bool:=decide (A8 us id<us.length)&&((rd kUp us (A8 us id:Int)).1.toList == id.toList)
theorem A6U(go:Nat→Bool):∀ k i j,i≤j→j<P4 go i k→go j=true
  | 0,i,j,h1,h2=>by simp only [P4] at h2;omega
  | k+1,i,j,h1,h2=>by
    simp only [P4] at h2
    split at h2
    · rename_i hg
      by_cases e:j=i
      · rw [e];exact hg
      · exact A6U go k (i+1) j (by omega) h2
    · omega
theorem A6V(go:Nat→Bool)(n p:Nat)(hp:p≤n)(h1:∀ j,j<p→go j=true)(h2:p<n→go p=false):P4 go 0 n=p:=by
  have hl:=B4d go n 0
  rcases Nat.lt_trichotomy (P4 go 0 n) p with h | h | h
  · have:=A52 go n 0 (by omega)
    rw [h1 _ h] at this;cases this
  · exact h
  · have:=A6U go n 0 p (by omega) h
    rw [h2 (by omega)] at this;cases this
theorem A49(us:List TUp)(id:ByteArray):A8 us id≤us.length:=by have:=B4d (fun i=>Op.bytesLess (rd kUp us (i:Int)).1.toList id.toList) us.length 0;unfold A8;omega
theorem B0d{us:List TUp}{id:ByteArray}{j:Nat}(hj:j<A8 us id):Op.bytesLess (us[j]'(by have:=A49 us id;omega)).1.toList id.toList=true:=by
  have:=A6U _ us.length 0 j (by omega) hj
  rwa [E3 (k:=kUp) (xs:=us) (by have:=A49 us id;omega)] at this
theorem B3S{us:List TUp}{id:ByteArray}(h:A8 us id<us.length):Op.bytesLess us[A8 us id].1.toList id.toList=false:=by
  have:=A52 (fun i=>Op.bytesLess (rd kUp us (i:Int)).1.toList id.toList) us.length 0 (by unfold A8 at h;omega)
  have h2:Op.bytesLess (rd kUp us (A8 us id:Int)).1.toList id.toList=false:=this
  rwa [E3 (k:=kUp) (xs:=us) h] at h2
theorem C9u{us:List TUp}(ho:Ord us){id:ByteArray}{j:Nat}(hj:A8 us id≤j)(hl:j<us.length):Op.bytesLess us[j].1.toList id.toList=false:=by
  rcases Nat.eq_or_lt_of_le hj with e | h
  · subst e;exact B3S hl
  · cases e:Op.bytesLess us[j].1.toList id.toList with
    | false=>rfl
    | true=>
      have:=B3R (C1T ho h hl) e
      rw [B3S (by omega)] at this
      cases this
theorem G4{us:List TUp}{id:ByteArray}:F3 us id=true↔∃ h:A8 us id<us.length,us[A8 us id].1.toList=id.toList:=by
  unfold F3
  constructor
  · intro h
    simp only [Bool.and_eq_true,decide_eq_true_eq,beq_iff_eq] at h
    refine ⟨h.1,?_⟩
    have h2:=h.2
    rwa [E3 (k:=kUp) (xs:=us) h.1] at h2
  · rintro ⟨h,e⟩
    simp only [Bool.and_eq_true,decide_eq_true_eq,beq_iff_eq]
    refine ⟨h,?_⟩
    rw [E3 (k:=kUp) (xs:=us) h]
    exact e
theorem B3T{us:List TUp}(ho:Ord us){id:ByteArray}(hn:F3 us id=false){j:Nat}(hj:A8 us id≤j)(hl:j<us.length):Op.bytesLess id.toList us[j].1.toList=true:=by
  cases e:Op.bytesLess id.toList us[j].1.toList with
  | true=>rfl
  | false=>
    have h1:=C2w (C9u ho hj hl) e
    exfalso
    rcases Nat.eq_or_lt_of_le hj with e2 | h
    · subst e2
      have:=G4.2 ⟨hl,h1⟩
      rw [hn] at this;cases this
    · have h2:=C1T ho h hl
      rw [h1,B3S (by omega)] at h2
      cases h2
theorem B88{us:List TUp}(ho:Ord us){id:ByteArray}(h:F3 us id=true):B83 us id=A8 us id:=by
  obtain ⟨hl,e⟩:=G4.1 h
  refine A6V _ us.length _ (A49 us id) (fun j hj=>?_) (fun _=>?_)
  · rw [E3 (k:=kUp) (xs:=us) (by omega)]
    have h1:=B0d hj
    cases e2:((us[j]'(by omega)).1.toList == id.toList) with
    | false=>rfl
    | true=>
      rw [eq_of_beq e2,A5F] at h1
      cases h1
  · rw [E3 (k:=kUp) (xs:=us) hl,e]
    simp
theorem B89{us:List TUp}(ho:Ord us){id:ByteArray}(h:F3 us id=false):B83 us id=us.length:=by
  refine A6V _ us.length _ (Nat.le_refl _) (fun j hj=>?_) (fun h=>by omega)
  rw [E3 (k:=kUp) (xs:=us) hj]
  cases e2:(us[j].1.toList == id.toList) with
  | false=>rfl
  | true=>
    exfalso
    have e3:=eq_of_beq e2
    by_cases hp:j<A8 us id
    · have h1:=B0d hp
      rw [e3,A5F] at h1
      cases h1
    · have h1:=B3T ho h (show A8 us id≤j by omega) hj
      rw [e3,A5F] at h1
      cases h1
theorem C0Q(us:List TUp)(id:ByteArray)(h:us.length≤maxLen):A0j us id=some ((A8 us id:Int),F3 us id,()):=by
  simp only [A0j,B3O]
  have e:=A45 (A5e us id) (fun i=>((i:Int),())) us.length (fun i=>((i:Int),())) (fun i=>Op.bytesLess (rd kUp us (i:Int)).1.toList id.toList) (fun i hi=>?_) ?_
  · have e':C5 (A5e us id) (0,())=some ((A8 us id:Int),()):=e
    rw [e']
    simp only [A4]
    have hle:=A49 us id
    unfold F3
    by_cases hl:A8 us id<us.length
    · rw [A0 (show (A8 us id:Int)<(us.length:Int) by omega),A0 (show (0:Int)≤(A8 us id:Int) by omega),A0 hl]
      simp
    · rw [A3 (show ¬ (A8 us id:Int)<(us.length:Int) by omega),A3 hl]
      simp
  · have h1:((i:Int)<(us.length:Int)):=by omega
    have h2:(0:Int)≤(i:Int):=by omega
    simp only [A5e,A0 h1,A0 h2,cond_true]
    rw [w64 (by omega) (by simp only [maxLen] at h;omega)]
    cases Op.bytesLess (rd kUp us (i:Int)).1.toList id.toList<;>simp
  · simp [A5e]
theorem B2j(us:List TUp)(h:us.length≤1048576)(hd:∀ u∈us,List.length u.2.2.1≤2000000000):J4 us=some (us,()):=by
  simp only [J4,A2I]
  have key:=I1 (A0z us) (fun i=>((i:Int),us.take i,())) us.length (us,()) (fun i hi=>?_) ?_
  · simpa using key
  · have h1:((i:Int)<(us.length:Int)):=by omega
    have h2:(0:Int)≤(i:Int):=by omega
    have hu:List.length (rd kUp us (i:Int)).2.2.1≤2000000000:=by
      rw [E3 (k:=kUp) (xs:=us) hi]
      exact hd _ (List.getElem_mem hi)
    have e:((rd kUp us (i:Int)).1,(rd kUp us (i:Int)).2.1,[]++(rd kUp us (i:Int)).2.2.1,(rd kUp us (i:Int)).2.2.2)=us[i]:=by
      rw [E3 (k:=kUp) (xs:=us) hi]
      rfl
    simp only [A0z,A0 h1,A0 h2,cond_true,e]
    rw [A0 (by simp;omega),A0 (by simp;omega),A0 (by simp;omega),A0 (by simp;omega),w64 (by omega) (by omega)]
    simp only [cond_true]
    rw [List.take_succ_eq_append_getElem hi]
    rfl
  · simp [A0z]
theorem C4s(us:List TUp)(u:TUp)(ho:Ord us)(h:us.length≤1048576)(hd:∀ u∈us,List.length u.2.2.1≤2000000000) :
    ∃ k,k≤us.length∧L8 us u=some (us.take k++u::us.drop k,())∧(F3 us u.1=false→k=A8 us u.1):=by
  simp only [L8,X7,B2j us h hd,A4]
  rw [A0 (by simp;omega),A0 (by simp;omega)]
  simp only [cond_true]
  have hst:IntKind.i64.wrap (((us ++ [u]).length:Int)-1)=(us.length:Int):=by
    rw [w64 (by simp only [List.length_append,List.length_singleton];omega) (by simp only [List.length_append,List.length_singleton];omega)]
    simp
  rw [hst]
  obtain ⟨z,e,k,hz1,hz2,hz3⟩:=A0P (U5 u) (fun l=>l.1.toNat)
    (fun l=>∃ (k:Nat) (c:TUp),l.1=(k:Int)∧k≤us.length∧l.2.1=us.take k++c::us.drop k∧(F3 us u.1=false→A8 us u.1≤k))
    (fun z=>∃ k:Nat,k≤us.length∧(F3 us u.1=false→k=A8 us u.1)∧∃ c,z=((k:Int),us.take k++c::us.drop k,())) (fun l hl=>by
      obtain ⟨l1,l2,l3⟩:=l
      obtain ⟨k,c,h1,h2,h3,h4⟩:=hl
      simp only at h1 h3
      subst h1;subst h3
      simp only [U5]
      by_cases hk:k=0
      · subst hk
        refine .inr ⟨_,by rw [A3 (by omega)];rfl,0,by omega,fun q=>?_,c,rfl⟩
        have:=h4 q;omega
      · obtain ⟨k,rfl⟩:∃ k',k=k'+1:=⟨k-1,by omega⟩
        have hlen:(us.take (k+1)++c::us.drop (k+1)).length=us.length+1:=by simp;omega
        have ew:IntKind.i64.wrap (((k+1:Nat):Int)-1)=(k:Int):=by rw [w64 (by omega) (by omega)];omega
        have hget:rd (.pair .str (.pair (.int .i64) (.pair (.rs 5 (.int .u8)) .bool))) (us.take (k+1)++c::us.drop (k+1)) (k:Int)=us[k]'(by omega):=by
          rw [E3 (k:=.pair .str (.pair (.int .i64) (.pair (.rs 5 (.int .u8)) .bool))) (xs:=us.take (k+1)++c::us.drop (k+1)) (by rw [hlen];omega)]
          rw [List.getElem_append_left (by simp;omega),List.getElem_take]
        rw [A0 (show ((k+1:Nat):Int)>0 by omega),ew,hlen,A0 (show (0:Int)≤(k:Int) by omega),A0 (show (k:Int)<((us.length+1:Nat):Int) by omega),hget]
        simp only [cond_true]
        have hlen2:(k:Int)+1=((k+1:Nat):Int):=by omega
        cases hc:(!(Op.bytesLess (us[k]'(by omega)).1.toList u.1.toList||((us[k]'(by omega)).1.toList == u.1.toList))) with
        | false=>
          refine Or.inr ⟨(((k+1:Nat):Int),us.take (k+1)++c::us.drop (k+1),()),rfl,k+1,h2,fun q=>?_,c,rfl⟩
          have h5:=h4 q
          by_cases hkp:A8 us u.1≤k
          · have h6:=B3T ho q hkp (by omega)
            simp only [Bool.not_eq_false',Bool.or_eq_true,beq_iff_eq] at hc
            rcases hc with hc | hc
            · rw [C9t h6] at hc;cases hc
            · rw [hc,A5F] at h6;cases h6
          · omega
        | true=>
          refine Or.inl ⟨((k:Int),us.take k++(us[k]'(by omega))::us.drop k,()),?_,⟨k,us[k]'(by omega),rfl,by omega,rfl,fun q=>?_⟩,by simp only;omega⟩
          · simp only [cond_true,B7]
            rw [A0 (show (0:Int)≤((k+1:Nat):Int) by omega),A0 (show ((k+1:Nat):Int)<((us.length+1:Nat):Int) by omega)]
            simp only [cond_true,A4,Int.toNat_natCast]
            have e1:(us.take (k+1)++c::us.drop (k+1)).set (k+1) (us[k]'(by omega))=us.take k++(us[k]'(by omega))::us.drop k:=by
              rw [List.set_append_right _ _ (by simp;omega)]
              rw [show (us.take (k+1)).length=k+1 by simp;omega,Nat.sub_self,List.set_cons_zero,List.take_succ_eq_append_getElem (by omega),List.append_assoc,List.drop_eq_getElem_cons (i:=k) (by omega)]
              rfl
            rw [e1]
          · have h5:=h4 q
            by_cases hkp:k<A8 us u.1
            · have h6:=B0d hkp
              rw [h6] at hc
              simp at hc
            · omega) ((us.length:Int),us ++ [u],()) ⟨us.length,u,rfl,Nat.le_refl _,by simp,fun _=>A49 us u.1⟩
  obtain ⟨c,rfl⟩:=hz3
  rw [e]
  simp only
  have hlen:(us.take k++c::us.drop k).length=us.length+1:=by simp;omega
  rw [A0 (by omega),A0 (by rw [hlen];omega)]
  simp only [cond_true,Int.toNat_natCast]
  refine ⟨k,hz1,?_,hz2⟩
  rw [List.set_append_right _ _ (by simp;omega),show (us.take k).length=k by simp;omega,Nat.sub_self,List.set_cons_zero]
def B0e(r:E9):Prop:=N3 r=true∧Byt r.2.2.2.2.2
def UpG(u:TUp):Prop:=(List.length u.2.2.1:Int)≤u.2.1∧u.2.1≤1000000000∧u.1.size≤8∧Byt u.2.2.1
def Ups(us:List TUp):Prop:=Ord us∧us.length≤10∧∀ u∈us,UpG u
theorem B7C:Ups []:=⟨List.Pairwise.nil,by simp,fun u hu=>by cases hu⟩
theorem A6W{us:List TUp}(h:Ups us):∀ u∈us,List.length u.2.2.1≤2000000000:=fun u hu=>by have h1:=(h.2.2 u hu).1;have h2:=(h.2.2 u hu).2.1;omega
def K0(us:List TUp)(r:E9):Option (List TUp):=
  let p:=A8 us r.2.2.2.1
  let u:=rd kUp us (p:Int)
  if r.2.2.1=1 then (if F3 us r.2.2.2.1=true∨10≤us.length then none else some (us.take p++(r.2.2.2.1,r.2.2.2.2.1,[],false)::us.drop p))
  else if F3 us r.2.2.2.1=false then none
  else if r.2.2.1=2 then (if u.2.2.2=true∨r.2.2.2.2.1≠(List.length u.2.2.1:Int)∨(List.length u.2.2.1:Int)+(List.length r.2.2.2.2.2:Int)>u.2.1 then none else some (us.set p (u.1,u.2.1,u.2.2.1++r.2.2.2.2.2,u.2.2.2)))
  else if r.2.2.1=3 then (if u.2.2.2=true∨(List.length u.2.2.1:Int)≠u.2.1 then none else some (us.set p (u.1,u.2.1,u.2.2.1,true)))
  else if r.2.2.1=4 then some (us.take p++us.drop (p+1))
  else none
def A9F(us:List TUp)(r:E9):List TUp×Bool×Unit:=match K0 us r with
  | some us'=>(us',true,())
  | none=>([],false,())
theorem C0R(us:List TUp)(r:E9)(h:Ups us)(h2:List.length r.2.2.2.2.2≤1048576):A42 us r=some (A9F us r):=by
  have hl:=h.2.1
  have hp:=A49 us r.2.2.2.1
  simp only [A42,B7x,C0Q us _ (show us.length≤maxLen by simp only [maxLen];omega),A4,A9F,K0]
  by_cases k1:r.2.2.1=1
  · rw [A0 k1,if_pos k1]
    simp only [cond_true]
    cases hh:F3 us r.2.2.2.1 with
    | true=>simp [B7]
    | false=>
      by_cases h10:10≤us.length
      · rw [A0 (show (us.length:Int)≥10 by omega),if_pos (.inr h10)]
        rfl
      · rw [A3 (show ¬ (us.length:Int)≥10 by omega),if_neg (by simp;omega)]
        simp only [cond_false,B7,I9,C6g]
        rw [A0 (by omega),A0 (by omega),A0 (by simp),A0 (by simp;omega)]
        simp [A4]
  rw [A3 k1,if_neg k1]
  simp only [cond_false]
  cases hh:F3 us r.2.2.2.1 with
  | false=>simp
  | true=>
    obtain ⟨hlt,hid⟩:=G4.1 hh
    have hu:(List.length us[A8 us r.2.2.2.1].2.2.1:Int)≤us[A8 us r.2.2.2.1].2.1∧us[A8 us r.2.2.2.1].2.1≤1000000000:=⟨(h.2.2 _ (List.getElem_mem hlt)).1,(h.2.2 _ (List.getElem_mem hlt)).2.1⟩
    have hrd:rd kUp us (A8 us r.2.2.2.1:Int)=us[A8 us r.2.2.2.1]:=E3 (k:=kUp) (xs:=us) hlt
    simp only [Bool.not_true,cond_false,Bool.true_eq_false,if_false]
    rw [A0 (by omega),A0 (by omega)]
    simp only [cond_true,Int.toNat_natCast,hrd]
    generalize us[A8 us r.2.2.2.1]=u at hu hid ⊢
    by_cases k2:r.2.2.1=2
    · rw [A0 k2,if_pos k2]
      simp only [cond_true]
      cases hd:u.2.2.2 with
      | true=>simp [B7]
      | false=>
        by_cases hn:r.2.2.2.2.1=(List.length u.2.2.1:Int)
        · rw [A0 hn,w64 (by omega) (by omega)]
          by_cases hw:(List.length u.2.2.1:Int)+(List.length r.2.2.2.2.2:Int)>u.2.1
          · rw [A0 hw,if_pos (.inr (.inr hw))]
            rfl
          · rw [A3 hw,if_neg (by simp [hn];omega)]
            simp only [Bool.not_true,cond_false,B7]
            rw [A0 (by omega),A0 (by omega)]
            rfl
        · rw [A3 hn,if_pos (.inr (.inl hn))]
          rfl
    rw [A3 k2,if_neg k2]
    by_cases k3:r.2.2.1=3
    · rw [A0 k3,if_pos k3]
      simp only [cond_true,cond_false]
      cases hd:u.2.2.2 with
      | true=>simp
      | false=>
        by_cases hn:(List.length u.2.2.1:Int)=u.2.1
        · rw [A0 hn,if_neg (by simp [hn])]
          rfl
        · rw [A3 hn,if_pos (.inr hn)]
          rfl
    rw [A3 k3,if_neg k3]
    by_cases k4:r.2.2.1=4
    · rw [A0 k4,if_pos k4,w64 (n:=(A8 us r.2.2.2.1:Int)+1) (by omega) (by omega)]
      simp only [cond_true,cond_false,J1,C6f]
      rw [A0 (by omega),A0 (by omega),A0 (by omega)]
      simp only [cond_true,Int.toNat_natCast]
      rw [show ((A8 us r.2.2.2.1:Int)+1).toNat=A8 us r.2.2.2.1+1 by omega]
    rw [A3 k4,if_neg k4]
    rfl
theorem C2x(us:List TUp)(r:E9)(h:Ups us)(h2:List.length r.2.2.2.2.2≤1048576):∃ x,E6 us r=some (x,(A9F us r).2.1,())∧((A9F us r).2.1=true→x=(A9F us r).1):=by
  have hl:=h.2.1
  have hp:=A49 us r.2.2.2.1
  have hat:=B84 us r.2.2.2.1 (show us.length≤maxLen by simp only [maxLen];omega)
  have hcp:=B2j us (by omega) (A6W h)
  obtain ⟨k,hk,hmk,hmk2⟩:=C4s us (r.2.2.2.1,r.2.2.2.2.1,[],false) h.1 (by omega) (A6W h)
  simp only [E6,Z7,hat,hcp,hmk,A4,A9F,K0]
  by_cases k1:r.2.2.1=1
  · rw [A0 k1,if_pos k1]
    simp only [cond_true]
    cases hh:F3 us r.2.2.2.1 with
    | true=>
      obtain ⟨hlt,hid⟩:=G4.1 hh
      rw [B88 h.1 hh,if_pos hlt,A3 (by omega)]
      simp
    | false=>
      have hk2:=hmk2 hh
      simp only at hk2
      rw [B89 h.1 hh,if_neg (Nat.lt_irrefl _),A0 (by omega)]
      simp only [cond_true]
      by_cases h10:10≤us.length
      · rw [A3 (by omega),if_pos (.inr h10)]
        simp
      · rw [A0 (by omega),if_neg (by simp;omega),hk2]
        simp
  rw [A3 k1,if_neg k1]
  simp only [cond_false]
  cases hh:F3 us r.2.2.2.1 with
  | false=>
    rw [B89 h.1 hh,if_neg (Nat.lt_irrefl _),A0 (by omega)]
    simp
  | true=>
    obtain ⟨hlt,hid⟩:=G4.1 hh
    have hu:(List.length us[A8 us r.2.2.2.1].2.2.1:Int)≤us[A8 us r.2.2.2.1].2.1∧us[A8 us r.2.2.2.1].2.1≤1000000000:=⟨(h.2.2 _ (List.getElem_mem hlt)).1,(h.2.2 _ (List.getElem_mem hlt)).2.1⟩
    have hrd:rd kUp us (A8 us r.2.2.2.1:Int)=us[A8 us r.2.2.2.1]:=E3 (k:=kUp) (xs:=us) hlt
    rw [B88 h.1 hh,if_pos hlt,A3 (by omega)]
    simp only [cond_false,Bool.true_eq_false,if_false]
    rw [A0 (by omega),A0 (by omega)]
    simp only [cond_true,Int.toNat_natCast,hrd]
    generalize us[A8 us r.2.2.2.1]=u at hu hid ⊢
    by_cases k2:r.2.2.1=2
    · rw [A0 k2,if_pos k2]
      simp only [cond_true]
      cases hd:u.2.2.2 with
      | true=>simp [B7]
      | false=>
        by_cases hn:r.2.2.2.2.1=(List.length u.2.2.1:Int)
        · rw [A0 hn,hn,w64 (by omega) (by omega)]
          by_cases hw:(List.length u.2.2.1:Int)+(List.length r.2.2.2.2.2:Int)>u.2.1
          · rw [A0 hw,if_pos (.inr (.inr hw))]
            exact ⟨_,rfl,fun e=>by cases e⟩
          · rw [A3 hw,if_neg (by simp;omega)]
            simp only [Bool.not_true,cond_false,B7]
            rw [A0 (by omega),A0 (by omega)]
            exact ⟨_,rfl,fun _=>rfl⟩
        · rw [A3 hn,if_pos (.inr (.inl hn))]
          exact ⟨_,rfl,fun e=>by cases e⟩
    rw [A3 k2,if_neg k2]
    by_cases k3:r.2.2.1=3
    · rw [A0 k3,if_pos k3]
      simp only [cond_true,cond_false]
      cases hd:u.2.2.2 with
      | true=>simp
      | false=>
        by_cases hn:(List.length u.2.2.1:Int)=u.2.1
        · rw [A0 hn,if_neg (by simp [hn])]
          exact ⟨_,rfl,fun _=>rfl⟩
        · rw [A3 hn,if_pos (.inr hn)]
          exact ⟨_,rfl,fun e=>by cases e⟩
    rw [A3 k3,if_neg k3]
    by_cases k4:r.2.2.1=4
    · rw [A0 k4,if_pos k4,w64 (n:=(A8 us r.2.2.2.1:Int)+1) (by omega) (by omega)]
      simp only [cond_true,cond_false]
      rw [A0 (by omega),A0 (by omega),A0 (by omega),A0 (by omega)]
      simp only [cond_true]
      rw [show ((A8 us r.2.2.2.1:Int)+1).toNat=A8 us r.2.2.2.1+1 by omega,A0 (by omega)]
      simp only [cond_true,List.take_length]
      exact ⟨_,rfl,fun _=>rfl⟩
    rw [A3 k4,if_neg k4]
    exact ⟨_,rfl,fun e=>by cases e⟩
theorem C6k{us:List TUp}(h:Ord us)(p:Nat)(hp:p<us.length)(u:TUp)(hu:u.1=us[p].1):Ord (us.set p u):=by
  refine List.pairwise_iff_getElem.2 fun i j hi hj hij=>?_
  simp only [List.length_set] at hi hj
  have hk:∀ q (hq:q<us.length),((us.set p u)[q]'(by simpa using hq)).1=us[q].1:=fun q hq=>by
    rw [List.getElem_set]
    split
    · rename_i e;subst e;exact hu
    · rfl
  rw [hk i hi,hk j hj]
  exact C1T h hij hj
theorem B0f{us us':List TUp}{r:E9}(h:Ups us)(hr':B0e r)(e:K0 us r=some us'):Ups us':=by
  have hr:=hr'.1
  have hp:=A49 us r.2.2.2.1
  have hb:=Y4 hr
  simp only [K0] at e
  split at e
  · split at e
    · cases e
    rename_i hc
    injection e with e
    subst e
    have hnh:F3 us r.2.2.2.1=false:=by cases q:F3 us r.2.2.2.1;rfl;exact absurd (.inl q) hc
    refine ⟨?_,by simp;omega,fun u hu=>?_⟩
    · show List.Pairwise _ _
      rw [List.pairwise_append]
      refine ⟨h.1.sublist (List.take_sublist _ _),List.pairwise_cons.2 ⟨fun b hb=>?_,h.1.sublist (List.drop_sublist _ _)⟩,fun a ha b hb=>?_⟩
      · obtain ⟨j,hj,rfl⟩:=List.getElem_of_mem hb
        rw [List.getElem_drop]
        exact B3T h.1 hnh (by omega) _
      · obtain ⟨j,hj,rfl⟩:=List.getElem_of_mem ha
        rw [List.length_take] at hj
        rw [List.getElem_take]
        have h1:=B0d (us:=us) (id:=r.2.2.2.1) (j:=j) (by omega)
        rcases List.mem_cons.1 hb with rfl | hb
        · exact h1
        · obtain ⟨q,hq,rfl⟩:=List.getElem_of_mem hb
          rw [List.getElem_drop]
          rw [List.length_drop] at hq
          exact B3R h1 (B3T h.1 hnh (by omega) (by omega))
    · rcases List.mem_append.1 hu with hu | hu
      · exact h.2.2 u (List.mem_of_mem_take hu)
      · rcases List.mem_cons.1 hu with rfl | hu
        · exact ⟨by simp only [List.length_nil];omega,by simp only;omega,hb.2.2.2.2.1,Q1⟩
        · exact h.2.2 u (List.mem_of_mem_drop hu)
  split at e
  · cases e
  rename_i _ hh
  have hh:F3 us r.2.2.2.1=true:=by cases q:F3 us r.2.2.2.1;exact absurd q hh;rfl
  obtain ⟨hlt,hid⟩:=G4.1 hh
  have hrd:rd kUp us (A8 us r.2.2.2.1:Int)=us[A8 us r.2.2.2.1]:=E3 (k:=kUp) (xs:=us) hlt
  have hu0:=h.2.2 _ (List.getElem_mem hlt)
  simp only [hrd] at e
  split at e
  · split at e
    · cases e
    rename_i hc
    injection e with e
    subst e
    refine ⟨C6k h.1 _ hlt _ rfl,by simp;exact h.2.1,fun u hu=>?_⟩
    rcases List.mem_or_eq_of_mem_set hu with hu | rfl
    · exact h.2.2 u hu
    · refine ⟨?_,hu0.2.1,hu0.2.2.1,C1R hu0.2.2.2 hr'.2⟩
      simp only [List.length_append]
      have:¬ ((List.length us[A8 us r.2.2.2.1].2.2.1:Int)+(List.length r.2.2.2.2.2:Int)>us[A8 us r.2.2.2.1].2.1):=fun q=>hc (.inr (.inr q))
      omega
  split at e
  · split at e
    · cases e
    injection e with e
    subst e
    refine ⟨C6k h.1 _ hlt _ rfl,by simp;exact h.2.1,fun u hu=>?_⟩
    rcases List.mem_or_eq_of_mem_set hu with hu | rfl
    · exact h.2.2 u hu
    · exact hu0
  split at e
  · injection e with e
    subst e
    refine ⟨?_,by have:=h.2.1;simp only [List.length_append,List.length_take,List.length_drop];omega,fun u hu=>?_⟩
    · show List.Pairwise _ _
      rw [List.pairwise_append]
      refine ⟨h.1.sublist (List.take_sublist _ _),h.1.sublist (List.drop_sublist _ _),fun a ha b hb=>?_⟩
      obtain ⟨j,hj,rfl⟩:=List.getElem_of_mem ha
      obtain ⟨q,hq,rfl⟩:=List.getElem_of_mem hb
      rw [List.length_take] at hj
      rw [List.length_drop] at hq
      rw [List.getElem_take,List.getElem_drop]
      exact C1T h.1 (by omega) (by omega)
    · rcases List.mem_append.1 hu with hu | hu
      · exact h.2.2 u (List.mem_of_mem_take hu)
      · exact h.2.2 u (List.mem_of_mem_drop hu)
  · cases e
def J2:List TUp→List E9→Option (List TUp)
  | us,[]=>some us
  | us,r::l=>match K0 us r with
    | some us'=>J2 us' l
    | none=>none
def A1L(l:List E9):List TUp×Bool×Unit:=match J2 [] l with
  | some us=>(us,true,())
  | none=>([],false,())
theorem A6X:∀ {l:List E9} {us us':List TUp},Ups us→(∀ r∈l,B0e r)→J2 us l=some us'→Ups us'
  | [],us,us',h,_,e=>by simp only [J2,Option.some.injEq] at e;subst e;exact h
  | r::l,us,us',h,hr,e=>by
    simp only [J2] at e
    split at e
    · rename_i us1 e1
      exact A6X (B0f h (hr r (by simp)) e1) (fun x hx=>hr x (by simp [hx])) e
    · cases e
theorem C0S{α:Type}(f:α→Option (α⊕((List TUp×Unit)⊕(List TUp×Bool×Unit))))(s:Nat→List TUp→α)(l:List E9)(hr:∀ r∈l,B0e r)
    (hs:∀ (i:Nat) (hi:i<l.length) (us:List TUp),Ups us→f (s i us)=match K0 us l[i] with
      | some us'=>some (.inl (s (i+1) us'))
      | none=>some (.inr (.inr ([],false,()))))
    (he:∀ us,f (s l.length us)=some (.inr (.inl (us,())))):B7 (C5 f (s 0 [])) (fun m=>some (m.1,true,()))=some (A1L l):=by
  have key:∀ k i us,i+k=l.length→Ups us→B7 (C5 f (s i us)) (fun m=>some (m.1,true,()))=some (match J2 us (l.drop i) with
      | some us'=>(us',true,())
      | none=>([],false,())):=by
    intro k
    induction k with
    | zero=>
      intro i us hi hu
      obtain rfl:i=l.length:=by omega
      rw [A0b,he]
      simp [J2,B7]
    | succ k ih=>
      intro i us hi hu
      have hlt:i<l.length:=by omega
      rw [A0b,hs i hlt us hu,List.drop_eq_getElem_cons hlt]
      simp only [J2]
      cases e:K0 us l[i] with
      | none=>rfl
      | some us'=>exact ih (i+1) us' (by omega) (B0f hu (hr _ (List.getElem_mem hlt)) e)
  exact key l.length 0 [] (by omega) B7C
theorem B9e(l:List E9)(hl:l.length≤maxLen)(hr:∀ r∈l,B0e r):A2V l=some (A1L l):=by
  simp only [A2V,A8f]
  refine C0S (A2U A42 l) (fun i us=>((i:Int),us,())) l hr (fun i hi us hu=>?_) (fun us=>by simp [A2U])
  have h1:((i:Int)<(l.length:Int)):=by omega
  have h2:(0:Int)≤(i:Int):=by omega
  have hb:=Y4 (hr _ (List.getElem_mem hi)).1
  simp only [A2U,A0 h1,A0 h2,cond_true]
  rw [E3 (k:=A4u) (xs:=l) hi,C0R us _ hu (by omega),w64 (by omega) (by simp only [maxLen] at hl;omega)]
  simp only [A4,A9F]
  cases K0 us l[i]<;>rfl
theorem A6t(l:List E9)(hl:l.length≤maxLen)(hr:∀ r∈l,B0e r):L3 l=some (A1L l):=by
  simp only [L3,A1j]
  refine C0S (V3 E6 l) (fun i us=>((i:Int),us,())) l hr (fun i hi us hu=>?_) (fun us=>by simp [V3])
  have h1:((i:Int)<(l.length:Int)):=by omega
  have h2:(0:Int)≤(i:Int):=by omega
  have hb:=Y4 (hr _ (List.getElem_mem hi)).1
  obtain ⟨x,hx,hx2⟩:=C2x us l[i] hu (by omega)
  simp only [V3,A0 h1,A0 h2,cond_true]
  rw [E3 (k:=A4u) (xs:=l) hi,hx,w64 (by omega) (by simp only [maxLen] at hl;omega)]
  simp only [A4,A9F] at hx2 ⊢
  cases e:K0 us l[i] with
  | none=>rfl
  | some us'=>
    rw [e] at hx2
    rw [hx2 rfl]
    rfl
def B2k(l:List ByteArray):Prop:=l.length≤1048576∧∀ s∈l,s.size≤1048576
theorem A6Y{l:List ByteArray}(h:B2k l){i:Nat}(hi:i<l.length):(rd .str l (i:Int)).size≤1048576:=by
  rw [A3V hi]
  exact h.2 _ (List.getElem_mem hi)
theorem B5c{s:ByteArray}(h:(C2 s).2.1=true):B0e (C2 s).1:=by
  unfold C2 at h ⊢
  split at h
  · rename_i hg
    rw [if_pos hg]
    simp only [A6T,Bool.and_eq_true] at hg
    exact ⟨hg.1.2,B4h (A6S s)⟩
  · cases h
theorem C7e(d:G2)(h:B2k d.1)(l:Int×Int×List E9×Unit)(h0:0≤l.2.1):A2S A00 d l=P1 I2 d l:=by
  simp only [A2S,P1]
  by_cases hi:l.2.1<(d.1.length:Int)
  · obtain ⟨i,hn⟩:∃ i:Nat,l.2.1=(i:Int):=⟨l.2.1.toNat,by omega⟩
    rw [hn] at hi ⊢
    rw [A48 _ (A6Y h (by omega)),B0c _ (A6Y h (by omega))]
  · rw [A3 hi]
    rfl
theorem D13(d:G2)(h:B2k d.1):∃ l,R5 d=some (l,())∧A2T d=some (l,())∧l.length≤d.1.length∧∀ r∈l,B0e r:=by
  have hl:=h.1
  obtain ⟨z,e,hz1,hz2⟩:=A0P (P1 I2 d) (fun l=>((d.1.length:Int)-l.2.1).toNat) (fun l=>0≤l.2.1∧(List.length l.2.2.1:Int)=l.2.1∧l.2.1≤(d.1.length:Int)∧∀ r∈l.2.2.1,B0e r)
    (fun z=>List.length z.1≤d.1.length∧∀ r∈z.1,B0e r) (fun l hl=>by
      obtain ⟨h0,h1,h2,h3⟩:=hl
      simp only [P1]
      by_cases hi:l.2.1<(d.1.length:Int)
      · obtain ⟨i,hn⟩:∃ i:Nat,l.2.1=(i:Int):=⟨l.2.1.toNat,by omega⟩
        rw [A0 hi,A0 h0]
        simp only [cond_true]
        rw [hn] at hi h0 h1 h2 ⊢
        rw [A48 _ (A6Y h (by omega))]
        simp only [A4]
        have hg:=@B5c (rd .str d.1 (i:Int))
        generalize C2 (rd .str d.1 (i:Int))=g at hg ⊢
        have fin:List.length l.2.2.1≤d.1.length∧∀ r∈l.2.2.1,B0e r:=⟨by omega,h3⟩
        cases hk:g.2.1 with
        | false=>exact .inr ⟨_,rfl,fin⟩
        | true=>
          simp only [Bool.not_true,cond_false]
          by_cases e1:g.1.2.1=(i:Int)
          · rw [A0 e1]
            by_cases e2:g.1.1<l.1
            · rw [A0 e2];exact .inr ⟨_,rfl,fin⟩
            · rw [A3 e2]
              simp only [Bool.not_true,cond_false]
              rw [A0 (by simp;omega),A0 (by simp;omega),w64 (by omega) (by omega)]
              refine .inl ⟨_,rfl,⟨by simp only;omega,by simp;omega,by simp only;omega,fun r hr=>?_⟩,by simp only;omega⟩
              rcases List.mem_append.1 hr with hr | hr
              · exact h3 r hr
              · rw [List.mem_singleton.1 hr];exact hg hk
          · rw [A3 e1];exact .inr ⟨_,rfl,fin⟩
      · rw [A3 hi]
        exact .inr ⟨_,rfl,by simp only;omega,h3⟩) (0,0,[],()) ⟨by simp,by simp,by simp,fun r hr=>by cases hr⟩
  refine ⟨z.1,e,?_,hz1,hz2⟩
  simp only [A2T,A8e]
  rw [C2p (g:=P1 I2 d) (fun l=>0≤l.2.1) (fun l h0=>C7e d h l h0) (fun l y h0 e=>?_) (by simp)]
  · exact e
  · simp only [A2S] at e
    by_cases hi:l.2.1<(d.1.length:Int)
    · obtain ⟨i,hn⟩:∃ i:Nat,l.2.1=(i:Int):=⟨l.2.1.toNat,by omega⟩
      rw [A0 hi,A0 h0] at e
      simp only [cond_true] at e
      rw [hn] at hi h0 e
      rw [B0c _ (A6Y h (by omega))] at e
      simp only [A4] at e
      rw [w64 (n:=(i:Int)+1) (by omega) (by omega)] at e
      generalize C2 (rd .str d.1 (i:Int))=g at e
      cases hk:g.2.1<;>simp only [hk,Bool.not_true,Bool.not_false,cond_true,cond_false] at e
      · cases e
      · revert e
        cases decide (g.1.2.1=(i:Int))<;>cases decide (g.1.1<l.1)<;>simp only [Bool.not_true,Bool.not_false,cond_true,cond_false]
        · intro e;cases e
        · intro e;cases e
        · cases decide (List.length l.2.2.1+List.length [g.1]≤9223372036854775807)<;>cases decide ((List.length l.2.2.1+List.length [g.1])*72≤140737488355328)<;>intro e
          · cases e
          · cases e
          · cases e
          · simp only [cond_true] at e
            injection e with e;injection e with e;subst e
            simp only;omega
        · intro e;cases e
    · rw [A3 hi] at e
      cases e
theorem C7f:A8Y=Q4:=rfl
theorem C2y(d:G2)(h:d.1.length≤1048576):∃ b,Q4 d=some (b,())∧(b=true→d.1.length=d.2.length∧d.1.length≤200):=by
  simp only [Q4,A8N]
  by_cases h1:(d.1.length:Int)=(d.2.length:Int)
  · rw [A0 h1]
    by_cases h2:(d.1.length:Int)>200
    · rw [A0 h2]
      exact ⟨_,rfl,fun e=>by cases e⟩
    · rw [A3 h2]
      simp only [Bool.not_true,cond_false,B7]
      refine ⟨_,C0N (Z4 d) d.1.length (by simp only [maxLen];omega) (fun i=>!decide (((rd .str d.1 (i:Int)).size:Int)>64)&&!decide (((rd .str d.2 (i:Int)).size:Int)>64)) (fun i hi=>?_) (by simp [Z4]),fun _=>by omega⟩
      have g1:((i:Int)<(d.1.length:Int)):=by omega
      have g2:(0:Int)≤(i:Int):=by omega
      have g3:((i:Int)<(d.2.length:Int)):=by omega
      simp only [Z4,A0 g1,A0 g2,A0 g3,cond_true]
      cases decide (((rd .str d.1 (i:Int)).size:Int)>64)<;>cases decide (((rd .str d.2 (i:Int)).size:Int)>64)<;>rfl
  · rw [A3 h1]
    exact ⟨_,rfl,fun e=>by cases e⟩
def A3q(a b:TUp):Bool:=(a.1.toList == b.1.toList)&&decide (a.2.1=b.2.1)&&(a.2.2.2 == b.2.2.2)&&((strOf a.2.2.1).toList == (strOf b.2.2.1).toList)
def A09(a b:List TUp):Bool:=decide (a.length=b.length)&&(List.range a.length).all fun i=>A3q (rd kUp a (i:Int)) (rd kUp b (i:Int))
theorem C2z(a b:TUp):A5h a b=some (A3q a b,()):=by
  simp only [A5h,B2h,A3n,A6q,A4,A3q]
  cases (a.1.toList == b.1.toList)<;>cases decide (a.2.1=b.2.1)<;>cases (a.2.2.2 == b.2.2.2)<;>rfl
theorem C7g(a b:List TUp)(h:a.length≤maxLen):B6 a b ()=some (A09 a b,()):=by
  simp only [B6,D3,A09]
  by_cases hl:a.length=b.length
  · rw [A0 (show (a.length:Int)=(b.length:Int) by omega),A0 hl]
    simp only [Bool.not_true,cond_false,Bool.true_and]
    refine C0N _ a.length h (fun i=>A3q (rd kUp a (i:Int)) (rd kUp b (i:Int))) (fun i hi=>?_) (by simp [C9])
    have g1:((i:Int)<(a.length:Int)):=by omega
    have g2:(0:Int)≤(i:Int):=by omega
    have g3:((i:Int)<(b.length:Int)):=by omega
    simp only [C9,A0 g1,A0 g2,A0 g3,cond_true,C2z,A4]
    cases A3q (rd kUp a (i:Int)) (rd kUp b (i:Int))<;>rfl
  · rw [A3 (show ¬ (a.length:Int)=(b.length:Int) by omega),A3 hl]
    rfl
theorem C0T(a b:List TUp)(h:a.length≤maxLen):A0g a b=some (A09 a b,()):=by
  simp only [A0g,A5Y,A09]
  by_cases hl:a.length=b.length
  · rw [A0 (show (a.length:Int)=(b.length:Int) by omega),A0 hl]
    simp only [Bool.not_true,cond_false,Bool.true_and]
    refine C0N _ a.length h (fun i=>A3q (rd kUp a (i:Int)) (rd kUp b (i:Int))) (fun i hi=>?_) (by simp [A3H])
    have g1:((i:Int)<(a.length:Int)):=by omega
    have g2:(0:Int)≤(i:Int):=by omega
    have g3:((i:Int)<(b.length:Int)):=by omega
    simp only [A3H,A0 g1,A0 g2,A0 g3,cond_true,A3q]
    cases ((rd kUp a (i:Int)).1.toList == (rd kUp b (i:Int)).1.toList)<;>cases decide ((rd kUp a (i:Int)).2.1=(rd kUp b (i:Int)).2.1)<;>cases ((rd kUp a (i:Int)).2.2.2 == (rd kUp b (i:Int)).2.2.2)<;>cases ((strOf (rd kUp a (i:Int)).2.2.1).toList == (strOf (rd kUp b (i:Int)).2.2.1).toList)<;>rfl
  · rw [A3 (show ¬ (a.length:Int)=(b.length:Int) by omega),A3 hl]
    rfl
def A1M(e:Int)(s:ByteArray):Bool:=(C2 s).2.1&&decide ((C2 s).1.1≥e)
def A22(t:Int)(s:ByteArray):Int:=bif (C2 s).2.1 then (bif decide ((C2 s).1.1>t) then (C2 s).1.1 else t) else t
def A2o(l:List ByteArray):Int:=l.foldl A22 (-1)
theorem B1T(e:Int):∀ (l:List ByteArray) (t:Int),decide (l.foldl A22 t<e)=(decide (t<e)&&l.all fun s=>!A1M e s)
  | [],t=>(Bool.and_true _).symm
  | s::l,t=>by
    rw [List.foldl_cons,B1T e l,List.all_cons]
    unfold A22 A1M
    cases (C2 s).2.1 with
    | false=>simp
    | true=>
      simp only [cond_true,Bool.true_and]
      by_cases h1:(C2 s).1.1>t
      · rw [A0 h1]
        by_cases h2:(C2 s).1.1≥e
        · rw [A0 h2]
          simp only [cond_true]
          rw [A3 (show ¬ (C2 s).1.1<e by omega)]
          simp
        · rw [A3 h2]
          simp only [cond_true]
          rw [A0 (show (C2 s).1.1<e by omega),A0 (show t<e by omega)]
          simp
      · rw [A3 h1]
        simp only [cond_false]
        by_cases h3:t<e
        · rw [A0 h3,A3 (show ¬ (C2 s).1.1≥e by omega)]
          simp
        · rw [A3 h3]
          simp
theorem C1U(l:List ByteArray)(h:B2k l):A43 l=some (A2o l,()):=by
  have hl:=h.1
  simp only [A43,B0T]
  have key:=I1 (A3l A00 l) (fun i=>((l.take i).foldl A22 (-1),(i:Int),())) l.length (A2o l,()) (fun i hi=>?_) ?_
  · simpa using key
  · have g1:((i:Int)<(l.length:Int)):=by omega
    have g2:(0:Int)≤(i:Int):=by omega
    simp only [A3l,A0 g1,A0 g2,cond_true]
    rw [B0c _ (A6Y h hi),w64 (by omega) (by omega)]
    simp only [A4]
    have e:(l.take (i+1)).foldl A22 (-1)=A22 ((l.take i).foldl A22 (-1)) (rd .str l (i:Int)):=by
      rw [List.take_succ_eq_append_getElem hi,List.foldl_append,A3V hi]
      rfl
    rw [e]
    unfold A22
    cases (C2 (rd .str l (i:Int))).2.1<;>rfl
  · simp [A3l,A2o]
theorem C4t(go:Nat→Bool)(n:Nat):decide (P4 go 0 n=n)=(List.range n).all go:=by
  rw [Bool.eq_iff_iff]
  simp only [decide_eq_true_eq,List.all_eq_true,List.mem_range]
  constructor
  · intro h j hj
    exact A6U go n 0 j (by omega) (by omega)
  · intro h
    exact A6V go n n (Nat.le_refl _) h (fun h=>by omega)
theorem C0U(st:A5)(h:B2k st.1.1)(n:Nat)(hn:n≤st.1.1.length):C5 (A0L I2 st) ((n:Int),())=some ((st.1.1.drop n).all fun s=>!A1M st.2.1 s,()):=by
  have hl:=h.1
  have key:=A45 (A0L I2 st) (fun j=>(((n+j:Nat):Int),())) (st.1.1.length-n) (fun j=>(decide (j=st.1.1.length-n),())) (fun j=>!A1M st.2.1 (rd .str st.1.1 ((n+j:Nat):Int))) (fun j hj=>?_) ?_
  · have e:C5 (A0L I2 st) ((n:Int),())=_:=key
    rw [e,C4t]
    congr 2
    rw [Bool.eq_iff_iff]
    simp only [List.all_eq_true,List.mem_range]
    constructor
    · intro h2 s hs
      obtain ⟨j,hj,rfl⟩:=List.getElem_of_mem hs
      rw [List.length_drop] at hj
      have:=h2 j hj
      rw [A3V (by omega)] at this
      rw [List.getElem_drop]
      exact this
    · intro h2 j hj
      rw [A3V (by omega)]
      refine h2 _ ?_
      rw [List.mem_iff_getElem]
      exact ⟨j,by rw [List.length_drop];omega,by rw [List.getElem_drop]⟩
  · have g1:(((n+j:Nat):Int)<(st.1.1.length:Int)):=by omega
    have g2:(0:Int)≤((n+j:Nat):Int):=by omega
    simp only [A0L,A0 g1,A0 g2,cond_true]
    rw [A48 _ (A6Y h (by omega)),w64 (by omega) (by omega)]
    simp only [A4,A1M]
    rw [A3 (show ¬ j=st.1.1.length-n by omega)]
    have e2:n+(j+1)=(n+j)+1:=by omega
    simp only [e2,Int.natCast_succ]
    cases (C2 (rd .str st.1.1 ((n+j:Nat):Int))).2.1<;>cases decide ((C2 (rd .str st.1.1 ((n+j:Nat):Int))).1.1≥st.2.1)<;>rfl
  · have g1:¬ (((n+(st.1.1.length-n):Nat):Int)<(st.1.1.length:Int)):=by omega
    simp only [A0L,A3 g1,cond_false]
    simp
def B4j(st:A5):Prop:=0≤st.2.1∧st.2.1≤10000∧st.1.1.length=st.1.2.length∧st.1.1.length≤200∧(0≤st.2.2.1∧st.2.2.1≤(st.1.1.length:Int))∧∃ us,Ups us∧A09 us st.2.2.2=true
theorem B8A(st:A5)(h:B2k st.1.1):∃ b,D0 st=some (b,())∧A0k st=some (b,())∧(b=true→B4j st):=by
  have hl:=h.1
  obtain ⟨bd,hd,hdt⟩:=C2y st.1 hl
  obtain ⟨l,hs,hi,hll,hrg⟩:=D13 st.1 h
  have hfs:=A6t l (by simp only [maxLen];omega) hrg
  have hfi:=B9e l (by simp only [maxLen];omega) hrg
  have hups:(A1L l).2.1=true→Ups (A1L l).1:=by
    intro e
    unfold A1L at e ⊢
    split
    · rename_i us' e1
      exact A6X B7C hrg e1
    · rename_i e1
      rw [e1] at e;cases e
  simp only [D0,A6L,A0k,B0U,C7f,hd,hs,hi,hfs,hfi,A0h,A6N,A1e,A0m,A4]
  cases bd with
  | false=>
    by_cases he:0≤st.2.1∧st.2.1≤10000
    · rw [A0 he]
      exact ⟨_,rfl,rfl,fun e=>by cases e⟩
    · rw [A3 he]
      exact ⟨_,rfl,rfl,fun e=>by cases e⟩
  | true=>
    cases he':decide (0≤st.2.1∧st.2.1≤10000) with
    | false=>exact ⟨_,rfl,rfl,fun e=>by cases e⟩
    | true=>
      have he:=of_decide_eq_true he'
      have hd2:=hdt rfl
      simp only [Bool.not_true,cond_false,B7]
      generalize hf:A1L l=fr at hups
      cases hk:fr.2.1 with
      | false=>exact ⟨_,rfl,rfl,fun e=>by cases e⟩
      | true=>
        have hu:=hups hk
        have hul:=hu.2.1
        rw [C0T _ _ (show fr.1.length≤maxLen by simp only [maxLen];omega),C7g _ _ (show fr.1.length≤maxLen by simp only [maxLen];omega)]
        simp only [Bool.not_true,cond_false]
        cases hn':decide (st.2.2.1=(List.length l:Int)) with
        | false=>
          cases A09 fr.1 st.2.2.2<;>exact ⟨_,rfl,rfl,fun e=>by cases e⟩
        | true=>
          have hn:=of_decide_eq_true hn'
          cases hsm:A09 fr.1 st.2.2.2 with
          | false=>exact ⟨_,rfl,rfl,fun e=>by cases e⟩
          | true=>
            have hg:B4j st:=⟨he.1,he.2,hd2.1,hd2.2,by omega,fr.1,hu,hsm⟩
            simp only [Bool.not_true,cond_false]
            rw [hn,C0U st h l.length hll,A0 (show (0:Int)≤(List.length l:Int) by omega),A0 (show (List.length l:Int)≤(st.1.1.length:Int) by omega),Int.toNat_natCast,List.take_length]
            simp only [cond_true]
            have hdr:B2k (st.1.1.drop l.length):=⟨by rw [List.length_drop];omega,fun s hs=>h.2 s (List.mem_of_mem_drop hs)⟩
            rw [C1U _ hdr]
            have htop:decide (st.2.1>A2o (st.1.1.drop l.length))=((st.1.1.drop l.length).all fun s=>!A1M st.2.1 s):=by
              have:=B1T st.2.1 (st.1.1.drop l.length) (-1)
              rw [A0 (show (-1:Int)<st.2.1 by omega),Bool.true_and] at this
              exact this
            simp only [htop]
            by_cases hl0:(List.length l:Int)>0
            · rw [A0 hl0,w64 (n:=(List.length l:Int)-1) (by omega) (by omega),A0 (show (0:Int)≤(List.length l:Int)-1 by omega),A0 (show (List.length l:Int)-1<(List.length l:Int) by omega)]
              simp only [cond_true]
              have hlt:decide (st.2.1<(rd A4u l ((List.length l:Int)-1)).1)=decide ((rd A4u l ((List.length l:Int)-1)).1>st.2.1):=rfl
              rw [hlt]
              cases decide ((rd A4u l ((List.length l:Int)-1)).1>st.2.1) with
              | true=>exact ⟨_,rfl,rfl,fun e=>by cases e⟩
              | false=>exact ⟨_,rfl,rfl,fun _=>hg⟩
            · rw [A3 hl0]
              exact ⟨_,rfl,rfl,fun _=>hg⟩
theorem C30(x:A9):B0V A1l x=D8 M2 x:=by
  have e:A1l=M2:=by funext r;rw [C2r,A47]
  rw [e]
  rfl
theorem D14(x:A9)(h:x.2.length≤1048576):∃ z,C5 (D8 M2 x) (0,())=some z∧(z=.inl ()∨z=.inr (false,())):=by
  have key:=A45 (D8 M2 x) (fun i=>((i:Int),())) x.2.length (fun i=>if i<x.2.length then .inr (false,()) else .inl ()) (fun i=>P0 (rd J7 x.2 (i:Int)).2) (fun i hi=>?_) ?_
  · refine ⟨_,key,?_⟩
    split
    · exact .inr rfl
    · exact .inl rfl
  · have g1:((i:Int)<(x.2.length:Int)):=by omega
    have g2:(0:Int)≤(i:Int):=by omega
    simp only [D8,A0 g1,A0 g2,cond_true,A47,A4,if_pos hi]
    rw [w64 (by omega) (by omega)]
    cases P0 (rd J7 x.2 (i:Int)).2<;>rfl
  · simp [D8]
theorem B0g(x:A9)(h:B2k x.1.1.1)(h2:x.2.length≤1048576):∃ b,E7 x=some (b,())∧R7 x=some (b,())∧(b=true→D0 x.1=some (true,())∧B4j x.1∧x.2.length≤200):=by
  obtain ⟨z,hz,hz2⟩:=D14 x h2
  obtain ⟨b,hs,hi,hg⟩:=B8A x.1 h
  simp only [E7,A10,R7,A8g,C30,hz,hs,hi]
  rcases hz2 with rfl | rfl
  · by_cases hl:(x.2.length:Int)≤200
    · rw [A0 hl]
      exact ⟨b,rfl,rfl,fun e=>⟨by rw [e],hg e,by omega⟩⟩
    · rw [A3 hl]
      exact ⟨_,rfl,rfl,fun e=>by cases e⟩
  · exact ⟨_,rfl,rfl,fun e=>by cases e⟩
theorem D22{k:K}{b:List k.T}{i:Nat}(h:i<b.length)(u:k.T):rd k (b.set i u) (i:Int)=u:=by
  rw [E3 (xs:=b.set i u) (by simpa using h)]
  simp
theorem C0V(a:List ByteArray)(h:a.length≤1048576):H3 a=some (a,()):=by
  simp only [H3,Q8]
  have e:(bif decide (([]:List ByteArray).length+a.length≤9223372036854775807) then bif decide ((([]:List ByteArray).length+a.length)*16≤140737488355328) then some (([]++a),()) else none else none)=some (a,()):=by
    rw [A0 (by simp;omega),A0 (by simp;omega)]
    simp
  rw [e]
  cases a with
  | nil=>simp [B7z]
  | cons x xs=>simp
theorem C7h(a:List R1)(h:a.length≤1048576):E1 a=some (a,()):=by
  simp only [E1,L5]
  have e:(bif decide (([]:List R1).length+a.length≤9223372036854775807) then bif decide ((([]:List R1).length+a.length)*24≤140737488355328) then some (([]++a),()) else none else none)=some (a,()):=by
    rw [A0 (by simp;omega),A0 (by simp;omega)]
    simp
  rw [e]
  cases a with
  | nil=>simp [B7z]
  | cons x xs=>simp
def A7M(d:G2):Prop:=B2k d.1∧B2k d.2
def A5n(s:A5):Prop:=A7M s.1∧List.length s.2.2.2≤1048576∧∀ u∈s.2.2.2,List.length u.2.2.1≤2000000000
def C31(s:A9):Prop:=A5n s.1∧List.length s.2≤1048576
theorem B9f(d:G2)(h:A7M d):A2W d=some (d,()):=by
  simp only [A2W,A8h,C0V _ h.1.1,C0V _ h.2.1,A4]
theorem A6u(d:G2)(h:A7M d):S1 d=some (d,()):=by
  have h1:=h.1.1
  have h2:=h.2.1
  simp only [S1,B0P]
  rw [A0 (by simp;omega),A0 (by simp;omega),A0 (by simp;omega),A0 (by simp;omega)]
  simp
theorem C32(u:TUp)(h:List.length u.2.2.1≤2000000000):A3O u=some (u,()):=by
  simp only [A3O,B2i,B22 _ (show List.length u.2.2.1≤140737488355328 by omega),A4]
theorem B8B(s:A5)(h:A5n s):A1J s=some (s,()):=by
  simp only [A1J,A6r,B9f _ h.1,A4]
  have hl:=h.2.1
  have key:=I1 (A1X A3O s) (fun i=>((i:Int),s.2.1,s.2.2.1,s.1.1,s.1.2,s.2.2.2.take i,())) s.2.2.2.length (s,()) (fun i hi=>?_) ?_
  · simpa using key
  · have g1:((i:Int)<(s.2.2.2.length:Int)):=by omega
    have g2:(0:Int)≤(i:Int):=by omega
    simp only [A1X,A0 g1,A0 g2,cond_true]
    rw [E3 (k:=kUp) (xs:=s.2.2.2) hi,C32 _ (h.2.2 _ (List.getElem_mem hi))]
    simp only [A4]
    rw [A0 (by simp;omega),A0 (by simp;omega),w64 (by omega) (by omega),List.take_succ_eq_append_getElem hi]
    rfl
  · simp [A1X]
theorem T1(s:A5)(h:A5n s):G6 s=some (s,()):=by
  simp only [G6,A6H,A6u _ h.1,B2j _ h.2.1 h.2.2,A4]
theorem B6I(s:A9)(h:C31 s):A0l s=some (s,()):=by
  simp only [A0l,A5j,B8B _ h.1,C7h _ h.2,A4]
theorem A4K(s:A9)(h:C31 s):S2 s=some (s,()):=by
  have h2:=h.2
  simp only [S2,A6I,T1 _ h.1,A4]
  rw [A0 (by simp;omega),A0 (by simp;omega)]
  simp
theorem B8C(d:G2)(h:A7M d):A1I d=some ((d.1,d.1),()):=by
  have h1:=h.1.1
  simp only [A1I,A6p]
  rw [A0 (by simp;omega),A0 (by simp;omega)]
  simp
theorem B9g(d:G2)(h:B2k d.1):A2O d=some (A2o d.1,()):=by
  have hl:=h.1
  simp only [A2O,A8U]
  have key:=I1 (A2N I2 d) (fun i=>((d.1.take i).foldl A22 (-1),(i:Int),())) d.1.length (A2o d.1,()) (fun i hi=>?_) ?_
  · simpa using key
  · have g1:((i:Int)<(d.1.length:Int)):=by omega
    have g2:(0:Int)≤(i:Int):=by omega
    simp only [A2N,A0 g1,A0 g2,cond_true]
    rw [A48 _ (A6Y h hi),w64 (by omega) (by omega)]
    simp only [A4]
    have e:(d.1.take (i+1)).foldl A22 (-1)=A22 ((d.1.take i).foldl A22 (-1)) (rd .str d.1 (i:Int)):=by
      rw [List.take_succ_eq_append_getElem hi,List.foldl_append,A3V hi]
      rfl
    rw [e]
    generalize (d.1.take i).foldl A22 (-1)=t
    unfold A22
    cases (C2 (rd .str d.1 (i:Int))).2.1
    · rfl
    · cases decide ((C2 (rd .str d.1 (i:Int))).1.1>t)<;>rfl
  · simp [A2N,A2o]
theorem C1V(s:ByteArray):(C2 s).1.1≤10000:=by
  unfold C2
  split
  · rename_i h
    simp only [A6T,Bool.and_eq_true] at h
    exact (Y4 h.1.2).2.1
  · simp [C6j]
theorem C6l(l:List ByteArray):-1≤A2o l∧A2o l≤10000:=by
  unfold A2o
  have:∀ (l:List ByteArray) (t:Int),-1≤t∧t≤10000→-1≤l.foldl A22 t∧l.foldl A22 t≤10000:=by
    intro l
    induction l with
    | nil=>exact fun t h=>h
    | cons s l ih=>
      intro t h
      refine ih _ ?_
      have h2:=C1V s
      unfold A22
      cases (C2 s).2.1 with
      | false=>exact h
      | true=>
        by_cases h3:(C2 s).1.1>t
        · rw [A0 h3];simp only [cond_true];omega
        · rw [A3 h3];exact h
  exact this l (-1) (by omega)
theorem C33{l:List ByteArray}(h:B2k l)(i:Nat){s:ByteArray}(hs:s.size≤1048576):B2k (l.set i s):=⟨by rw [List.length_set];exact h.1,fun x hx=>(List.mem_or_eq_of_mem_set hx).elim (h.2 x) (fun e=>by rw [e];exact hs)⟩
def C1W(op:Int):Int:=if op=1 then 1000000000 else if op=3 then 1000000000 else if op=4 then 4294967295 else 0
def B4k(r:W4):Bool:=decide (1≤r.1∧r.1≤6)&&idB r.2.1&&decide (0≤r.2.2∧r.2.2≤C1W r.1)
theorem B8D(r:W4)(h:r.2.1.size≤maxLen):A7G r=some (B4k r,()):=by
  simp only [A7G,B4Y,A1e,A7J _ h,A4,B4k,S3,A40,C1W]
  cases decide (1≤r.1∧r.1≤6)
  · rfl
  cases idB r.2.1
  · rfl
  simp only [Bool.not_true,cond_false,B7,Bool.true_and]
  have hz:decide (0≤r.2.2∧r.2.2≤0)=decide (r.2.2=0):=by
    by_cases h0:r.2.2=0
    · rw [A0 h0,A0 (by omega)]
    · rw [A3 h0,A3 (by omega)]
  by_cases h1:r.1=1
  · simp [h1]
  by_cases h3:r.1=3
  · simp [h3]
  by_cases h4:r.1=4
  · simp [h4]
  simp [h1,h3,h4]
  rw [Bool.eq_iff_iff]
  simp
  omega
theorem C4u(r:W4)(h:r.2.1.size≤maxLen):A7I r=some (B4k r,()):=by
  simp only [A7I,B4b,A0m,B1S _ h,A4,B4k,A1Z,A4G,C1W]
  by_cases h1:r.1=1
  · simp [h1];cases idB r.2.1<;>simp
  by_cases h3:r.1=3
  · simp [h3];cases idB r.2.1<;>simp
  by_cases h4:r.1=4
  · simp [h4];cases idB r.2.1<;>simp
  simp only [A3 h1,A3 h3,A3 h4,if_neg h1,if_neg h3,if_neg h4,cond_false]
  cases decide (1≤r.1∧r.1≤6)<;>cases idB r.2.1<;>simp
theorem C7i{a b:List Int}(ha:Byt a)(hb:Byt b)(h:(strOf a).toList=(strOf b).toList):a=b:=by
  rw [ByteArray.toList_eq,ByteArray.toList_eq] at h
  have h2:(a.map fun n=>UInt8.ofNat n.toNat)=b.map fun n=>UInt8.ofNat n.toNat:=h
  have hl:a.length=b.length:=by simpa using congrArg List.length h2
  refine List.ext_getElem hl fun i h1 h3=>?_
  have h4:=congrArg (fun l=>l[i]?) h2
  simp only [List.getElem?_map,List.getElem?_eq_getElem h1,List.getElem?_eq_getElem h3,Option.map_some,Option.some.injEq] at h4
  exact D20 (ha _ (List.getElem_mem h1)) (hb _ (List.getElem_mem h3)) h4
theorem C1X{a b:ByteArray}(h:a.toList=b.toList):a=b:=by
  rw [ByteArray.toList_eq,ByteArray.toList_eq] at h
  obtain ⟨⟨a⟩⟩:=a
  obtain ⟨⟨b⟩⟩:=b
  have h:a=b:=h
  rw [h]
theorem C7j{a b:TUp}(ha:Byt a.2.2.1)(hb:Byt b.2.2.1)(h:A3q a b=true):a=b:=by
  simp only [A3q,Bool.and_eq_true,beq_iff_eq,decide_eq_true_eq] at h
  obtain ⟨⟨⟨h1,h2⟩,h3⟩,h4⟩:=h
  obtain ⟨a1,a2,a3,a4⟩:=a
  obtain ⟨b1,b2,b3,b4⟩:=b
  simp only at h1 h2 h3 h4 ha hb
  rw [C1X h1,h2,h3,C7i ha hb h4]
theorem B8E{a b:List TUp}(ha:∀ u∈a,Byt u.2.2.1)(hb:∀ u∈b,Byt u.2.2.1)(h:A09 a b=true):a=b:=by
  simp only [A09,Bool.and_eq_true,decide_eq_true_eq,List.all_eq_true,List.mem_range] at h
  refine List.ext_getElem h.1 fun i h1 h3=>?_
  have h4:=h.2 i h1
  rw [E3 (k:=kUp) (xs:=a) h1,E3 (k:=kUp) (xs:=b) h3] at h4
  exact C7j (ha _ (List.getElem_mem h1)) (hb _ (List.getElem_mem h3)) h4
theorem C4v{st:A5}(h:B4j st)(hb:∀ u∈st.2.2.2,Byt u.2.2.1):Ups st.2.2.2:=by
  obtain ⟨_,_,_,_,_,us,hu,hs⟩:=h
  rw [← B8E (fun u hu'=>(hu.2.2 u hu').2.2.2) hb hs]
  exact hu
def wrote(st:A5)(r:E9)(us:List TUp):A5:=((st.1.1.set st.2.2.1.toNat (S0 r),st.1.2),st.2.1,st.2.2.1+1,us)
theorem A8n(st:A5)(a b kind:Int)(id:ByteArray)(n:Int)(data:List Int)(hU:Ups st.2.2.2)(hr:N3 (st.2.1,st.2.2.1,kind,id,n,data)=true)(hb:Byt data)(h0:0≤st.2.2.1)(h1:st.2.2.1<(st.1.1.length:Int))(hl:st.1.1.length≤1048576)
    (us:List TUp) (hf:K0 st.2.2.2 (st.2.1,st.2.2.1,kind,id,n,data)=some us):C8 st (a,b,kind,id,n,data)=some (wrote st (st.2.1,st.2.2.1,kind,id,n,data) us,()):=by
  have hbd:=Y4 hr
  simp only at hbd
  simp only [C8,A1k]
  rw [B5a (st.2.1,st.2.2.1,kind,id,n,data) (by simp only;omega) (by simp only;omega) hb,A0 h0,A0 h1]
  simp only [A4,cond_true]
  obtain ⟨x,hx,hx2⟩:=C2x st.2.2.2 (st.2.1,st.2.2.1,kind,id,n,data) hU (by simp only;omega)
  have hI:A9F st.2.2.2 (st.2.1,st.2.2.1,kind,id,n,data)=(us,true,()):=by unfold A9F;rw [hf]
  rw [hI] at hx hx2
  rw [hx,hx2 rfl,w64 (by omega) (by omega)]
  rfl
theorem A8o(st:A5)(kind:Int)(id:ByteArray)(n:Int)(data:List Int)(hU:Ups st.2.2.2)(hr:N3 (st.2.1,st.2.2.1,kind,id,n,data)=true)(hb:Byt data)(h0:0≤st.2.2.1)(h1:st.2.2.1<(st.1.1.length:Int))(hl:st.1.1.length≤1048576)
    (us:List TUp) (hf:K0 st.2.2.2 (st.2.1,st.2.2.1,kind,id,n,data)=some us):B9 st kind id n data=some (wrote st (st.2.1,st.2.2.1,kind,id,n,data) us,()):=by
  have hbd:=Y4 hr
  simp only at hbd
  simp only [B9,A0R]
  rw [B5b (st.2.1,st.2.2.1,kind,id,n,data) (by simp only [maxLen];omega) hb,if_pos hr,A0 h0,A0 h1]
  simp only [A4,cond_true]
  have hI:A9F st.2.2.2 (st.2.1,st.2.2.1,kind,id,n,data)=(us,true,()):=by unfold A9F;rw [hf]
  rw [C0R st.2.2.2 (st.2.1,st.2.2.1,kind,id,n,data) hU (by simp only;omega),hI,w64 (by omega) (by omega)]
  rfl
theorem C34{r:E9}(h:N3 r=true):(S0 r).size≤1000:=by
  have hb:=Y4 h
  unfold S0
  rw [A8m,List.length_append,B0b,I5]
  omega
theorem C4w{st:A5}(h:A7M st.1){r:E9}(hr:N3 r=true)(us:List TUp):A7M (wrote st r us).1:=⟨C33 h.1 _ (by have:=C34 hr;omega),h.2⟩
theorem A5G(us:List TUp)(id:ByteArray)(h:us.length≤maxLen):E2 us id=some (if F3 us id=true then (A8 us id:Int) else -1):=by
  simp only [E2,C0Q us id h,A4]
  cases F3 us id<;>rfl
theorem B1U(us:List TUp)(id:ByteArray)(h:Ups us):M8 us id=some (if F3 us id=true then (A8 us id:Int) else -1,()):=by
  have hl:=h.2.1
  rw [B84 us id (by simp only [maxLen];omega)]
  cases hh:F3 us id with
  | true=>
    obtain ⟨hlt,_⟩:=G4.1 hh
    rw [B88 h.1 hh,if_pos hlt,if_pos rfl]
  | false=>rw [B89 h.1 hh,if_neg (Nat.lt_irrefl _),if_neg (by simp)]
theorem B1V(st:A5)(h0:0≤st.2.2.1)(h1:st.2.2.1≤(st.1.1.length:Int))(hl:st.1.1.length≤1048576):J5 st=some ((st.1.1.length:Int)-st.2.2.1,st,()):=by
  simp only [J5,A5k]
  rw [w64 (by omega) (by omega)]
theorem B1W(st:A5)(h0:0≤st.2.2.1)(h1:st.2.2.1≤(st.1.1.length:Int))(hl:st.1.1.length≤1048576):P2 st=some ((st.1.1.length:Int)-st.2.2.1,()):=by
  simp only [P2,B0Q]
  rw [w64 (by omega) (by omega)]
def G1(n:Int):G2:=if 0≤n∧n≤200 then (List.replicate n.toNat ⟨#[]⟩,List.replicate n.toNat ⟨#[]⟩) else ([],[])
theorem B3U(n:Int):A41 n=some (G1 n,()):=by
  simp only [A41,B0S,G1]
  by_cases h:0≤n∧n≤200
  · rw [if_pos h]
    have key:=I1 (A1H n) (fun i=>((i:Int),List.replicate i ⟨#[]⟩,List.replicate i ⟨#[]⟩,())) n.toNat ((List.replicate n.toNat ⟨#[]⟩,List.replicate n.toNat ⟨#[]⟩),()) (fun i hi=>?_) ?_
    · exact key
    · have h1:(i:Int)<n:=by omega
      simp only [A1H,A0 h1,A0 h.2,cond_true,B7]
      rw [A0 (by simp;omega),A0 (by simp;omega)]
      simp only [cond_true]
      rw [w64 (by omega) (by omega),List.replicate_succ']
      rfl
    · have h1:¬ ((n.toNat:Int)<n):=by omega
      simp only [A1H,A3 h1,cond_false,B7]
  · rw [if_neg h]
    refine C7d ?_
    simp only [A1H]
    by_cases h1:(0:Int)<n
    · rw [A0 h1,A3 (show ¬ n≤200 by omega)];rfl
    · rw [A3 h1];rfl
def A0Q(n:Int):A9:=((G1 n,0,0,[]),[])
theorem B8F(n:Int):R2 n=some (A0Q n,()):=by
  simp only [R2,A1A,Z9,A4w,B3U,A4,A0Q]
theorem bO{α β:Type}(x:α)(f:α→Option β):A4 (some x) f=f x:=rfl
theorem A23(c:B5)(n:Int)(h:Cur c)(hn:0<n∧n<9223372036854775808):∃ b c',L4 c n=some (b,c',())∧Cur c':=by
  obtain ⟨r,c',e,hc,_⟩:=K2 c n h hn
  simp only [L4,B2a,e,A4]
  exact ⟨_,_,rfl,hc⟩
theorem B8G(c:B5)(h:Cur c):∃ k c',M0 c=some (k,c',())∧Cur c':=by
  obtain ⟨n,c1,q1,h1,n0,n1⟩:=K2 c 8 h (by omega)
  simp only [M0,A3T,q1,A4]
  obtain ⟨z,e,hz⟩:=A0P (A1o L4) (fun l=>l.1.toNat) (fun l=>l.1≤8∧Cur (l.2.1,(l.2.2.1,l.2.2.2.1))∧(List.length l.2.2.2.2.1:Int)+l.1≤8) (fun z=>Cur z.2.1) (fun l hl=>by
    obtain ⟨g0,g1,g2⟩:=hl
    simp only [A1o]
    by_cases hi:l.1>0
    · obtain ⟨b,c3,q3,h3⟩:=A23 (l.2.1,(l.2.2.1,l.2.2.2.1)) 2 g1 (by omega)
      rw [A0 hi]
      simp only [cond_true,q3,A4]
      rw [A0 (by simp;omega),A0 (by simp;omega),w64 (by omega) (by omega)]
      exact .inl ⟨_,rfl,⟨by simp only;omega,h3,by simp;omega⟩,by simp only;omega⟩
    · rw [A3 hi]
      exact .inr ⟨_,rfl,g1⟩) (n,c1.1,c1.2.1,c1.2.2,[],()) ⟨by simp only;omega,h1,by simp;omega⟩
  exact ⟨z.1,z.2.1,e,hz⟩
theorem C7k{us:List TUp}{id:ByteArray}(hh:F3 us id=true)(u:TUp)(hu:u.1=(rd kUp us (A8 us id:Int)).1):F3 (us.set (A8 us id) u) id=true∧A8 (us.set (A8 us id) u) id=A8 us id∧rd kUp (us.set (A8 us id) u) (A8 us id:Int)=u:=by
  obtain ⟨hlt,hid⟩:=G4.1 hh
  rw [E3 (k:=kUp) (xs:=us) hlt] at hu
  have hk:∀ q (hq:q<us.length),((us.set (A8 us id) u)[q]'(by simpa using hq)).1=us[q].1:=fun q hq=>by
    rw [List.getElem_set]
    split
    · rename_i e;subst e;exact hu
    · rfl
  have hrd:rd kUp (us.set (A8 us id) u) (A8 us id:Int)=u:=D22 (k:=kUp) hlt u
  have e1:A8 (us.set (A8 us id) u) id=A8 us id:=by
    refine A6V _ (us.set (A8 us id) u).length _ (by simp;omega) (fun j hj=>?_) (fun _=>?_)
    · rw [E3 (k:=kUp) (xs:=us.set (A8 us id) u) (by simp;omega),hk j (by omega)]
      exact B0d hj
    · rw [hrd,hu]
      exact B3S hlt
  refine ⟨?_,e1,hrd⟩
  unfold F3
  rw [e1,hrd,hu,hid]
  simp
  omega
theorem C9v(st:A5)(id:ByteArray)(hU:Ups st.2.2.2):∃ u b,P3 st id=some (u,b,())∧(List.length u.2.2.1:Int)≤u.2.1∧u.2.1≤1000000000∧Byt u.2.2.1:=by
  simp only [P3,B0R]
  rw [B1U st.2.2.2 id hU]
  cases hh:F3 st.2.2.2 id with
  | false=>
    simp only [Bool.false_eq_true,if_false,bO]
    rw [A0 (show (-1:Int)<0 by omega)]
    exact ⟨_,_,rfl,by simp,by simp,Q1⟩
  | true=>
    obtain ⟨hlt,hid2⟩:=G4.1 hh
    have hrd:rd kUp st.2.2.2 (A8 st.2.2.2 id:Int)=st.2.2.2[A8 st.2.2.2 id]:=E3 (k:=kUp) (xs:=st.2.2.2) hlt
    have hu:=hU.2.2 _ (List.getElem_mem hlt)
    rw [← hrd] at hu
    have h1:=hu.1
    have h2:=hu.2.1
    simp only [if_true,bO]
    rw [A3 (show ¬ (A8 st.2.2.2 id:Int)<0 by omega),A0 (show (0:Int)≤(A8 st.2.2.2 id:Int) by omega),A0 (show (A8 st.2.2.2 id:Int)<(st.2.2.2.length:Int) by omega)]
    simp only [cond_true,cond_false]
    rw [A0 (by simp;omega),A0 (by simp;omega)]
    simp only [cond_true,List.nil_append]
    exact ⟨_,_,rfl,h1,h2,hu.2.2.2⟩
theorem C6m{l:List ByteArray}{s:ByteArray}(hs:s∈l)(hk:(C2 s).2.1=true):(C2 s).1.1≤A2o l:=by
  have h:=B1T (C2 s).1.1 l (-1)
  by_cases hx:(C2 s).1.1≤A2o l
  · exact hx
  · exfalso
    have h1:decide (l.foldl A22 (-1)<(C2 s).1.1)=true:=decide_eq_true (by have:A2o l=l.foldl A22 (-1):=rfl;omega)
    rw [h1] at h
    have h2:=(Bool.and_eq_true _ _▸h.symm:_∧_).2
    have h3:=List.all_eq_true.1 h2 s hs
    simp only [A1M,hk,Bool.true_and] at h3
    rw [A0 (by omega)] at h3
    cases h3
def A4A(d:G2):Bool:=decide (d.1.length=d.2.length∧d.1.length≤200)&&((List.range d.1.length).all fun i=>!decide (((rd .str d.1 (i:Int)).size:Int)>64)&&!decide (((rd .str d.2 (i:Int)).size:Int)>64))
theorem B0h(d:G2):Q4 d=some (A4A d,()):=by
  simp only [Q4,A8N,A4A]
  by_cases h1:(d.1.length:Int)=(d.2.length:Int)
  · rw [A0 h1]
    by_cases h2:(d.1.length:Int)>200
    · rw [A0 h2,A3 (show ¬ (d.1.length=d.2.length∧d.1.length≤200) by omega)]
      rfl
    · rw [A3 h2,A0 (show d.1.length=d.2.length∧d.1.length≤200 by omega)]
      simp only [Bool.not_true,cond_false,B7,Bool.true_and]
      refine C0N (Z4 d) d.1.length (by simp only [maxLen];omega) (fun i=>!decide (((rd .str d.1 (i:Int)).size:Int)>64)&&!decide (((rd .str d.2 (i:Int)).size:Int)>64)) (fun i hi=>?_) (by simp [Z4])
      have g1:((i:Int)<(d.1.length:Int)):=by omega
      have g2:(0:Int)≤(i:Int):=by omega
      have g3:((i:Int)<(d.2.length:Int)):=by omega
      simp only [Z4,A0 g1,A0 g2,A0 g3,cond_true]
      cases decide (((rd .str d.1 (i:Int)).size:Int)>64)<;>cases decide (((rd .str d.2 (i:Int)).size:Int)>64)<;>rfl
  · rw [A3 h1,A3 (show ¬ (d.1.length=d.2.length∧d.1.length≤200) by omega)]
    rfl
theorem C7l{d:G2}(h:A4A d=true):A4A (d.1,d.1)=true:=by
  simp only [A4A,Bool.and_eq_true] at h ⊢
  refine ⟨decide_eq_true ⟨trivial,(of_decide_eq_true h.1).2⟩,List.all_eq_true.2 fun i hi=>?_⟩
  have:=List.all_eq_true.1 h.2 i hi
  simp only [Bool.and_eq_true] at this ⊢
  exact ⟨this.1,this.1⟩
theorem B23(us:List TUp):A09 us us=true:=by
  simp only [A09,Bool.and_eq_true]
  refine ⟨decide_eq_true trivial,List.all_eq_true.2 fun i hi=>?_⟩
  simp [A3q]
theorem B8H(a:List Int)(h:a.length≤maxLen):A0O a a=some (true,()):=by
  simp only [A0O,A6s,decide_true,Bool.not_true,cond_false]
  have e:=C0N (A1c a a) a.length h (fun _=>true) (fun i hi=>by
    have g1:((i:Int)<(a.length:Int)):=by omega
    have g2:(0:Int)≤(i:Int):=by omega
    simp only [A1c,A0 g1,A0 g2,cond_true,decide_true,Bool.not_true,cond_false]) (by simp [A1c])
  rw [e]
  simp
theorem C1Y(us:List TUp)(h:Ups us):A44 us us=some (true,()):=by
  have hul:=h.2.1
  simp only [A44,B0W,decide_true,Bool.not_true,cond_false]
  have e:=C0N (A3p A0O us us) us.length (by simp only [maxLen];omega) (fun _=>true) (fun i hi=>by
    have g1:((i:Int)<(us.length:Int)):=by omega
    have g2:(0:Int)≤(i:Int):=by omega
    have hdl:=A6W h _ (List.getElem_mem hi)
    have hb:=B8H us[i].2.2.1 (by simp only [maxLen];omega)
    simp only [A3p,A0 g1,A0 g2,cond_true,E3 (k:=kUp) (xs:=us) hi,beq_self_eq_true,decide_true,Bool.not_true,cond_false]
    rw [hb]
    rfl) (by simp [A3p])
  rw [e]
  simp
def C6n(us:List TUp)(id:ByteArray)(ch:List Int):List TUp:=
  us.set (A8 us id) ((rd kUp us (A8 us id:Int)).1,(rd kUp us (A8 us id:Int)).2.1,(rd kUp us (A8 us id:Int)).2.2.1++ch,(rd kUp us (A8 us id:Int)).2.2.2)
def C9w(st:A5)(id:ByteArray)(n:Int)(ch:List Int):A5:=wrote st (st.2.1,st.2.2.1,2,id,n,ch) (C6n st.2.2.2 id ch)
def putAt(st:A5)(id:ByteArray)(off:Int)(dat:List Int):Nat→A5
  | 0=>st
  | j+1=>C9w (putAt st id off dat j) id (off+((j*24:Nat):Int)) (M1 24 dat j)
def nPc(dat:List Int):Nat:=(dat.length+24-1) / 24
structure C4x (st:A5) (id:ByteArray) (off:Int) (dat:List Int):Prop where
  idok:idB id=true
  ep:0≤st.2.1∧st.2.1≤10000
  nx:0≤st.2.2.1∧st.2.2.1+(nPc dat:Int)≤(st.1.1.length:Int)
  len:st.1.1.length≤200
  dk:A7M st.1
  up:Ups st.2.2.2
  has:F3 st.2.2.2 id=true
  nd:(rd kUp st.2.2.2 (A8 st.2.2.2 id:Int)).2.2.2=false
  at':off=(List.length (rd kUp st.2.2.2 (A8 st.2.2.2 id:Int)).2.2.1:Int)
  fits:off+(dat.length:Int)≤(rd kUp st.2.2.2 (A8 st.2.2.2 id:Int)).2.1
  byt:Byt dat
  lo:1≤dat.length
structure D15 (st:A5) (id:ByteArray) (off:Int) (dat:List Int) (j:Nat) (s:A5):Prop where
  ep:s.2.1=st.2.1
  nx:s.2.2.1=st.2.2.1+(j:Int)
  len:s.1.1.length=st.1.1.length
  dk:A7M s.1
  up:Ups s.2.2.2
  has:F3 s.2.2.2 id=true
  ix:A8 s.2.2.2 id=A8 st.2.2.2 id
  val:rd kUp s.2.2.2 (A8 s.2.2.2 id:Int)=((rd kUp st.2.2.2 (A8 st.2.2.2 id:Int)).1,(rd kUp st.2.2.2 (A8 st.2.2.2 id:Int)).2.1,(rd kUp st.2.2.2 (A8 st.2.2.2 id:Int)).2.2.1++dat.take (j*24),false)
theorem B2l(dat:List Int)(j:Nat)(h:j*24<dat.length):1≤(M1 24 dat j).length∧(M1 24 dat j).length≤24∧(M1 24 dat j).length=min (j*24+24) dat.length-j*24:=by
  have e:(M1 24 dat j).length=min (j*24+24) dat.length-j*24:=by unfold M1;rw [List.length_drop,List.length_take]
  rw [e]
  refine ⟨by omega,by omega,rfl⟩
theorem C35(dat:List Int)(j:Nat):dat.take (j*24)++M1 24 dat j=dat.take ((j+1)*24):=by
  have h:=List.take_append_drop (j*24) (dat.take (j*24+24))
  rw [List.take_take,Nat.min_eq_left (by omega)] at h
  rw [show (j+1)*24=j*24+24 by omega]
  exact h
theorem B0i{dat:List Int}{j:Nat}:j<nPc dat↔j*24<dat.length:=by
  unfold nPc
  omega
theorem B3V{st:A5}{id:ByteArray}{off:Int}{dat:List Int}(hc:C4x st id off dat){j:Nat}{s:A5}(h:D15 st id off dat j s)(hj:j<nPc dat) :
    N3 (s.2.1,s.2.2.1,2,id,off+((j*24:Nat):Int),M1 24 dat j)=true∧K0 s.2.2.2 (s.2.1,s.2.2.1,2,id,off+((j*24:Nat):Int),M1 24 dat j)=some (C6n s.2.2.2 id (M1 24 dat j))∧
      D15 st id off dat (j+1) (C9w s id (off+((j*24:Nat):Int)) (M1 24 dat j)):=by
  obtain ⟨p1,p2,p3⟩:=B2l dat j (B0i.1 hj)
  have hj2:=B0i.1 hj
  have hlen0:(List.length (dat.take (j*24)):Int)=((j*24:Nat):Int):=by rw [List.length_take];omega
  obtain ⟨hlt,_⟩:=G4.1 hc.has
  have hu:=hc.up.2.2 _ (List.getElem_mem hlt)
  rw [← E3 (k:=kUp) hlt] at hu
  have hu1:=hu.1
  have hu2:=hu.2.1
  have hat:=hc.at'
  have hft:=hc.fits
  have hn1:=hc.nx.1
  have hn2:=hc.nx.2
  have hl:=hc.len
  have hnx:=h.nx
  have hbp:Byt (M1 24 dat j):=B0a (A5l hc.byt _) _
  have hr:N3 (s.2.1,s.2.2.1,2,id,off+((j*24:Nat):Int),M1 24 dat j)=true:=by
    simp only [N3,hc.idok,h.ep]
    rw [A0 hc.ep,A0 (show 0≤s.2.2.1∧s.2.2.1≤199 by omega),if_neg (by omega),if_pos trivial,A0 (show 0≤off+((j*24:Nat):Int)∧off+((j*24:Nat):Int)≤1000000000 by omega),A0 (show 1≤(List.length (M1 24 dat j):Int)∧(List.length (M1 24 dat j):Int)≤24 by omega)]
    rfl
  have hf:K0 s.2.2.2 (s.2.1,s.2.2.1,2,id,off+((j*24:Nat):Int),M1 24 dat j)=some (C6n s.2.2.2 id (M1 24 dat j)):=by
    have e1:(List.length (rd kUp s.2.2.2 (A8 s.2.2.2 id:Int)).2.2.1:Int)=off+((j*24:Nat):Int):=by
      rw [h.val];simp only [List.length_append];omega
    have e2:(rd kUp s.2.2.2 (A8 s.2.2.2 id:Int)).2.2.2=false:=by rw [h.val]
    have e3:@Eq Int (rd kUp s.2.2.2 (A8 s.2.2.2 id:Int)).2.1 (rd kUp st.2.2.2 (A8 st.2.2.2 id:Int)).2.1:=by rw [h.val]
    simp only [K0,h.has,e2,C6n]
    rw [if_neg (by omega),if_neg (by simp),if_pos trivial,if_neg (fun hx=>by
      rcases hx with hx | hx | hx
      · cases hx
      · exact hx e1.symm
      · have hx2:(List.length (rd kUp s.2.2.2 (A8 s.2.2.2 id:Int)).2.2.1:Int)+(List.length (M1 24 dat j):Int)>(rd kUp st.2.2.2 (A8 st.2.2.2 id:Int)).2.1:=by rw [← e3];exact hx
        omega)]
  have hus:=B0f h.up ⟨hr,hbp⟩ hf
  obtain ⟨k1,k2,k3⟩:=C7k h.has ((rd kUp s.2.2.2 (A8 s.2.2.2 id:Int)).1,(rd kUp s.2.2.2 (A8 s.2.2.2 id:Int)).2.1,(rd kUp s.2.2.2 (A8 s.2.2.2 id:Int)).2.2.1++M1 24 dat j,(rd kUp s.2.2.2 (A8 s.2.2.2 id:Int)).2.2.2) rfl
  refine ⟨hr,hf,h.ep,?_,?_,C4w h.dk hr _,hus,k1,k2.trans h.ix,?_⟩
  · show s.2.2.1+1=st.2.2.1+((j+1:Nat):Int)
    omega
  · show (s.1.1.set _ _).length=_
    rw [List.length_set];exact h.len
  · show rd kUp (s.2.2.2.set (A8 s.2.2.2 id) _) ((A8 (s.2.2.2.set (A8 s.2.2.2 id) _) id:Nat):Int)=_
    rw [k2,k3,h.val]
    simp only [List.append_assoc,C35]
theorem D23{st:A5}{id:ByteArray}{off:Int}{dat:List Int}(hc:C4x st id off dat):D15 st id off dat 0 st:=
  ⟨rfl,by simp,rfl,hc.dk,hc.up,hc.has,rfl,by
    have e2:(rd kUp st.2.2.2 (A8 st.2.2.2 id:Int)).2.2.2=false:=hc.nd
    rw [Nat.zero_mul,List.take_zero,List.append_nil,← e2]⟩
theorem B1X{st:A5}{id:ByteArray}{off:Int}{dat:List Int}(hc:C4x st id off dat):∀ j,j≤nPc dat→D15 st id off dat j (putAt st id off dat j)
  | 0,_=>D23 hc
  | j+1,hj=>(B3V hc (B1X hc j (by omega)) (by omega)).2.2
theorem B8I{st:A5}{id:ByteArray}{off:Int}{dat:List Int}(hc:C4x st id off dat):∀ (k j:Nat),j+k=nPc dat→∀ o:Int,(j<nPc dat→o=off+((j*24:Nat):Int))→
    ∃ o',B1v (A0V B9 id) ((pieces 24 dat).drop j) (o,(putAt st id off dat j).2.1,(putAt st id off dat j).2.2.1,(putAt st id off dat j).1.1,(putAt st id off dat j).1.2,(putAt st id off dat j).2.2.2,()) =
      some (o',(putAt st id off dat (nPc dat)).2.1,(putAt st id off dat (nPc dat)).2.2.1,(putAt st id off dat (nPc dat)).1.1,(putAt st id off dat (nPc dat)).1.2,(putAt st id off dat (nPc dat)).2.2.2,())
  | 0,j,hj,o,_=>by
    rw [Nat.add_zero] at hj
    subst hj
    have:(pieces 24 dat).length=nPc dat:=by simp [pieces,nPc]
    rw [← this,List.drop_length]
    exact ⟨o,rfl⟩
  | k+1,j,hj,o,ho=>by
    have hlt:j<nPc dat:=by omega
    have hlen:(pieces 24 dat).length=nPc dat:=by simp [pieces,nPc]
    have hdrop:(pieces 24 dat).drop j=M1 24 dat j::(pieces 24 dat).drop (j+1):=by
      rw [List.drop_eq_getElem_cons (by omega)];simp [pieces]
    have ho:=ho hlt
    have hI:=B1X hc j (by omega)
    obtain ⟨hr,hf,hn⟩:=B3V hc hI hlt
    have hl:=hc.len
    have hn1:=hc.nx.1
    have hn2:=hc.nx.2
    have hnx:=hI.nx
    have hle:=hI.len
    obtain ⟨hlt',_⟩:=G4.1 hc.has
    have hu:=hc.up.2.2 _ (List.getElem_mem hlt')
    rw [← E3 (k:=kUp) hlt'] at hu
    have hu2:=hu.2.1
    have hat:=hc.at'
    have hft:=hc.fits
    obtain ⟨p1,p2,p3⟩:=B2l dat j (B0i.1 hlt)
    have hj2:=B0i.1 hlt
    have hw:=A8o (putAt st id off dat j) 2 id (off+((j*24:Nat):Int)) (M1 24 dat j) hI.up hr (B0a (A5l hc.byt _) _) (by omega) (by omega) (by omega) _ hf
    rw [hdrop]
    simp only [B1v,A0V]
    have hw':B9 (((putAt st id off dat j).1.1,(putAt st id off dat j).1.2),((putAt st id off dat j).2.1,((putAt st id off dat j).2.2.1,(putAt st id off dat j).2.2.2))) 2 id o (M1 24 dat j)=some (putAt st id off dat (j+1),()):=by
      rw [ho];exact hw
    rw [hw',w64 (by omega) (by omega)]
    simp only [A4]
    exact B8I hc k (j+1) (by omega) _ (fun hl2=>by have:=B0i.1 hl2;omega)
theorem C4y{st:A5}{id:ByteArray}{off:Int}{dat:List Int}(hc:C4x st id off dat)(h400:dat.length≤400) :
    C5 (A0U C8 dat id off) (0,st.2.1,st.2.2.1,st.1.1,st.1.2,st.2.2.2,()) =
      some ((putAt st id off dat (nPc dat)).2.1,(putAt st id off dat (nPc dat)).2.2.1,(putAt st id off dat (nPc dat)).1.1,(putAt st id off dat (nPc dat)).1.2,(putAt st id off dat (nPc dat)).2.2.2,()):=by
  obtain ⟨z,e,hz⟩:=A0P (A0U C8 dat id off) (fun l=>((dat.length:Int)+24-l.1).toNat)
    (fun l=>∃ j:Nat,j≤nPc dat∧l=(((j*24:Nat):Int),(putAt st id off dat j).2.1,(putAt st id off dat j).2.2.1,(putAt st id off dat j).1.1,(putAt st id off dat j).1.2,(putAt st id off dat j).2.2.2,()))
    (fun z=>z=((putAt st id off dat (nPc dat)).2.1,(putAt st id off dat (nPc dat)).2.2.1,(putAt st id off dat (nPc dat)).1.1,(putAt st id off dat (nPc dat)).1.2,(putAt st id off dat (nPc dat)).2.2.2,())) (fun l hl=>by
      obtain ⟨j,hj,rfl⟩:=hl
      have hI:=B1X hc j hj
      have hl:=hc.len
      have hn1:=hc.nx.1
      have hn2:=hc.nx.2
      have hnx:=hI.nx
      have hle:=hI.len
      obtain ⟨hlt',_⟩:=G4.1 hc.has
      have hu:=hc.up.2.2 _ (List.getElem_mem hlt')
      rw [← E3 (k:=kUp) hlt'] at hu
      have hu2:=hu.2.1
      have hat:=hc.at'
      have hft:=hc.fits
      simp only [A0U]
      by_cases hi:j<nPc dat
      · have hj2:=B0i.1 hi
        obtain ⟨hr,hf,hn⟩:=B3V hc hI hi
        obtain ⟨p1,p2,p3⟩:=B2l dat j hj2
        rw [A0 (show ((j*24:Nat):Int)<(dat.length:Int) by omega),w64 (n:=((j*24:Nat):Int)+24) (by omega) (by omega)]
        obtain ⟨to,hto,hto2⟩:∃ to:Int,(bif decide (((j*24:Nat):Int)+24>(dat.length:Int)) then some ((dat.length:Int),()) else some (((j*24:Nat):Int)+24,()))=some (to,())∧(to.toNat=min (j*24+24) dat.length∧0≤to):=by
          by_cases hcc:((j*24:Nat):Int)+24>(dat.length:Int)
          · rw [A0 hcc];exact ⟨_,rfl,by omega,by omega⟩
          · rw [A3 hcc];exact ⟨_,rfl,by omega,by omega⟩
        simp only [cond_true,hto,bO]
        have hpc:(dat.take to.toNat).drop ((j*24:Nat):Int).toNat=M1 24 dat j:=by
          rw [hto2.1,Int.toNat_natCast,M1,List.take_eq_take_iff.2 (show min (min (j*24+24) dat.length) dat.length=min (j*24+24) dat.length by omega)]
        rw [hpc,A0 (show 0≤((j*24:Nat):Int) by omega),A0 (show ((j*24:Nat):Int)≤to by omega),A0 (show to≤(dat.length:Int) by omega),A0 (by simp;omega),A0 (by simp;omega),w64 (n:=off+((j*24:Nat):Int)) (by omega) (by omega)]
        simp only [cond_true,List.nil_append]
        have hw:=A8n (putAt st id off dat j) 0 0 2 id (off+((j*24:Nat):Int)) (M1 24 dat j) hI.up hr (B0a (A5l hc.byt _) _) (by omega) (by omega) (by omega) _ hf
        have hw':C8 (((putAt st id off dat j).1.1,(putAt st id off dat j).1.2),((putAt st id off dat j).2.1,((putAt st id off dat j).2.2.1,(putAt st id off dat j).2.2.2))) (0,(0,(2,(id,(off+((j*24:Nat):Int),M1 24 dat j)))))=some (putAt st id off dat (j+1),()):=hw
        rw [hw']
        simp only [bO]
        refine .inl ⟨_,rfl,⟨j+1,by omega,?_⟩,by simp only;omega⟩
        rw [show ((j*24:Nat):Int)+24=(((j+1)*24:Nat):Int) by omega]
      · have:j=nPc dat:=by omega
        subst this
        have:¬ nPc dat*24<dat.length:=fun h=>hi (B0i.2 h)
        rw [A3 (show ¬ ((nPc dat*24:Nat):Int)<(dat.length:Int) by omega)]
        exact .inr ⟨_,rfl,rfl⟩) (0,st.2.1,st.2.2.1,st.1.1,st.1.2,st.2.2.2,()) ⟨0,by omega,rfl⟩
  rw [e,hz]
def A4L(st:A5)(id:ByteArray)(off:Int)(dat:List Int):A5×Int:=
  if idB id=true∧1≤dat.length∧dat.length≤400 then
    (if F3 st.2.2.2 id=true then
      (if (rd kUp st.2.2.2 (A8 st.2.2.2 id:Int)).2.2.2=true∨off≠(List.length (rd kUp st.2.2.2 (A8 st.2.2.2 id:Int)).2.2.1:Int)∨off+(dat.length:Int)>(rd kUp st.2.2.2 (A8 st.2.2.2 id:Int)).2.1 then (st,4)
       else if (st.1.1.length:Int)-st.2.2.1<(nPc dat:Int) then (st,5) else (putAt st id off dat (nPc dat),0))
     else (st,2))
  else (st,1)
theorem C9x(dat:List Int)(h:dat.length≤400):(IntKind.i64.wrap ((IntKind.i64.wrap ((IntKind.i64.wrap ((dat.length:Int)+24))-1)).tdiv 24))=(nPc dat:Int):=by
  have htd:((dat.length:Int)+24-1).tdiv 24=(nPc dat:Int):=by
    rw [Int.tdiv_eq_ediv_of_nonneg (by omega)]
    unfold nPc
    omega
  rw [w64 (n:=(dat.length:Int)+24) (by omega) (by omega),w64 (n:=(dat.length:Int)+24-1) (by omega) (by omega),htd,w64 (by unfold nPc;omega) (by unfold nPc;omega)]
structure Rt (st:A5):Prop where
  g:B4j st
  up:Ups st.2.2.2
  dk:A7M st.1
theorem B3W{st:A5}{id:ByteArray}{off:Int}{dat:List Int}(h:Rt st)(hb:Byt dat)(h1:idB id=true)(h2:1≤dat.length∧dat.length≤400)(h3:F3 st.2.2.2 id=true)
    (h4:¬ ((rd kUp st.2.2.2 (A8 st.2.2.2 id:Int)).2.2.2=true∨off≠(List.length (rd kUp st.2.2.2 (A8 st.2.2.2 id:Int)).2.2.1:Int)∨off+(dat.length:Int)>(rd kUp st.2.2.2 (A8 st.2.2.2 id:Int)).2.1))
    (h5:¬ (st.1.1.length:Int)-st.2.2.1<(nPc dat:Int)):C4x st id off dat:=by
  obtain ⟨g1,g2,g3,g4,⟨g5,g6⟩,_⟩:=h.g
  rw [not_or,not_or] at h4
  refine ⟨h1,⟨g1,g2⟩,⟨g5,by omega⟩,g4,h.dk,h.up,h3,by simpa using h4.1,Decidable.not_not.1 h4.2.1,by have h6:=h4.2.2;exact Int.not_lt.1 h6,hb,h2.1⟩
theorem C4z(st:A5)(id:ByteArray)(off:Int)(dat:List Int)(hid:id.size≤maxLen)(h:Rt st)(hb:Byt dat)(hd:dat.length≤1048576)(ho:-9223372036854775808≤off∧off≤9223372036854775807) :
    A06 st id off dat=some ((A4L st id off dat).2,(A4L st id off dat).1,()):=by
  obtain ⟨g1,g2,g3,g4,⟨g5,g6⟩,_⟩:=h.g
  have hU:=h.up
  have hl:st.1.1.length≤1048576:=by omega
  have hul:=hU.2.1
  simp only [A06,A4H,B1S id hid,A0m,bO,A4L]
  cases hidb:idB id with
  | false=>simp [B7]
  | true=>
    simp only [Bool.not_true,cond_false,true_and]
    by_cases hlen:1≤(dat.length:Int)∧(dat.length:Int)≤400
    · rw [A0 hlen,if_pos (show 1≤dat.length∧dat.length≤400 by omega)]
      simp only [Bool.not_true,cond_false,B7]
      rw [A5G st.2.2.2 id (by simp only [maxLen];omega),B1V st g5 g6 hl,C9x dat (by omega)]
      cases hh:F3 st.2.2.2 id with
      | false=>
        simp only [Bool.false_eq_true,if_false,bO]
        rw [A0 (show (-1:Int)<0 by omega)]
        rfl
      | true=>
        obtain ⟨hlt,hid2⟩:=G4.1 hh
        have hu:=hU.2.2 _ (List.getElem_mem hlt)
        rw [← E3 (k:=kUp) hlt] at hu
        have hu1:=hu.1
        have hu2:=hu.2.1
        simp only [if_true,bO]
        rw [A3 (show ¬ (A8 st.2.2.2 id:Int)<0 by omega)]
        simp only [cond_false]
        cases hdn:(rd kUp st.2.2.2 (A8 st.2.2.2 id:Int)).2.2.2 with
        | true=>simp [bO]
        | false=>
          simp only [cond_false]
          cases ho':decide (off=(List.length (rd kUp st.2.2.2 (A8 st.2.2.2 id:Int)).2.2.1:Int)) with
          | false=>
            have ho:=of_decide_eq_false ho'
            rw [if_pos (.inr (.inl ho))]
            rfl
          | true=>
            have ho:=of_decide_eq_true ho'
            simp only [Bool.not_true,cond_false,bO]
            rw [w64 (n:=off+(dat.length:Int)) (by omega) (by omega)]
            by_cases hw:off+(dat.length:Int)>(rd kUp st.2.2.2 (A8 st.2.2.2 id:Int)).2.1
            · rw [A0 hw,if_pos (.inr (.inr hw))]
              rfl
            · have hno:¬ ((rd kUp st.2.2.2 (A8 st.2.2.2 id:Int)).2.2.2=true∨off≠(List.length (rd kUp st.2.2.2 (A8 st.2.2.2 id:Int)).2.2.1:Int)∨off+(dat.length:Int)>(rd kUp st.2.2.2 (A8 st.2.2.2 id:Int)).2.1):=by
                rw [hdn];rintro (hx | hx | hx)
                · cases hx
                · exact hx ho
                · exact hw hx
              have hno':=hno
              rw [hdn] at hno'
              rw [A3 hw,if_neg hno']
              simp only [cond_false,bO]
              by_cases hleft:(st.1.1.length:Int)-st.2.2.1<(nPc dat:Int)
              · rw [A0 hleft,if_pos hleft]
                rfl
              · rw [A3 hleft,if_neg hleft,A0 (show dat.length≤1152921504606846976 by omega)]
                simp only [cond_false,cond_true]
                have hc:=B3W h hb hidb ⟨by omega,by omega⟩ hh hno hleft
                obtain ⟨o',e⟩:=B8I hc (nPc dat) 0 (by omega) off (fun _=>by simp)
                rw [List.drop_zero] at e
                have e':B1v (A0V B9 id) (pieces 24 dat) (off,st.2.1,st.2.2.1,st.1.1,st.1.2,st.2.2.2,())=_:=e
                rw [e']
                rfl
    · rw [A3 hlen,if_neg (show ¬ (1≤dat.length∧dat.length≤400) by omega)]
      rfl
theorem B8J(st:A5)(id:ByteArray)(off:Int)(dat:List Int)(hid:id.size≤maxLen)(h:Rt st)(hS:A5n st)(hok:D0 st=some (true,()))(hb:Byt dat)(hd:dat.length≤1048576)(ho:-9223372036854775808≤off∧off≤9223372036854775807) :
    Q6 st id off dat=some ((A4L st id off dat).1,(A4L st id off dat).2,()):=by
  obtain ⟨g1,g2,g3,g4,⟨g5,g6⟩,_⟩:=h.g
  have hU:=h.up
  have hl:st.1.1.length≤1048576:=by omega
  simp only [Q6,A4F,T1 st hS,hok,A7J id hid,A1e,bO,A4L]
  cases hidb:idB id with
  | false=>simp [B7]
  | true=>
    simp only [Bool.not_true,cond_false,true_and]
    by_cases hlen:1≤(dat.length:Int)∧(dat.length:Int)≤400
    · rw [A0 hlen,if_pos (show 1≤dat.length∧dat.length≤400 by omega)]
      simp only [Bool.not_true,cond_false,B7]
      rw [B1U st.2.2.2 id hU,B1W st g5 g6 hl,C9x dat (by omega)]
      cases hh:F3 st.2.2.2 id with
      | false=>
        simp only [Bool.false_eq_true,if_false,bO]
        rw [A0 (show (-1:Int)<0 by omega)]
        rfl
      | true=>
        obtain ⟨hlt,hid2⟩:=G4.1 hh
        have hu:=hU.2.2 _ (List.getElem_mem hlt)
        rw [← E3 (k:=kUp) hlt] at hu
        have hu1:=hu.1
        have hu2:=hu.2.1
        simp only [if_true,bO]
        rw [A3 (show ¬ (A8 st.2.2.2 id:Int)<0 by omega),A0 (show (0:Int)≤(A8 st.2.2.2 id:Int) by omega),A0 (show (A8 st.2.2.2 id:Int)<(st.2.2.2.length:Int) by omega)]
        simp only [cond_true,cond_false]
        cases hdn:(rd kUp st.2.2.2 (A8 st.2.2.2 id:Int)).2.2.2 with
        | true=>simp [bO]
        | false=>
          simp only [cond_false]
          cases ho':decide (off=(List.length (rd kUp st.2.2.2 (A8 st.2.2.2 id:Int)).2.2.1:Int)) with
          | false=>
            have ho:=of_decide_eq_false ho'
            rw [if_pos (.inr (.inl ho))]
            rfl
          | true=>
            have ho:=of_decide_eq_true ho'
            simp only [Bool.not_true,cond_false,bO]
            rw [w64 (n:=off+(dat.length:Int)) (by omega) (by omega)]
            by_cases hw:off+(dat.length:Int)>(rd kUp st.2.2.2 (A8 st.2.2.2 id:Int)).2.1
            · rw [A0 hw,if_pos (.inr (.inr hw))]
              rfl
            · have hno:¬ ((rd kUp st.2.2.2 (A8 st.2.2.2 id:Int)).2.2.2=true∨off≠(List.length (rd kUp st.2.2.2 (A8 st.2.2.2 id:Int)).2.2.1:Int)∨off+(dat.length:Int)>(rd kUp st.2.2.2 (A8 st.2.2.2 id:Int)).2.1):=by
                rw [hdn];rintro (hx | hx | hx)
                · cases hx
                · exact hx ho
                · exact hw hx
              have hno':=hno
              rw [hdn] at hno'
              rw [A3 hw,if_neg hno']
              simp only [cond_false,bO]
              by_cases hleft:(st.1.1.length:Int)-st.2.2.1<(nPc dat:Int)
              · rw [A0 hleft,if_pos hleft]
                rfl
              · rw [A3 hleft,if_neg hleft]
                simp only [cond_false]
                have hc:=B3W h hb hidb ⟨by omega,by omega⟩ hh hno hleft
                rw [C4y hc (by omega)]
                rfl
    · rw [A3 hlen,if_neg (show ¬ (1≤dat.length∧dat.length≤400) by omega)]
      rfl
theorem C36{st:A5}{id:ByteArray}{off:Int}{dat:List Int}(h:Rt st)(hb:Byt dat):Ups (A4L st id off dat).1.2.2.2∧A7M (A4L st id off dat).1.1:=by
  unfold A4L
  split
  · rename_i h1
    split
    · rename_i h3
      split
      · exact ⟨h.up,h.dk⟩
      · rename_i h4
        split
        · exact ⟨h.up,h.dk⟩
        · rename_i h5
          have:=B1X (B3W h hb h1.1 h1.2 h3 h4 h5) _ (Nat.le_refl _)
          exact ⟨this.up,this.dk⟩
    · exact ⟨h.up,h.dk⟩
  · exact ⟨h.up,h.dk⟩
theorem C50{s:A5}(hd:A7M s.1)(hu:Ups s.2.2.2):A5n s:=⟨hd,by have:=hu.2.1;omega,A6W hu⟩
def A2x(st:A5)(id:ByteArray)(want:Int):A5×Int:=
  if idB id=true∧0≤want∧want≤1000000 then
    (if F3 st.2.2.2 id=true then (st,3)
     else if (st.1.1.length:Int)-st.2.2.1<1∨10≤st.2.2.2.length then (st,5)
     else (wrote st (st.2.1,st.2.2.1,1,id,want,[]) (st.2.2.2.take (A8 st.2.2.2 id)++(id,want,[],false)::st.2.2.2.drop (A8 st.2.2.2 id)),0))
  else (st,1)
def A2y(st:A5)(id:ByteArray)(sum:Int):A5×Int:=
  if idB id=true then
    (if F3 st.2.2.2 id=true then
      (if (List.length (rd kUp st.2.2.2 (A8 st.2.2.2 id:Int)).2.2.1:Int)<(rd kUp st.2.2.2 (A8 st.2.2.2 id:Int)).2.1 then (st,4)
       else if sum≠((A46 (rd kUp st.2.2.2 (A8 st.2.2.2 id:Int)).2.2.1 ^^^ 4294967295:Nat):Int) then (st,6)
       else if (rd kUp st.2.2.2 (A8 st.2.2.2 id:Int)).2.2.2=true then (st,0)
       else if (st.1.1.length:Int)-st.2.2.1<1 then (st,5)
       else (wrote st (st.2.1,st.2.2.1,3,id,0,[]) (st.2.2.2.set (A8 st.2.2.2 id) ((rd kUp st.2.2.2 (A8 st.2.2.2 id:Int)).1,(rd kUp st.2.2.2 (A8 st.2.2.2 id:Int)).2.1,(rd kUp st.2.2.2 (A8 st.2.2.2 id:Int)).2.2.1,true)),0))
     else (st,2))
  else (st,1)
def A2z(st:A5)(id:ByteArray):A5×Int:=
  if idB id=true then
    (if F3 st.2.2.2 id=true then
      (if (st.1.1.length:Int)-st.2.2.1<1 then (st,5)
       else (wrote st (st.2.1,st.2.2.1,4,id,0,[]) (st.2.2.2.take (A8 st.2.2.2 id)++st.2.2.2.drop (A8 st.2.2.2 id+1)),0))
     else (st,2))
  else (st,1)
theorem A8p{st:A5}(h:B4j st)(k n:Int)(id:ByteArray)(hid:idB id=true)(hl:¬ (st.1.1.length:Int)-st.2.2.1<1)(hk:k=1∧0≤n∧n≤1000000000∨(k=3∨k=4)∧n=0):N3 (st.2.1,st.2.2.1,k,id,n,[])=true:=by
  obtain ⟨g1,g2,g3,g4,⟨g5,g6⟩,_⟩:=h
  simp only [N3,hid,List.length_nil]
  rw [A0 (show 0≤st.2.1∧st.2.1≤10000 by omega),A0 (show 0≤st.2.2.1∧st.2.2.1≤199 by omega)]
  rcases hk with ⟨rfl,h0,h1⟩ | ⟨rfl | rfl,rfl⟩
  · rw [if_pos rfl,A0 (show 0≤n∧n≤1000000000 from ⟨h0,h1⟩)];rfl
  · rfl
  · rfl
theorem B4l{st:A5}{id:ByteArray}{want:Int}(h1:¬ F3 st.2.2.2 id=true)(h2:¬ 10≤st.2.2.2.length):K0 st.2.2.2 (st.2.1,st.2.2.1,1,id,want,[])=some (st.2.2.2.take (A8 st.2.2.2 id)++(id,want,[],false)::st.2.2.2.drop (A8 st.2.2.2 id)):=by
  simp only [K0,if_true]
  rw [if_neg (fun h=>h.elim h1 h2)]
theorem B4m{st:A5}{id:ByteArray}(hU:Ups st.2.2.2)(h1:F3 st.2.2.2 id=true)(h2:¬ (List.length (rd kUp st.2.2.2 (A8 st.2.2.2 id:Int)).2.2.1:Int)<(rd kUp st.2.2.2 (A8 st.2.2.2 id:Int)).2.1)(h3:¬ (rd kUp st.2.2.2 (A8 st.2.2.2 id:Int)).2.2.2=true) :
    K0 st.2.2.2 (st.2.1,st.2.2.1,3,id,0,[])=some (st.2.2.2.set (A8 st.2.2.2 id) ((rd kUp st.2.2.2 (A8 st.2.2.2 id:Int)).1,(rd kUp st.2.2.2 (A8 st.2.2.2 id:Int)).2.1,(rd kUp st.2.2.2 (A8 st.2.2.2 id:Int)).2.2.1,true)):=by
  obtain ⟨hlt,hid2⟩:=G4.1 h1
  have hu:=hU.2.2 _ (List.getElem_mem hlt)
  rw [← E3 (k:=kUp) hlt] at hu
  have hu1:=hu.1
  simp only [K0,h1]
  rw [if_neg (by omega),if_neg (by simp),if_neg (by omega),if_pos trivial,if_neg (fun h=>h.elim h3 (fun h=>h (Int.le_antisymm hu1 (Int.not_lt.1 h2))))]
theorem B4n{st:A5}{id:ByteArray}(h1:F3 st.2.2.2 id=true):K0 st.2.2.2 (st.2.1,st.2.2.1,4,id,0,[])=some (st.2.2.2.take (A8 st.2.2.2 id)++st.2.2.2.drop (A8 st.2.2.2 id+1)):=by
  simp only [K0,h1]
  rw [if_neg (by omega),if_neg (by simp),if_neg (by omega),if_neg (by omega),if_pos trivial]
theorem C37(st:A5)(id:ByteArray)(want:Int)(hid:id.size≤maxLen)(h:Rt st):Y0 st id want=some ((A2x st id want).2,(A2x st id want).1,()):=by
  obtain ⟨g1,g2,g3,g4,⟨g5,g6⟩,_⟩:=h.g
  have hU:=h.up
  have hl:st.1.1.length≤1048576:=by omega
  have hul:=hU.2.1
  simp only [Y0,A3P,B1S id hid,A0m,bO,A2x]
  cases hidb:idB id with
  | false=>simp [B7,bO]
  | true=>
    simp only [Bool.not_true,cond_false,true_and]
    by_cases hw:0≤want∧want≤1000000
    · rw [A0 hw,if_pos hw]
      simp only [Bool.not_true,cond_false,B7]
      rw [A5G st.2.2.2 id (by simp only [maxLen];omega),B1V st g5 g6 hl]
      cases hh:F3 st.2.2.2 id with
      | true=>
        simp only [if_true,bO]
        rw [A3 (show ¬ (A8 st.2.2.2 id:Int)<0 by omega)]
        rfl
      | false=>
        simp only [Bool.false_eq_true,if_false,bO]
        rw [A0 (show (-1:Int)<0 by omega)]
        simp only [cond_true]
        by_cases hleft:(st.1.1.length:Int)-st.2.2.1<1
        · rw [A0 hleft,if_pos (.inl hleft)]
          rfl
        · rw [A3 hleft]
          simp only [cond_false]
          by_cases h10:10≤st.2.2.2.length
          · rw [A0 (show (st.2.2.2.length:Int)≥10 by omega),if_pos (.inr h10)]
            rfl
          · rw [A3 (show ¬ (st.2.2.2.length:Int)≥10 by omega),if_neg (fun hx=>hx.elim hleft h10)]
            simp only [cond_false]
            have hr:=A8p h.g 1 want id hidb hleft (.inl ⟨rfl,hw.1,by omega⟩)
            have hf:=B4l (st:=st) (id:=id) (want:=want) (by rw [hh];simp) h10
            rw [A8o st 1 id want [] hU hr Q1 g5 (by omega) hl _ hf]
            rfl
    · rw [A3 hw,if_neg hw]
      rfl
end Go.Proofs.YtpdcljonclhhpaaGreat.Ev
