/- What the plain functions of the program and of the reference answer: laws of plain data. -/
import Derived.Test.YtpdcljonclhhpaaGreatPu
import Derived.Laws.Strings
set_option linter.unusedVariables false
set_option linter.unusedSimpArgs false
namespace Go.Proofs.YtpdcljonclhhpaaGreat.Ev
theorem w64{n:Int}(h0:-9223372036854775808≤n)(h1:n<9223372036854775808):IntKind.i64.wrap n=n:=by
  simp only [IntKind.wrap,IntKind.bits,IntKind.signed,Bool.true_and]
  simp
  split<;>omega
theorem R4{α β:Type}(f:α→Option (α⊕β))(μ:α→Nat)(I:α→Prop)(Q:β→Prop)
    (h:∀ x,I x→(∃ y,f x=some (.inl y)∧I y∧μ y<μ x)∨∃ z,f x=some (.inr z)∧Q z):∀ x,I x→∃ z,C0 f x=some z∧Q z:=by
  intro x
  generalize hn:μ x=n
  induction n using Nat.strongRecOn generalizing x with
  | ind n ih=>
    intro hx
    rw [A13]
    rcases h x hx with ⟨y,e,hy,hl⟩ | ⟨z,e,hz⟩
    · rw [e];exact ih (μ y) (by omega) y rfl hy
    · rw [e];exact ⟨z,rfl,hz⟩
theorem G2{α β:Type}(f:α→Option (α⊕β))(s:Nat→α)(n:Nat)(z:β)(h:∀ i,i<n→f (s i)=some (.inl (s (i+1))))(he:f (s n)=some (.inr z)):C0 f (s 0)=some z:=by
  have key:∀ k i,i+k=n→C0 f (s i)=some z:=by
    intro k
    induction k with
    | zero=>intro i hi;rw [A13,show i=n by omega,he]
    | succ k ih=>intro i hi;rw [A13,h i (by omega)];exact ih (i+1) (by omega)
  exact key n 0 (by omega)
theorem C93{α β:Type}(f:α→Option (α⊕β))(s:Nat→α)(n:Nat)(z:Nat→β)(go:Nat→Bool)(h:∀ i,i<n→f (s i)=if go i then some (.inl (s (i+1))) else some (.inr (z i)))(he:f (s n)=some (.inr (z n))) :
    ∃ i,i≤n∧(∀ j,j<i→go j=true)∧(i<n→go i=false)∧C0 f (s 0)=some (z i):=by
  have key:∀ k i,i+k=n→(∀ j,j<i→go j=true)→∃ i',i'≤n∧(∀ j,j<i'→go j=true)∧(i'<n→go i' = false)∧C0 f (s i)=some (z i'):=by
    intro k
    induction k with
    | zero=>
      intro i hi hg
      obtain rfl:i=n:=by omega
      exact ⟨i,Nat.le_refl _,hg,fun h=>absurd h (by omega),by rw [A13,he]⟩
    | succ k ih=>
      intro i hi hg
      cases hgo:go i with
      | true=>
        obtain ⟨i',h1,h2,h3,h4⟩:=ih (i+1) (by omega) (fun j hj=>by
          by_cases h:j<i
          · exact hg j h
          · rw [show j=i by omega];exact hgo)
        refine ⟨i',h1,h2,h3,?_⟩
        rw [A13,h i (by omega),if_pos hgo]
        exact h4
      | false=>
        refine ⟨i,by omega,hg,fun _=>hgo,?_⟩
        rw [A13,h i (by omega),hgo]
        rfl
  exact key n 0 (by omega) (fun j hj=>by omega)
theorem D7w(s:ByteArray)(i:Int):0≤bt s i:=by unfold bt;omega
theorem D7x(s:ByteArray)(i:Int):bt s i<256:=by
  have:=(s.data.toList.getD i.toNat 0).toNat_lt
  unfold bt;omega
theorem D7H(s:ByteArray)(i:Int):IntKind.i64.wrap (bt s i)=bt s i:=w64 (by have:=D7w s i;omega) (by have:=D7x s i;omega)
theorem E3{k:K}{xs:List k.T}{i:Nat}(h:i<xs.length):rd k xs (i:Int)=xs[i]:=by
  unfold rd
  rw [Int.toNat_natCast]
  simp [List.getD,h]
theorem B0B{κ:IntKind}{xs:List Int}{i:Nat}(h:i<xs.length):rd (.int κ) xs (i:Int)=xs[i]:=E3 (k:=.int κ) h
theorem A3T{xs:List ByteArray}{i:Nat}(h:i<xs.length):rd .str xs (i:Int)=xs[i]:=E3 (k:=.str) h
def Byt(a:List Int):Prop:=∀ x∈a,0≤x∧x<256
theorem pe{α β:Type}(p:α×β):(p.1,p.2)=p:=rfl
theorem A0{p:Prop} [Decidable p] (h:p):decide p=true:=decide_eq_true h
theorem A4{p:Prop} [Decidable p] (h:¬ p):decide p=false:=decide_eq_false h
def Sm(N:Nat):(k:K)→k.T→Prop
  | .int _,_=>True
  | .bool,_=>True
  | .fnc _,_=>True
  | .str,s=>s.size≤N
  | .sl _ k,xs=>xs.length≤N∧∀ x∈xs,Sm N k x
  | .rs _ k,xs=>xs.length≤N∧∀ x∈xs,Sm N k x
  | .pair a b,x=>Sm N a x.1∧Sm N b x.2
theorem Sm.l{N:Nat}{a b:K}{x:(K.pair a b).T}(h:Sm N (.pair a b) x):Sm N a x.1:=h.1
theorem Sm.r{N:Nat}{a b:K}{x:(K.pair a b).T}(h:Sm N (.pair a b) x):Sm N b x.2:=h.2
theorem B2A{α β:Type}{f g:α→Option (α⊕β)}(I:α→Prop)(h:∀ x,I x→f x=g x)(hI:∀ x y,I x→f x=some (.inl y)→I y):∀ n x,I x→A5f f n x=A5f g n x
  | 0,_,_=>rfl
  | n+1,x,hx=>by
    simp only [A5f,← h x hx]
    cases e:f x with
    | none=>rfl
    | some v=>
      cases v with
      | inl y=>exact B2A I h hI n y (hI x y hx e)
      | inr z=>rfl
theorem B2B{α β:Type}{f g:α→Option (α⊕β)}(I:α→Prop)(h:∀ x,I x→f x=g x)(hI:∀ x y,I x→f x=some (.inl y)→I y){x:α}(hx:I x):C0 f x=C0 g x:=by
  cases e:C0 g x with
  | some z=>
    obtain ⟨n,hn⟩:=A4C e
    exact B1d (n:=n) (by rw [B2A I h hI n x hx];exact hn)
  | none=>
    cases e':C0 f x with
    | none=>rfl
    | some z=>
      obtain ⟨n,hn⟩:=A4C e'
      rw [B2A I h hI n x hx] at hn
      rw [B1d hn] at e
      cases e
def O5(go:Nat→Bool):Nat→Nat→Nat
  | i,0=>i
  | i,k+1=>if go i then O5 go (i+1) k else i
theorem B73(go:Nat→Bool):∀ k i,O5 go i k≤i+k
  | 0,i=>Nat.le_refl _
  | k+1,i=>by
    simp only [O5]
    split
    · have:=B73 go k (i+1);omega
    · omega
theorem B0C(go:Nat→Bool):∀ k i,O5 go i k<i+k→go (O5 go i k)=false
  | 0,i,h=>by simp [O5] at h
  | k+1,i,h=>by
    simp only [O5] at h ⊢
    split
    · rename_i hg
      rw [if_pos hg] at h
      exact B0C go k (i+1) (by omega)
    · rename_i hg
      simpa using hg
theorem A1M{α β:Type}(f:α→Option (α⊕β))(s:Nat→α)(n:Nat)(z:Nat→β)(go:Nat→Bool)(h:∀ i,i<n→f (s i)=if go i then some (.inl (s (i+1))) else some (.inr (z i)))(he:f (s n)=some (.inr (z n))) :
    C0 f (s 0)=some (z (O5 go 0 n)):=by
  have key:∀ k i,i+k=n→C0 f (s i)=some (z (O5 go i k)):=by
    intro k
    induction k with
    | zero=>
      intro i hi
      obtain rfl:i=n:=by omega
      rw [A13,he]
      rfl
    | succ k ih=>
      intro i hi
      rw [A13,h i (by omega)]
      simp only [O5]
      cases go i with
      | true=>simp only [if_true];exact ih (i+1) (by omega)
      | false=>rfl
  exact key n 0 (by omega)
theorem A6q(L:Int×Unit→Option ((Int×Unit)⊕(Bool×Unit)))(n:Nat)(hn:n≤maxLen)(go:Nat→Bool)(hs:∀ i:Nat,i<n→L ((i:Int),())=bif go i then some (.inl (IntKind.i64.wrap ((i:Int)+1),())) else some (.inr (false,())))
    (he:L ((n:Int),())=some (.inr (true,()))):C0 L (0,())=some ((List.range n).all go,()):=by
  have h:=A1M L (fun i=>((i:Int),())) n (fun i=>(decide (i=n),())) go (fun i hi=>by
    rw [hs i hi,w64 (by omega) (by simp only [maxLen] at hn;omega)]
    cases go i with
    | true=>rfl
    | false=>simp only [Bool.false_eq_true,if_false,cond_false];rw [A4 (by omega)]) (by rw [he];simp)
  have h':C0 L (0,())=some (decide (O5 go 0 n=n),()):=h
  rw [h']
  have key:∀ k i,decide (O5 go i k=i+k)=((List.range k).all fun j=>go (i+j)):=by
    intro k
    induction k with
    | zero=>intro i;simp [O5]
    | succ k ih=>
      intro i
      have e:((List.range (k+1)).all fun j=>go (i+j))=(go i&&(List.range k).all fun j=>go (i+1+j)):=by
        rw [List.range_succ_eq_map,List.all_cons,List.all_map]
        simp only [Nat.add_zero]
        congr 2
        funext j
        simp only [Function.comp]
        congr 1
        omega
      rw [e,← ih (i+1)]
      by_cases hg:go i=true
      · have e1:O5 go i (k+1)=O5 go (i+1) k:=by simp only [O5];rw [if_pos hg]
        rw [Bool.eq_iff_iff,hg]
        simp only [decide_eq_true_eq,Bool.true_and,e1]
        omega
      · have e1:O5 go i (k+1)=i:=by simp only [O5];rw [if_neg hg]
        rw [Bool.eq_iff_iff]
        simp only [decide_eq_true_eq,Bool.and_eq_true,e1]
        constructor
        · intro h;omega
        · intro h;exact absurd h.1 hg
  have k0:=key n 0
  simp only [Nat.zero_add] at k0
  rw [k0]
abbrev A00:=ByteArray×List Int×Int×Int
theorem T2(a b c:Int):D8 a b c=some (decide (b≤a∧a≤c),()):=by
  simp only [D8,C0p]
  by_cases h:b≤a<;>by_cases h2:a≤c<;>simp [h,h2]
theorem A0U(a b c:Int):F0 a b c=some (decide (b≤a∧a≤c),()):=T2 a b c
def C53(s:ByteArray)(i:Nat):Bool:=decide (97≤bt s i∧bt s i≤122)||decide (48≤bt s i∧bt s i≤57)
def idB(s:ByteArray):Bool:=(List.range s.size).all (C53 s)&&decide (1≤(s.size:Int)∧(s.size:Int)≤8)
theorem C94(s:ByteArray)(h:s.size≤maxLen)(i:Nat)(hi:i<s.size):A7Q D8 s ((i:Int),())=if C53 s i then some (.inl (((i+1:Nat):Int),())) else some (.inr (.inr (false,()))):=by
  have h1:((i:Int)<(s.size:Int)):=by omega
  have h2:(0:Int)≤(i:Int):=by omega
  simp only [A7Q,A0 h1,A0 h2,cond_true,D7H,T2,A3]
  rw [w64 (by omega) (by simp only [maxLen] at h;omega)]
  unfold C53
  cases decide (97≤bt s i∧bt s i≤122)<;>cases decide (48≤bt s i∧bt s i≤57)<;>simp
theorem D2F(s:ByteArray)(h:s.size≤maxLen)(i:Nat)(hi:i<s.size):A9k s ((i:Int),())=if C53 s i then some (.inl (((i+1:Nat):Int),())) else some (.inr (.inr (false,()))):=by
  have h1:((i:Int)<(s.size:Int)):=by omega
  have h2:(0:Int)≤(i:Int):=by omega
  simp only [A9k,A0 h1,A0 h2,cond_true]
  rw [w64 (by omega) (by simp only [maxLen] at h;omega)]
  unfold C53
  by_cases a:bt s i≥97<;>by_cases b:bt s i≤122<;>by_cases c:bt s i≥48<;>by_cases d:bt s i≤57<;>simp [a,b,c,d]
theorem D6n{s:ByteArray}{f:Int×Unit→Option ((Int×Unit)⊕(Unit⊕(Bool×Unit)))}(hs:∀ i:Nat,i<s.size→f ((i:Int),())=if C53 s i then some (.inl (((i+1:Nat):Int),())) else some (.inr (.inr (false,()))))
    (he:f ((s.size:Int),())=some (.inr (.inl ()))) (g:Unit→Option (Bool×Unit)) (hg:g ()=some (decide (1≤(s.size:Int)∧(s.size:Int)≤8),())):B9 (C0 f (0,())) g=some (idB s,()):=by
  obtain ⟨i,h1,h2,h3,h4⟩:=C93 f (fun i=>((i:Int),())) s.size (fun i=>if i<s.size then .inr (false,()) else .inl ()) (C53 s) (fun i hi=>by
    simp only [if_pos hi];exact hs i hi) (by simp only [Nat.lt_irrefl,if_false];exact he)
  have h4':C0 f (0,())=some (if i<s.size then .inr (false,()) else .inl ()):=h4
  rw [h4']
  unfold idB
  by_cases hi:i<s.size
  · rw [if_pos hi]
    have:(List.range s.size).all (C53 s)=false:=by
      rw [List.all_eq_false]
      exact ⟨i,List.mem_range.2 hi,by simp [h3 hi]⟩
    simp [B9,this]
  · rw [if_neg hi]
    have:(List.range s.size).all (C53 s)=true:=by
      rw [List.all_eq_true]
      intro j hj
      exact h2 j (by have:=List.mem_range.1 hj;omega)
    simp only [B9,this,hg,Bool.true_and]
theorem A6r(s:ByteArray)(h:s.size≤maxLen):N4 s=some (idB s,()):=by
  simp only [N4,B6w]
  exact D6n (C94 s h) (by simp [A7Q]) _ (by simp only [T2,A3])
theorem C54(s:ByteArray)(h:s.size≤maxLen):A3C s=some (idB s,()):=by
  simp only [A3C,C0l]
  exact D6n (D2F s h) (by simp [A9k]) _ (by simp only [A0U,A3])
def I6(c:A00):Bool:=idB c.1&&decide ((c.2.1.length:Int)≤400)&&decide (1≤c.2.2.1∧c.2.2.1≤6)&&decide (0≤c.2.2.2∧c.2.2.2≤(c.2.1.length:Int))
theorem A4p(c:A00)(h:c.1.size≤maxLen):G1 c=some (I6 c,()):=by
  simp only [G1,A9y,A6r _ h,T2,A3,I6]
  cases idB c.1<;>cases decide ((c.2.1.length:Int)≤400)<;>cases decide (1≤c.2.2.1∧c.2.2.1≤6)<;>simp
theorem C2z(c:A00)(h:c.1.size≤maxLen):A0G c=some (I6 c,()):=by
  simp only [A0G,A9r,C54 _ h,A0U,A3,I6]
  cases idB c.1<;>cases decide ((c.2.1.length:Int)≤400)<;>cases decide (1≤c.2.2.1∧c.2.2.1≤6)<;>simp
theorem D4S{R:Type}(a:Option R):eqO a a=a:=by
  unfold eqO
  rw [if_pos rfl]
theorem B3k(a:List Int)(h:a.length≤140737488355328):G5 a=some (a,()):=by
  simp only [G5,Y0]
  have e:(bif decide (([]:List Int).length+a.length≤9223372036854775807) then bif decide ((([]:List Int).length+a.length)*1≤140737488355328) then some (([]++a),()) else none else none)=some (a,()):=by
    rw [A0 (by simp;omega),A0 (by simp;omega)]
    simp
  rw [e]
  cases a with
  | nil=>simp [D4S]
  | cons x xs=>simp
def B5k(c:A00):Bool:=decide (c.2.2.1=5)||decide (c.2.2.1=6)
theorem C0t(c:A00):A1H c=some (B5k c,()):=by
  simp only [A1H,B22,B5k]
  cases decide (c.2.2.1=5)<;>simp
theorem B4q(c:A00)(h2:c.2.1.length≤140737488355328):L7 c=some (c,()):=by
  simp only [L7,B25]
  rw [A0 (by simp;omega),A0 (by simp;omega)]
  simp
def C0u(n:Int)(k j:Nat):Int:=IntKind.u8.wrap (n.fdiv (2 ^ (8*(k-1-j))))
def big(n:Int)(k:Nat):List Int:=(List.range k).map (C0u n k)
theorem J5(n:Int)(k:Nat):(big n k).length=k:=by simp [big]
theorem D8V{n:Int}(h0:0≤n)(h1:n<18446744073709551616):IntKind.u64.wrap n=n:=by
  simp only [IntKind.wrap,IntKind.bits,IntKind.signed]
  simp
  omega
theorem D1L(v:Int)(b:List Int)(k:Nat)(hk:k≤8)(hb:b.length+8≤140737488355328):C0 (A0I (v,())) ((k:Int)-1,b,())=some (b++big v k,()):=by
  have key:=G2 (A0I (v,())) (fun j=>((k:Int)-1-(j:Int),b++(List.range j).map (C0u v k),())) k (b++big v k,()) (fun j hj=>?_) ?_
  · simpa using key
  · have h1:(k:Int)-1-(j:Int)≥0:=by omega
    have e1:(k:Int)-1-(j:Int)=((k-1-j:Nat):Int):=by omega
    have hs:IntKind.u64.wrap (IntKind.i64.wrap (8*((k:Int)-1-(j:Int))))=((8*(k-1-j):Nat):Int):=by
      rw [w64 (by omega) (by omega),D8V (by omega) (by omega)]
      omega
    have hm:min (8*(k-1-j)) IntKind.i64.bits=8*(k-1-j):=Nat.min_eq_left (by simp only [IntKind.bits];omega)
    simp only [A0I,A0 h1,cond_true,hs,Int.toNat_natCast,hm]
    rw [A4 (by omega)]
    simp only [cond_false]
    have hl:(b++(List.range j).map (C0u v k)).length=b.length+j:=by simp
    rw [A0 (by rw [hl];simp;omega),A0 (by rw [hl];simp;omega)]
    simp only [cond_true]
    rw [w64 (by omega) (by omega),List.range_succ,List.map_append,List.append_assoc]
    have e2:(k:Int)-1-(j:Int)-1=(k:Int)-1-((j+1:Nat):Int):=by omega
    rw [e2]
    rfl
  · have h1:¬ ((k:Int)-1-(k:Int)≥0):=by omega
    simp only [A0I,A4 h1,cond_false]
    rfl
def A01(n:Int):Int:=if n<0 then 0 else n
theorem A1N(b:List Int)(n:Int)(k:Nat)(h1:1≤k)(hk:k≤8)(hb:b.length+8≤140737488355328):A6g b n (k:Int)=some (b++big (A01 n) k,()):=by
  simp only [A6g,B4d]
  rw [A0 (by simp;omega),A0 (by simp;omega)]
  have e:(bif decide (n<0) then some ((0:Int),()) else some (n,()))=some (A01 n,()):=by
    unfold A01
    by_cases h:n<0<;>simp [h]
  simp only [cond_true,e,A3,T2]
  rw [A0 (by omega)]
  simp only [Bool.not_true,cond_false,List.nil_append]
  rw [w64 (by omega) (by omega)]
  exact D1L _ b k hk hb
theorem A7e(b:List Int)(n:Int)(k:Nat)(hk:k≤8)(hb:b.length+8≤140737488355328):A6a b n (k:Int)=some (b++big (A01 n) k,()):=by
  simp only [A6a,B4W]
  have e:A9l n=A0I (A01 n,()):=by
    funext l
    have:(bif decide (0>n) then (0:Int) else n)=A01 n:=by
      unfold A01
      by_cases h:n<0<;>simp [h]
    simp only [A9l,A0I,this]
  rw [e,w64 (by omega) (by omega)]
  exact D1L _ b k hk hb
theorem B74{n:Nat}(h:n<9223372036854775808):IntKind.i64.wrap (n:Int)=(n:Int):=w64 (by omega) (by omega)
theorem D7I{n:Nat}(h:n<4294967296):IntKind.u32.wrap (n:Int)=(n:Int):=by
  simp only [IntKind.wrap,IntKind.bits,IntKind.signed]
  simp
  omega
theorem bits_nat{w x:Nat}(h:x<2 ^ w):(BitVec.ofInt w (x:Int)).toNat=x:=by
  rw [BitVec.ofInt_natCast,BitVec.toNat_ofNat]
  exact Nat.mod_eq_of_lt h
theorem C0v{x y:Nat}(hx:x<4294967296)(hy:y<4294967296):B9C .i64 (x:Int) (y:Int)=((x ^^^ y:Nat):Int):=by
  have h:x ^^^ y<2 ^ 32:=Nat.xor_lt_two_pow (by omega) (by omega)
  unfold B9C
  rw [BitVec.toNat_xor,bits_nat (by simp only [IntKind.bits];omega),bits_nat (by simp only [IntKind.bits];omega)]
  exact B74 (by omega)
theorem C0w{x y:Nat}(hx:x<4294967296)(hy:y<4294967296):B9C .u32 (x:Int) (y:Int)=((x ^^^ y:Nat):Int):=by
  have h:x ^^^ y<2 ^ 32:=Nat.xor_lt_two_pow (by omega) (by omega)
  unfold B9C
  rw [BitVec.toNat_xor,bits_nat (by simp only [IntKind.bits];omega),bits_nat (by simp only [IntKind.bits];omega)]
  exact D7I (by omega)
theorem D4T{x y:Nat}(hx:x<4294967296)(hy:y<4294967296):B6s .i64 (x:Int) (y:Int)=((x &&& y:Nat):Int):=by
  have h:x &&& y<2 ^ 32:=Nat.and_lt_two_pow _ (by omega)
  unfold B6s
  rw [BitVec.toNat_and,bits_nat (by simp only [IntKind.bits];omega),bits_nat (by simp only [IntKind.bits];omega)]
  exact B74 (by omega)
theorem D4U{x y:Nat}(hx:x<4294967296)(hy:y<4294967296):B6s .u32 (x:Int) (y:Int)=((x &&& y:Nat):Int):=by
  have h:x &&& y<2 ^ 32:=Nat.and_lt_two_pow _ (by omega)
  unfold B6s
  rw [BitVec.toNat_and,bits_nat (by simp only [IntKind.bits];omega),bits_nat (by simp only [IntKind.bits];omega)]
  exact D7I (by omega)
def B5l(c:Nat):Nat:=if c &&& 1=1 then (c / 2) ^^^ 2197175160 else c / 2
def B75(c:Nat):Nat→Nat
  | 0=>c
  | i+1=>B5l (B75 c i)
theorem C95{c:Nat}(h:c<4294967296):B5l c<4294967296:=by
  unfold B5l
  split
  · have:(c / 2) ^^^ 2197175160<2 ^ 32:=Nat.xor_lt_two_pow (by omega) (by omega)
    omega
  · omega
theorem B9v{c:Nat}(h:c<4294967296):∀ i,B75 c i<4294967296
  | 0=>h
  | i+1=>C95 (B9v h i)
theorem half(c:Nat):((c:Int)).fdiv 2=((c / 2:Nat):Int):=by
  rw [Int.fdiv_eq_ediv_of_nonneg _ (by omega)]
  omega
def A3U(a:List Int):Nat:=a.foldl (fun c x=>B75 (c ^^^ x.toNat) 8) 4294967295
theorem D69(a:List Int)(ha:Byt a):∀ c,c<4294967296→a.foldl (fun c x=>B75 (c ^^^ x.toNat) 8) c<4294967296:=by
  induction a with
  | nil=>intro c h;exact h
  | cons x a ih=>
    intro c h
    have hx:=ha x (by simp)
    refine ih (fun y hy=>ha y (by simp [hy])) _ (B9v ?_ 8)
    have:c ^^^ x.toNat<2 ^ 32:=Nat.xor_lt_two_pow (by omega) (by omega)
    omega
theorem A3V{a:List Int}(h:Byt a)(i:Nat):Byt (a.take i):=fun x hx=>h x (List.mem_of_mem_take hx)
theorem A66{a:List Int}(h:Byt a):A3U a<4294967296:=D69 a h _ (by omega)
theorem C47{a:List Int}{i:Nat}(hi:i<a.length):A3U (a.take (i+1))=B75 (A3U (a.take i) ^^^ a[i].toNat) 8:=by
  unfold A3U
  rw [List.take_succ_eq_append_getElem hi,List.foldl_append]
  rfl
theorem D6A(l0:Int×Int×Unit)(c:Nat)(h:c<4294967296):C0 (B3C l0) ((c:Int),0,())=some (.inl ((B75 c 8:Int),IntKind.i64.wrap (l0.2.1+1),())):=by
  refine G2 (B3C l0) (fun i=>((B75 c i:Int),(i:Int),())) 8 _ (fun i hi=>?_) ?_
  · have hl:=B9v h i
    have h1:(i:Int)<8:=by omega
    simp only [B3C,A0 h1,cond_true,half]
    rw [show (1:Int)=((1:Nat):Int) from rfl,D4T hl (by omega),show (2197175160:Int)=((2197175160:Nat):Int) from rfl,C0v (by omega) (by omega)]
    rw [show ((i:Int)+((1:Nat):Int))=((i+1:Nat):Int) by omega,B74 (by omega)]
    simp only [B75,B5l]
    by_cases hb:B75 c i &&& 1=1
    · rw [A0 (by rw [hb]),if_pos hb];rfl
    · rw [A4 (by omega),if_neg hb];rfl
  · rfl
theorem B2C(a:List Int)(ha:Byt a)(h:a.length≤maxLen):A1Z a=some (((A3U a ^^^ 4294967295:Nat):Int),()):=by
  simp only [A1Z,C52]
  have key:=G2 (A8i a) (fun i=>((A3U (a.take i):Int),(i:Int),())) a.length ((A3U a:Int),()) (fun i hi=>?_) ?_
  · have e:C0 (A8i a) (4294967295,0,())=some ((A3U a:Int),()):=key
    rw [e]
    simp only [A3]
    rw [show (4294967295:Int)=((4294967295:Nat):Int) from rfl,C0v (A66 ha) (by omega)]
  · have h1:((i:Int)<(a.length:Int)):=by omega
    have h2:(0:Int)≤(i:Int):=by omega
    have hx:=ha a[i] (List.getElem_mem hi)
    have hc:=A66 (A3V ha i)
    simp only [A8i,A0 h1,A0 h2,cond_true,B0B hi]
    have hxor:A3U (a.take i) ^^^ a[i].toNat<2 ^ 32:=Nat.xor_lt_two_pow (by omega) (by omega)
    rw [w64 (by omega) (by omega),show a[i]=((a[i].toNat:Nat):Int) by omega,C0v hc (by omega)]
    rw [D6A _ _ (by omega)]
    simp only
    rw [show ((i:Int)+1)=((i+1:Nat):Int) by omega,B74 (by simp only [maxLen] at h;omega),C47 hi]
  · simp [A8i]
theorem D6B(l0:Int×Int×Unit)(c:Nat)(h:c<4294967296):C0 (B3A l0) ((c:Int),0,())=some (.inl ((B75 c 8:Int),IntKind.i64.wrap (l0.2.1+1),())):=by
  refine G2 (B3A l0) (fun i=>((B75 c i:Int),(i:Int),())) 8 _ (fun i hi=>?_) ?_
  · have hl:=B9v h i
    have h1:(i:Int)<8:=by omega
    simp only [B3A,A0 h1,cond_true,half]
    rw [show (1:Int)=((1:Nat):Int) from rfl,D4U hl (by omega),show (2197175160:Int)=((2197175160:Nat):Int) from rfl,C0w (by omega) (by omega)]
    rw [show ((i:Int)+((1:Nat):Int))=((i+1:Nat):Int) by omega,B74 (by omega)]
    simp only [B75,B5l]
    by_cases hb:B75 c i &&& 1=1
    · rw [A0 (by rw [hb]),if_pos hb];rfl
    · rw [A4 (by omega),if_neg hb];rfl
  · rfl
theorem D4V(a:List Int)(ha:Byt a)(h:a.length≤maxLen):B5d a=some (((A3U a ^^^ 4294967295:Nat):Int),()):=by
  simp only [B5d,C51]
  have key:=G2 (A8e a) (fun i=>((A3U (a.take i):Int),(i:Int),())) a.length ((A3U a:Int),()) (fun i hi=>?_) ?_
  · have e:C0 (A8e a) (4294967295,0,())=some ((A3U a:Int),()):=key
    rw [e]
    simp only [A3]
    have hm:IntKind.u32.max=((4294967295:Nat):Int):=rfl
    have hxor:A3U a ^^^ 4294967295<2 ^ 32:=Nat.xor_lt_two_pow (by have:=A66 ha;omega) (by omega)
    rw [hm,C0w (by omega) (A66 ha),Nat.xor_comm,B74 (by omega)]
  · have h1:((i:Int)<(a.length:Int)):=by omega
    have h2:(0:Int)≤(i:Int):=by omega
    have hx:=ha a[i] (List.getElem_mem hi)
    have hc:=A66 (A3V ha i)
    simp only [A8e,A0 h1,A0 h2,cond_true,B0B hi]
    have hxor:A3U (a.take i) ^^^ a[i].toNat<2 ^ 32:=Nat.xor_lt_two_pow (by omega) (by omega)
    rw [show a[i]=((a[i].toNat:Nat):Int) by omega,D7I (by omega),C0w hc (by omega)]
    rw [D6B _ _ (by omega)]
    simp only
    rw [show ((i:Int)+1)=((i+1:Nat):Int) by omega,B74 (by simp only [maxLen] at h;omega),C47 hi]
  · simp [A8e]
abbrev Req:=Int×ByteArray×Int
def B84:Req×List Int×Bool×Unit:=((0,⟨#[]⟩,0),[],false,())
def M7(c:A00):Req×List Int×Bool×Unit:=
  if I6 c=false then B84
  else if c.2.2.1=1 then ((1,c.1,(c.2.1.length:Int)),[],true,())
  else if c.2.2.1=2 then ((2,c.1,0),[],true,())
  else if c.2.2.1=3 then ((3,c.1,c.2.2.2),(c.2.1.take (min (c.2.2.2.toNat+24) c.2.1.length)).drop c.2.2.2.toNat,true,())
  else if c.2.2.1=4 then ((4,c.1,((A3U c.2.1 ^^^ 4294967295:Nat):Int)),[],true,())
  else B84
theorem D7J{c:A00}(h:I6 c=true):c.2.1.length≤400∧1≤c.2.2.1∧c.2.2.1≤6∧0≤c.2.2.2∧c.2.2.2≤(c.2.1.length:Int):=by
  simp only [I6,Bool.and_eq_true,decide_eq_true_eq] at h
  omega
theorem B2D(c:A00):(M7 c).2.1.length≤c.2.1.length:=by
  unfold M7 B84
  repeat' split
  all_goals simp
  omega
theorem C55(c:A00)(h:c.1.size≤maxLen)(hb:Byt c.2.1):A53 c=some (M7 c):=by
  simp only [A53,B1y,A4p c h,A3,M7]
  cases hk:I6 c with
  | false=>rfl
  | true=>
    obtain ⟨h1,h2,h3,h4,h5⟩:=D7J hk
    simp only [Bool.not_true,cond_false,Bool.true_eq_false,if_false]
    by_cases e1:c.2.2.1=1
    · rw [A0 e1,if_pos e1];rfl
    rw [A4 e1,if_neg e1]
    by_cases e2:c.2.2.1=2
    · rw [A0 e2,if_pos e2];rfl
    rw [A4 e2,if_neg e2]
    by_cases e3:c.2.2.1=3
    · rw [A0 e3,if_pos e3,w64 (by omega) (by omega)]
      simp only [cond_true,cond_false]
      have hm:(bif decide (c.2.2.2+24>(c.2.1.length:Int)) then some ((c.2.1.length:Int),()) else some (c.2.2.2+24,()))=some (((min (c.2.2.2.toNat+24) c.2.1.length:Nat):Int),()):=by
        by_cases hc:c.2.2.2+24>(c.2.1.length:Int)
        · rw [A0 hc];simp only [cond_true];congr 2;omega
        · rw [A4 hc];simp only [cond_false];congr 2;omega
      rw [hm]
      simp only
      rw [A0 h4,A0 (by omega),A0 (by omega),Int.toNat_natCast]
      simp only [cond_true]
      rw [A0 (by simp;omega),A0 (by simp;omega)]
      simp
    rw [A4 e3,if_neg e3]
    by_cases e4:c.2.2.1=4
    · rw [A0 e4,if_pos e4]
      simp only [cond_true,cond_false]
      rw [B2C _ hb (by simp only [maxLen];omega)]
    · rw [A4 e4,if_neg e4];rfl
abbrev D4W:=Int×Int
def A0y(r:D4W):Bool:=decide (100≤r.1∧r.1≤599)&&decide (-1≤r.2∧r.2≤1000000000)
theorem A7f(r:D4W):R1 r=some (A0y r,()):=by
  simp only [R1,B4b,T2,A3,A0y]
  cases decide (100≤r.1∧r.1≤599)<;>simp
theorem B85(r:D4W):A0E r=some (A0y r,()):=by
  simp only [A0E,B4U,A0U,A3,A0y]
  cases decide (100≤r.1∧r.1≤599)<;>simp
def far(c:A00)(off:Int):A00:=if 0≤off∧off≤(c.2.1.length:Int) then (if off=(c.2.1.length:Int) then (c.1,c.2.1,4,off) else (c.1,c.2.1,3,off)) else (c.1,c.2.1,6,c.2.2.2)
theorem D2G(c:A00)(off:Int):A6l c off=some (far c off,()):=by
  simp only [A6l,B4k,T2,A3,far]
  by_cases h:0≤off∧off≤(c.2.1.length:Int)
  · rw [A0 h,if_pos h]
    by_cases h2:off=(c.2.1.length:Int)<;>simp [h2]
  · rw [A4 h,if_neg h];rfl
def A6s(step status:Int):Int:=
  if status=507 then (if step=2 then 6 else step)
  else if status=404 then (if step=1 then 6 else 1)
  else if status=409 then (if step=3 then 0 else if step=2 then 6 else 2)
  else if status=201 then (if step=1 then 0 else 6)
  else if status=204 then (if step=3 then 0 else 6)
  else if status=200 then (if step=2 then 0 else if step=4 then 5 else 6)
  else 6
theorem C96(a b:Int):A55 a b=some (A6s a b,()):=by
  simp only [A55,B23,A6s]
  by_cases h1:b=507
  · by_cases h:a=2<;>simp [h1,h]
  by_cases h2:b=404
  · by_cases h:a=1<;>simp [h2,h]
  by_cases h3:b=409
  · by_cases h:a=3
    · simp [h3,h]
    · by_cases h':a=2<;>simp [h3,h,h']
  by_cases h4:b=201
  · by_cases h:a=1<;>simp [h4,h]
  by_cases h5:b=204
  · by_cases h:a=3<;>simp [h5,h]
  by_cases h6:b=200
  · by_cases h:a=2
    · simp [h6,h]
    · by_cases h':a=4<;>simp [h6,h,h']
  simp [h1,h2,h3,h4,h5,h6]
def hear(c:A00)(r:D4W):A00:=if A6s c.2.2.1 r.1=0 then far c r.2 else (c.1,c.2.1,A6s c.2.2.1 r.1,c.2.2.2)
theorem C97(c:A00)(r:D4W):A56 c r=some (hear c r,()):=by
  simp only [A56,B24,C96,D2G,A3,hear]
  by_cases h:A6s c.2.2.1 r.1=0<;>simp [h]
theorem B0D{N:Nat}{w:A7}(h:Sm N A2O w):Sm N (.sl 0 A9) w.2.1:=Sm.l (Sm.r h)
theorem B0E{N:Nat}{w:A7}(h:Sm N A2O w):Sm N (.sl 0 kUp) w.1.1.2.2.2:=Sm.r (Sm.r (Sm.r (Sm.l (Sm.l h))))
theorem C0x(w:A7)(h:Sm 1048576 A2O w):∃ b,A0n w=some (b,()):=by
  refine ⟨_,A6q (A2J w) w.2.1.length (by have:=(B0D h).1;simp only [maxLen];omega) (fun i=>!decide ((rd A9 w.2.1 (i:Int)).2.2.1=6)) (fun i hi=>?_) (by simp [A2J])⟩
  have h1:((i:Int)<(w.2.1.length:Int)):=by omega
  have h2:(0:Int)≤(i:Int):=by omega
  simp only [A2J,A0 h1,A0 h2,cond_true]
  cases decide ((rd A9 w.2.1 (i:Int)).2.2.1=6)<;>simp
theorem C0y(w:A7):Y1 w=A0n w:=rfl
def C30(us:List TUp)(id:ByteArray):Nat:=O5 (fun i=>!((rd kUp us (i:Int)).1.toList == id.toList)) 0 us.length
def D7y:TUp×Bool×Unit:=((⟨#[]⟩,0,[],false),false,())
def C56(st:A5)(id:ByteArray):TUp×Bool×Unit:=if C30 st.2.2.2 id<st.2.2.2.length then (rd kUp st.2.2.2 (C30 st.2.2.2 id:Int),true,()) else D7y
theorem C0z(us:List TUp)(id:ByteArray)(h:us.length≤maxLen):P5 us id=some (if C30 us id<us.length then (C30 us id:Int) else -1,()):=by
  simp only [P5,B6y]
  refine A1M (A7R us id) (fun i=>((i:Int),())) us.length (fun i=>(if i<us.length then (i:Int) else -1,())) (fun i=>!((rd kUp us (i:Int)).1.toList == id.toList)) (fun i hi=>?_) ?_
  · have h1:((i:Int)<(us.length:Int)):=by omega
    have h2:(0:Int)≤(i:Int):=by omega
    simp only [A7R,A0 h1,A0 h2,cond_true,if_pos hi]
    rw [w64 (by omega) (by simp only [maxLen] at h;omega)]
    cases ((rd kUp us (i:Int)).1.toList == id.toList)<;>simp
  · simp [A7R]
theorem C57{us:List TUp}{N:Nat}(h:Sm N (.sl 0 kUp) us){i:Nat}(hi:i<us.length):Sm N kUp (rd kUp us (i:Int)):=by
  rw [E3 (k:=kUp) (xs:=us) hi]
  exact h.2 _ (List.getElem_mem hi)
theorem B76(st:A5)(id:ByteArray)(h:Sm 1048576 (.sl 0 kUp) st.2.2.2):I1 st id=some (C56 st id):=by
  have hl:st.2.2.2.length≤1048576:=h.1
  simp only [I1,B1v]
  rw [C0z _ _ (by simp only [maxLen];omega)]
  simp only [A3,C56]
  by_cases hi:C30 st.2.2.2 id<st.2.2.2.length
  · have hd:List.length (rd kUp st.2.2.2 (C30 st.2.2.2 id:Int)).2.2.1≤1048576:=(Sm.l (Sm.r (Sm.r (C57 h hi)))).1
    rw [if_pos hi,if_pos hi,A4 (by omega),A0 (show (0:Int)≤(C30 st.2.2.2 id:Int) by omega),A0 (by omega),A0 (by simp;omega),A0 (by simp;omega)]
    simp
  · rw [if_neg hi,if_neg hi]
    rfl
theorem D2H(u:TUp)(h:Sm 1048576 kUp u):A2P u=some (u,()):=by
  have hd:List.length u.2.2.1≤1048576:=(Sm.l (Sm.r (Sm.r h))).1
  simp only [A2P,B4T,B3k _ (show List.length u.2.2.1≤140737488355328 by omega),A3]
theorem B77(st:A5)(id:ByteArray)(h:Sm 1048576 (.sl 0 kUp) st.2.2.2):A0X st id=some (C56 st id):=by
  have hl:st.2.2.2.length≤1048576:=h.1
  simp only [A0X,C0i]
  have e:=A1M (A6X A2P st id) (fun i=>((i:Int),())) st.2.2.2.length (fun i=>if i<st.2.2.2.length then .inr (rd kUp st.2.2.2 (i:Int),true,()) else .inl ()) (fun i=>!((rd kUp st.2.2.2 (i:Int)).1.toList == id.toList)) (fun i hi=>?_) ?_
  · have e':C0 (A6X A2P st id) (0,())=_:=e
    rw [e']
    simp only [C56]
    by_cases hi:C30 st.2.2.2 id<st.2.2.2.length
    · rw [if_pos hi]
      have hi':O5 (fun i=>!((rd kUp st.2.2.2 (i:Int)).1.toList == id.toList)) 0 st.2.2.2.length<st.2.2.2.length:=hi
      rw [if_pos hi']
      rfl
    · rw [if_neg hi]
      have hi':¬ O5 (fun i=>!((rd kUp st.2.2.2 (i:Int)).1.toList == id.toList)) 0 st.2.2.2.length<st.2.2.2.length:=hi
      rw [if_neg hi']
      rfl
  · have h1:((i:Int)<(st.2.2.2.length:Int)):=by omega
    have h2:(0:Int)≤(i:Int):=by omega
    simp only [A6X,A0 h1,A0 h2,cond_true,if_pos hi]
    rw [w64 (by omega) (by omega),D2H _ (C57 h hi)]
    cases ((rd kUp st.2.2.2 (i:Int)).1.toList == id.toList)<;>simp [A3]
  · simp [A6X]
theorem D6C{st:A5}(h:Sm 1048576 (.sl 0 kUp) st.2.2.2)(id:ByteArray):Sm 1048576 kUp (C56 st id).1:=by
  unfold C56
  split
  · rename_i hi
    exact C57 h hi
  · simp [D7y,Sm]
    exact Nat.zero_le _
theorem D2I{st:A5}(h:Sm 1048576 (.sl 0 kUp) st.2.2.2)(id:ByteArray):List.length (C56 st id).1.2.2.1≤1048576:=(Sm.l (Sm.r (Sm.r (D6C h id)))).1
def A0u(w:A7)(i:Nat):TUp×Bool×Unit:=C56 w.1.1 (rd A9 w.2.1 (i:Int)).1
def B2E(w:A7)(i:Nat):Int:=rd (.int .i64) w.2.2.2.2.2 (i:Int)
def nl(w:A7)(i:Nat):Bool:=decide (B2E w i=-1)||((A0u w i).2.1&&!decide ((List.length (A0u w i).1.2.2.1:Int)<B2E w i))
theorem B0F(w:A7)(h:Sm 1048576 A2O w):A2o w=some ((List.range (min w.2.1.length w.2.2.2.2.2.length)).all (nl w),()):=by
  have hl:w.2.1.length≤1048576:=(B0D h).1
  refine A6q (A1t I1 w) _ (by simp only [maxLen];omega) (nl w) (fun i hi=>?_) ?_
  · have h1:((i:Int)<(w.2.1.length:Int)):=by omega
    have h2:(0:Int)≤(i:Int):=by omega
    have h3:((i:Int)<(w.2.2.2.2.2.length:Int)):=by omega
    simp only [A1t,A0 h1,A0 h2,A0 h3,cond_true,B9]
    rw [B76 _ _ (B0E h)]
    show A3 (some (A0u w i)) _=_
    simp only [A3,nl]
    change (bif (!decide (B2E w i=-1)) then _ else _)=_
    by_cases ht:B2E w i=-1
    · simp [ht]
    · by_cases hu:(A0u w i).2.1=true
      · by_cases hd:(List.length (A0u w i).1.2.2.1:Int)<B2E w i
        · have hd':(List.length (A0u w i).1.2.2.1:Int)<rd (.int .i64) w.2.2.2.2.2 (i:Int):=hd
          simp [ht,hu,hd,hd']
        · have hd':¬ (List.length (A0u w i).1.2.2.1:Int)<rd (.int .i64) w.2.2.2.2.2 (i:Int):=hd
          simp [ht,hu,hd,hd']
      · simp [ht,hu]
  · by_cases hc:w.2.1.length≤w.2.2.2.2.2.length
    · rw [Nat.min_eq_left hc]
      simp [A1t,B9]
    · rw [Nat.min_eq_right (by omega)]
      have h1:((w.2.2.2.2.2.length:Int)<(w.2.1.length:Int)):=by omega
      simp [A1t,B9,h1]
theorem C58(w:A7)(h:Sm 1048576 A2O w):A04 w=some ((List.range w.2.1.length).all (fun i=>if w.2.2.2.2.2.length≤i then true else nl w i),()):=by
  have hl:w.2.1.length≤1048576:=(B0D h).1
  refine A6q (A4e A0X w) _ (by simp only [maxLen];omega) _ (fun i hi=>?_) (by simp [A4e])
  have h1:((i:Int)<(w.2.1.length:Int)):=by omega
  have h2:(0:Int)≤(i:Int):=by omega
  simp only [A4e,A0 h1,A0 h2,cond_true]
  by_cases h3:w.2.2.2.2.2.length≤i
  · rw [A0 (by omega),if_pos h3]
    rfl
  · rw [A4 (show ¬ ((i:Int)≥(w.2.2.2.2.2.length:Int)) by omega),if_neg h3]
    have h4:((i:Int)<(w.2.2.2.2.2.length:Int)):=by omega
    simp only [A0 h4,cond_true,cond_false]
    rw [B77 _ _ (B0E h)]
    show B9 (bif (decide (B2E w i=-1)) then _ else _) (fun m1=>A3 (some (A0u w i)) _)=_
    simp only [A3,nl]
    by_cases ht:B2E w i=-1
    · simp [ht,B9]
    · by_cases hu:(A0u w i).2.1=true
      · by_cases hd:(List.length (A0u w i).1.2.2.1:Int)<B2E w i
        · have hd':(List.length (A0u w i).1.2.2.1:Int)<rd (.int .i64) w.2.2.2.2.2 (i:Int):=hd
          simp [ht,hu,hd,hd',B9]
        · have hd':¬ (List.length (A0u w i).1.2.2.1:Int)<rd (.int .i64) w.2.2.2.2.2 (i:Int):=hd
          simp [ht,hu,hd,hd',B9]
      · simp [ht,hu,B9]
theorem C98(w:A7)(h:Sm 1048576 A2O w):A04 w=A2o w:=by
  rw [C58 w h,B0F w h]
  congr 2
  rw [Bool.eq_iff_iff]
  simp only [List.all_eq_true,List.mem_range]
  constructor
  · intro g i hi
    have:=g i (by omega)
    rw [if_neg (by omega)] at this
    exact this
  · intro g i hi
    split
    · rfl
    · exact g i (by omega)
def en(w:A7)(i:Nat):Bool:=!decide ((rd A9 w.2.1 (i:Int)).2.2.1=5)||((A0u w i).2.1&&((A0u w i).1.2.2.2&&((strOf (A0u w i).1.2.2.1).toList == (strOf (rd A9 w.2.1 (i:Int)).2.1).toList)))
theorem D2J(w:A7)(h:Sm 1048576 A2O w):B1w w=some ((List.range w.2.1.length).all (en w),()):=by
  have hl:w.2.1.length≤1048576:=(B0D h).1
  refine A6q (B02 I1 w) _ (by simp only [maxLen];omega) (en w) (fun i hi=>?_) (by simp [B02])
  have h1:((i:Int)<(w.2.1.length:Int)):=by omega
  have h2:(0:Int)≤(i:Int):=by omega
  simp only [B02,A0 h1,A0 h2,cond_true]
  rw [B76 _ _ (B0E h)]
  show A3 (some (A0u w i)) _=_
  simp only [A3,en]
  cases decide ((rd A9 w.2.1 (i:Int)).2.2.1=5)<;>cases (A0u w i).2.1<;>cases (A0u w i).1.2.2.2<;>cases ((strOf (A0u w i).1.2.2.1).toList == (strOf (rd A9 w.2.1 (i:Int)).2.1).toList)<;>simp
theorem D2K(w:A7)(h:Sm 1048576 A2O w):A6Y w=some ((List.range w.2.1.length).all (en w),()):=by
  have hl:w.2.1.length≤1048576:=(B0D h).1
  refine A6q (A9g M1 A0X w) _ (by simp only [maxLen];omega) (en w) (fun i hi=>?_) (by simp [A9g])
  have h1:((i:Int)<(w.2.1.length:Int)):=by omega
  have h2:(0:Int)≤(i:Int):=by omega
  simp only [A9g,A0 h1,A0 h2,cond_true]
  rw [B77 _ _ (B0E h)]
  show A3 (some (A0u w i)) _=_
  simp only [A3,en,M1,A1q]
  cases decide ((rd A9 w.2.1 (i:Int)).2.2.1=5)<;>cases (A0u w i).2.1<;>cases (A0u w i).1.2.2.2<;>cases ((strOf (A0u w i).1.2.2.1).toList == (strOf (rd A9 w.2.1 (i:Int)).2.1).toList)<;>simp
def beg(a b:List Int):Bool:=decide (a.length≤b.length)&&(List.range a.length).all fun i=>decide (rd (.int .u8) a (i:Int)=rd (.int .u8) b (i:Int))
theorem C59(a b:List Int)(h:a.length≤maxLen):A0m a b=some (beg a b,()):=by
  simp only [A0m,A85,beg]
  by_cases hc:a.length≤b.length
  · rw [A4 (by omega),A0 hc]
    simp only [cond_false,Bool.true_and]
    refine A6q (A2I a b) _ h _ (fun i hi=>?_) (by simp [A2I])
    have h1:((i:Int)<(a.length:Int)):=by omega
    have h2:(0:Int)≤(i:Int):=by omega
    have h3:((i:Int)<(b.length:Int)):=by omega
    simp only [A2I,A0 h1,A0 h2,A0 h3,cond_true]
    cases decide (rd (.int .u8) a (i:Int)=rd (.int .u8) b (i:Int))<;>simp
  · rw [A0 (by omega),A4 hc]
    rfl
theorem D4X{x y:Int}(hx:0≤x∧x<256)(hy:0≤y∧y<256)(h:UInt8.ofNat x.toNat=UInt8.ofNat y.toNat):x=y:=by
  have:=congrArg UInt8.toNat h
  simp only [UInt8.toNat_ofNat'] at this
  omega
theorem C99(a b:List Int)(ha:Byt a)(hb:Byt b)(hc:a.length≤b.length):((strOf ((b.take a.length).drop 0)).toList == (strOf a).toList)=(List.range a.length).all fun i=>decide (rd (.int .u8) a (i:Int)=rd (.int .u8) b (i:Int)):=by
  unfold strOf
  rw [ByteArray.toList_eq,ByteArray.toList_eq,strOfNums_data,strOfNums_data,List.drop_zero,Bool.eq_iff_iff]
  simp only [beq_iff_eq,List.all_eq_true,List.mem_range,decide_eq_true_eq]
  constructor
  · intro e i hi
    rw [B0B hi,B0B (show i<b.length by omega)]
    have:=congrArg (fun l=>l[i]?) e
    simp only [List.getElem?_map] at this
    rw [List.getElem?_take_of_lt hi,List.getElem?_eq_getElem (show i<b.length by omega),List.getElem?_eq_getElem hi] at this
    simp only [Option.map_some,Option.some.injEq] at this
    exact (D4X (hb _ (List.getElem_mem _)) (ha _ (List.getElem_mem _)) this).symm
  · intro e
    have:b.take a.length=a:=by
      apply List.ext_getElem
      · simp;omega
      · intro i h1 h2
        have:=e i h2
        rw [B0B h2,B0B (show i<b.length by omega)] at this
        simp [this]
    rw [this]
theorem C5A(a b:List Int)(ha:Byt a)(hb:Byt b):S7 b a=some (beg a b,()):=by
  simp only [S7,A3A,M1,A1q,beg,A3]
  by_cases hc:a.length≤b.length
  · have g1:(b.length:Int)≥(a.length:Int):=by omega
    have g2:(0:Int)≤(a.length:Int):=by omega
    have g3:(a.length:Int)≤(b.length:Int):=by omega
    simp only [A0 g1,A0 g2,A0 g3,A0 hc,Int.toNat_natCast,cond_true,Bool.true_and]
    rw [C99 a b ha hb hc]
  · rw [A4 (show ¬ (b.length:Int)≥(a.length:Int) by omega),A4 hc]
    rfl
def D4Y(w:A7):Prop:=(∀ u∈w.1.1.2.2.2,Byt u.2.2.1)∧∀ c∈w.2.1,Byt c.2.1
theorem D4Z{w:A7}(h:D4Y w)(i:Nat):Byt (A0u w i).1.2.2.1:=by
  unfold A0u C56
  split
  · rename_i hi
    rw [E3 (k:=kUp) (xs:=w.1.1.2.2.2) hi]
    exact h.1 _ (List.getElem_mem hi)
  · intro x hx;cases hx
theorem D4a{w:A7}(h:D4Y w){i:Nat}(hi:i<w.2.1.length):Byt (rd A9 w.2.1 (i:Int)).2.1:=by
  rw [E3 (k:=A9) (xs:=w.2.1) hi]
  exact h.2 _ (List.getElem_mem hi)
def be(w:A7)(i:Nat):Bool:=!(A0u w i).2.1||(beg (A0u w i).1.2.2.1 (rd A9 w.2.1 (i:Int)).2.1&&decide ((A0u w i).1.2.1=(List.length (rd A9 w.2.1 (i:Int)).2.1:Int)))
theorem C6S(w:A7)(h:Sm 1048576 A2O w):A6k w=some ((List.range w.2.1.length).all (be w),()):=by
  have hl:w.2.1.length≤1048576:=(B0D h).1
  refine A6q (A62 I1 A0m w) _ (by simp only [maxLen];omega) (be w) (fun i hi=>?_) (by simp [A62])
  have h1:((i:Int)<(w.2.1.length:Int)):=by omega
  have h2:(0:Int)≤(i:Int):=by omega
  simp only [A62,A0 h1,A0 h2,cond_true]
  rw [B76 _ _ (B0E h)]
  show A3 (some (A0u w i)) _=_
  have hd:List.length (A0u w i).1.2.2.1≤1048576:=D2I (B0E h) _
  simp only [A3,be]
  rw [C59 _ _ (by simp only [maxLen];omega)]
  simp only
  cases (A0u w i).2.1<;>cases beg (A0u w i).1.2.2.1 (rd A9 w.2.1 (i:Int)).2.1<;>cases decide ((A0u w i).1.2.1=(List.length (rd A9 w.2.1 (i:Int)).2.1:Int))<;>simp
theorem C6T(w:A7)(h:Sm 1048576 A2O w)(hb:D4Y w):A2Q w=some ((List.range w.2.1.length).all (be w),()):=by
  have hl:w.2.1.length≤1048576:=(B0D h).1
  refine A6q (A5x S7 A0X w) _ (by simp only [maxLen];omega) (be w) (fun i hi=>?_) (by simp [A5x])
  have h1:((i:Int)<(w.2.1.length:Int)):=by omega
  have h2:(0:Int)≤(i:Int):=by omega
  simp only [A5x,A0 h1,A0 h2,cond_true]
  rw [B77 _ _ (B0E h)]
  show A3 (some (A0u w i)) _=_
  simp only [A3,be]
  rw [C5A _ _ (D4Z hb i) (D4a hb hi)]
  simp only
  cases (A0u w i).2.1<;>cases beg (A0u w i).1.2.2.1 (rd A9 w.2.1 (i:Int)).2.1<;>cases decide ((A0u w i).1.2.1=(List.length (rd A9 w.2.1 (i:Int)).2.1:Int))<;>simp
theorem D6D{L:Int×Unit→Option ((Int×Unit)⊕(Unit⊕(Bool×Unit)))}{n:Nat}{go:Nat→Bool}(hs:∀ i:Nat,i<n→L ((i:Int),())=bif go i then some (.inl (((i+1:Nat):Int),())) else some (.inr (.inr (false,()))))
    (he:L ((n:Int),())=some (.inr (.inl ()))) (g:Unit→Option (Bool×Unit)) (b:Bool) (hg:g ()=some (b,())):B9 (C0 L (0,())) g=some (decide (O5 go 0 n=n)&&b,()):=by
  have h:=A1M L (fun i=>((i:Int),())) n (fun i=>if i=n then .inl () else .inr (false,())) go (fun i hi=>by
    rw [hs i hi]
    cases go i with
    | true=>rfl
    | false=>simp only [Bool.false_eq_true,if_false,cond_false];rw [if_neg (by omega)]) (by rw [he,if_pos rfl])
  have h':C0 L (0,())=_:=h
  rw [h']
  by_cases hn:O5 go 0 n=n
  · rw [if_pos hn,A0 hn];simp [B9,hg]
  · rw [if_neg hn,A4 hn];simp [B9]
theorem D6E{x y:Nat}(hx:x<9223372036854775808)(hy:y<9223372036854775808):bOr .i64 (x:Int) (y:Int)=((x ||| y:Nat):Int):=by
  have h:x ||| y<2 ^ 63:=Nat.or_lt_two_pow (by omega) (by omega)
  unfold bOr
  rw [BitVec.toNat_or,bits_nat (by simp only [IntKind.bits];omega),bits_nat (by simp only [IntKind.bits];omega)]
  exact B74 (by omega)
def W5(b:List Int)(at_:Nat):Nat→Nat
  | 0=>0
  | j+1=>(W5 b at_ j*256) ||| (b.getD (at_+j) 0).toNat
theorem C6U{b:List Int}(hb:Byt b)(i:Nat):0≤b.getD i 0∧b.getD i 0<256:=by
  by_cases h:i<b.length
  · simp only [List.getD,List.getElem?_eq_getElem h,Option.getD_some]
    exact hb _ (List.getElem_mem h)
  · simp only [List.getD,List.getElem?_eq_none (show b.length≤i by omega),Option.getD_none]
    omega
theorem C5B{b:List Int}(hb:Byt b)(at_:Nat):∀ j,W5 b at_ j<2 ^ (8*j)
  | 0=>by simp [W5]
  | j+1=>by
    have h1:=C5B hb at_ j
    have h2:=C6U hb (at_+j)
    have e:2 ^ (8*(j+1))=2 ^ (8*j)*256:=by rw [show 8*(j+1)=8*j+8 by omega,Nat.pow_add]
    refine Nat.or_lt_two_pow ?_ ?_
    · rw [e];exact Nat.mul_lt_mul_of_pos_right h1 (by omega)
    · have:1≤2 ^ (8*j):=Nat.one_le_two_pow
      rw [e];omega
theorem C6V{b:List Int}(hb:Byt b)(at_ j:Nat)(hj:j<7)(x:Int)(hx:x=b.getD (at_+j) 0):bOr .i64 (IntKind.i64.wrap (((W5 b at_ j:Nat):Int)*256)) (IntKind.i64.wrap x)=((W5 b at_ (j+1):Nat):Int):=by
  have h1:=C5B hb at_ j
  have h2:=C6U hb (at_+j)
  have h3:2 ^ (8*j)≤2 ^ 48:=Nat.pow_le_pow_right (by omega) (by omega)
  subst hx
  rw [show ((W5 b at_ j:Nat):Int)*256=((W5 b at_ j*256:Nat):Int) by omega,B74 (by omega),show b.getD (at_+j) 0=(((b.getD (at_+j) 0).toNat:Nat):Int) by omega,B74 (by omega),D6E (by omega) (by omega)]
  simp only [W5,Int.toNat_natCast]
def A4S(b:List Int)(a:Int)(k:Nat):Int×Bool×Unit:=if 0≤a∧a≤(b.length:Int)-k then ((W5 b a.toNat k:Int),true,()) else (0,false,())
theorem C6W(b:List Int)(hb:Byt b)(h:b.length≤1048576)(a:Int)(k:Nat)(hk:1≤k∧k≤7):A4G b a (k:Int)=some (A4S b a k):=by
  simp only [A4G,B4c,T2,A3,A4S]
  rw [A0 (show (1:Int)≤(k:Int)∧(k:Int)≤7 by omega),w64 (by omega) (by omega)]
  simp only [Bool.not_true,cond_false]
  by_cases h1:a<0
  · rw [A0 h1,if_neg (by omega)];rfl
  rw [A4 h1]
  by_cases h2:a>(b.length:Int)-k
  · rw [A0 h2,if_neg (by omega)];rfl
  rw [A4 h2,if_pos (by omega)]
  simp only [cond_false,B9]
  have key:=G2 (A3I (k:Int) a b) (fun j=>((W5 b a.toNat j:Int),(j:Int),())) k ((W5 b a.toNat k:Int),()) (fun j hj=>?_) ?_
  · have e:C0 (A3I (k:Int) a b) (0,0,())=_:=key
    rw [e]
  · have g1:(j:Int)<(k:Int):=by omega
    simp only [A3I,A0 g1,cond_true]
    rw [w64 (n:=a+(j:Int)) (by omega) (by omega)]
    have g2:0≤a+(j:Int):=by omega
    have g3:a+(j:Int)<(b.length:Int):=by omega
    rw [A0 g2,A0 g3]
    simp only [cond_true]
    rw [C6V hb a.toNat j (by omega) _ (by
      rw [show a+(j:Int)=((a.toNat+j:Nat):Int) by omega,B0B (by omega)]
      simp [List.getD,show a.toNat+j<b.length by omega]),show (j:Int)+1=((j+1:Nat):Int) by omega,B74 (by omega)]
  · simp [A3I]
theorem B2F(b:List Int)(hb:Byt b)(h:b.length≤1048576)(a:Int)(k:Nat)(hk:1≤k∧k≤7):A6Z b a (k:Int)=some (A4S b a k):=by
  simp only [A6Z,B4V,A0U,A3,A4S]
  rw [A0 (show (1:Int)≤(k:Int)∧(k:Int)≤7 by omega),w64 (n:=(b.length:Int)-(k:Int)) (by omega) (by omega)]
  simp only [Bool.not_true,cond_false]
  by_cases h1:a<0
  · rw [A0 h1,if_neg (by omega)];rfl
  rw [A4 h1]
  by_cases h2:a>(b.length:Int)-k
  · rw [A0 h2,if_neg (by omega)];rfl
  rw [A4 h2,if_pos (by omega)]
  simp only [cond_false,B9]
  rw [w64 (n:=a+(k:Int)) (by omega) (by omega),A0 (show 0≤a by omega),A0 (show a≤a+(k:Int) by omega),A0 (show a+(k:Int)≤(b.length:Int) by omega)]
  simp only [cond_true]
  have hlen:((b.take (a+(k:Int)).toNat).drop a.toNat).length=k:=by simp;omega
  have key:=G2 (A3B b a (k:Int)) (fun j=>((W5 b a.toNat j:Int),(j:Int),())) k ((W5 b a.toNat k:Int),()) (fun j hj=>?_) ?_
  · have e:C0 (A3B b a (k:Int)) (0,0,())=_:=key
    rw [e]
  · have g1:(j:Int)<(k:Int):=by omega
    have g2:(0:Int)≤(j:Int):=by omega
    simp only [A3B]
    rw [w64 (n:=a+(k:Int)) (by omega) (by omega)]
    simp only [hlen,A0 g1,A0 g2,cond_true]
    rw [C6V hb a.toNat j (by omega) _ (by
      rw [B0B (by rw [hlen];exact hj)]
      simp [List.getD,show a.toNat+j<b.length by omega]),show (j:Int)+1=((j+1:Nat):Int) by omega,B74 (by omega)]
  · simp only [A3B]
    rw [w64 (n:=a+(k:Int)) (by omega) (by omega)]
    simp [hlen]
theorem D2L{α β:Type}{f:α→Option (α⊕β)}{x:α}{z:β}(h:f x=some (.inr z)):C0 f x=some z:=by rw [A13,h]
theorem B0G(xs:List Int):(strOf xs).size=xs.length:=strOfNums_size xs
theorem C6X(x:Int):0≤B6s .i64 x 255∧B6s .i64 x 255≤255:=by
  unfold B6s
  have h:(BitVec.ofInt IntKind.i64.bits x &&& BitVec.ofInt IntKind.i64.bits 255).toNat≤255:=by
    rw [BitVec.toNat_and]
    have:(BitVec.ofInt IntKind.i64.bits (255:Int)).toNat=255:=bits_nat (w:=64) (x:=255) (by omega)
    rw [this]
    exact Nat.and_le_right
  rw [B74 (by omega)]
  omega
def Cur(c:B5):Prop:=List.length c.1≤1048576∧0≤c.2.1∧c.2.1≤1048576
theorem A8k(c:B5)(h:Cur c):∃ r c',A1G c=some (r,c',())∧Cur c'∧0≤r∧r≤255:=by
  obtain ⟨h1,h2,h3⟩:=h
  simp only [A1G,B4h]
  by_cases hi:c.2.1<(List.length c.1:Int)
  · simp only [A0 hi,A0 h2,cond_true]
    refine ⟨_,_,rfl,⟨h1,?_,?_⟩,C6X _⟩
    · simp only;rw [w64 (by omega) (by omega)];omega
    · simp only;rw [w64 (by omega) (by omega)];omega
  · simp only [A4 hi,cond_false]
    exact ⟨_,_,rfl,⟨h1,h2,h3⟩,C6X _⟩
theorem F6(c:B5)(n:Int)(h:Cur c)(hn:0<n∧n<9223372036854775808):∃ r c',C1 c n=some (r,c',())∧Cur c'∧0≤r∧r<n:=by
  simp only [C1,A7U]
  rw [A4 (show ¬ n≤0 by omega)]
  have hz:(n == 0)=false:=by simp;omega
  simp only [cond_false,hz]
  by_cases h1:n≤256
  · rw [A0 h1]
    obtain ⟨r,c',e,hc,hr⟩:=A8k c h
    simp only [cond_true,e,A3]
    refine ⟨_,_,rfl,hc,?_⟩
    rw [Int.tmod_eq_emod_of_nonneg hr.1]
    exact ⟨Int.emod_nonneg _ (by omega),Int.emod_lt_of_pos _ (by omega)⟩
  · rw [A4 h1]
    obtain ⟨r1,c1,e1,hc1,hr1⟩:=A8k c h
    obtain ⟨r2,c2,e2,hc2,hr2⟩:=A8k c1 hc1
    obtain ⟨r3,c3,e3,hc3,hr3⟩:=A8k c2 hc2
    simp only [cond_false,e1,e2,e3,A3]
    refine ⟨_,_,rfl,hc3,?_⟩
    rw [w64 (n:=r1*65536) (by omega) (by omega),w64 (n:=r2*256) (by omega) (by omega),w64 (n:=r1*65536+r2*256) (by omega) (by omega),w64 (n:=r1*65536+r2*256+r3) (by omega) (by omega)]
    rw [Int.tmod_eq_emod_of_nonneg (by omega)]
    exact ⟨Int.emod_nonneg _ (by omega),Int.emod_lt_of_pos _ (by omega)⟩
theorem B2G(c:B5)(xs:List ByteArray)(h:Cur c)(hx:0<xs.length∧xs.length≤1048576):∃ s c',Z7 c xs=some (s,c',())∧Cur c'∧s∈xs:=by
  obtain ⟨r,c',e,hc,h0,h1⟩:=F6 c (xs.length:Int) h (by omega)
  simp only [Z7,B72,e,A3,A0 h0,A0 h1,cond_true]
  refine ⟨_,_,rfl,hc,?_⟩
  obtain ⟨n,rfl⟩:∃ n:Nat,r=(n:Int):=⟨r.toNat,by omega⟩
  rw [A3T (by omega)]
  exact List.getElem_mem _
theorem O3(c:B5)(xs:List Int)(h:Cur c)(hx:0<xs.length∧xs.length≤1048576):∃ s c',F2 c xs=some (s,c',())∧Cur c'∧s∈xs:=by
  obtain ⟨r,c',e,hc,h0,h1⟩:=F6 c (xs.length:Int) h (by omega)
  simp only [F2,B71,e,A3,A0 h0,A0 h1,cond_true]
  refine ⟨_,_,rfl,hc,?_⟩
  obtain ⟨n,rfl⟩:∃ n:Nat,r=(n:Int):=⟨r.toNat,by omega⟩
  rw [B0B (by omega)]
  exact List.getElem_mem _
theorem wrap_u8(x:Int):0≤IntKind.u8.wrap x∧IntKind.u8.wrap x<256:=by
  simp only [IntKind.wrap,IntKind.bits,IntKind.signed]
  simp
  omega
theorem B0H(c:B5)(n:Int)(h:Cur c)(hn:0≤n∧n≤1048576):∃ b c',F3 c n=some (b,c',())∧Cur c'∧(List.length b:Int)=n∧Byt b:=by
  simp only [F3,A4P]
  obtain ⟨z,e,hz⟩:=R4 (A2X A1G n) (fun l=>(n-l.1).toNat) (fun l=>0≤l.1∧l.1≤n∧Cur (l.2.1,l.2.2.1,l.2.2.2.1)∧(List.length l.2.2.2.2.1:Int)=l.1∧Byt l.2.2.2.2.1)
    (fun z=>Cur z.2.1∧(List.length z.1:Int)=n∧Byt z.1) (fun l hl=>by
      obtain ⟨h0,h1,hc,hlen,hb⟩:=hl
      simp only [A2X]
      by_cases hi:l.1<n
      · obtain ⟨r,c',e,hc',hr⟩:=A8k _ hc
        refine .inl ⟨(l.1+1,c'.1,c'.2.1,c'.2.2,l.2.2.2.2.1 ++ [IntKind.u8.wrap r],()),?_,⟨by simp only;omega,by simp only;omega,hc',by simp;omega,?_⟩,by simp only;omega⟩
        · rw [A0 hi,e]
          simp only [cond_true,A3]
          rw [A0 (by simp;omega),A0 (by simp;omega),w64 (by omega) (by omega)]
          rfl
        · intro x hx
          rcases List.mem_append.1 hx with hx | hx
          · exact hb x hx
          · rw [List.mem_singleton.1 hx];exact wrap_u8 _
      · rw [A4 hi]
        exact .inr ⟨_,rfl,hc,by simp only;omega,hb⟩) (0,c.1,c.2.1,c.2.2,[],()) ⟨by simp,hn.1,h,by simp,fun x hx=>by cases hx⟩
  exact ⟨z.1,z.2.1,e,hz⟩
theorem D4b(a:List Int)(h:a.length≤1048576):∃ c,A8j a=some (c,())∧Cur c:=by
  simp only [A8j,B70]
  obtain ⟨z,e,_⟩:=R4 (B1x a) (fun l=>((a.length:Int)-l.2.1).toNat) (fun l=>0≤l.2.1) (fun _=>True) (fun l hl=>by
    simp only [B1x]
    by_cases hi:l.2.1<(a.length:Int)
    · by_cases h4:l.2.1<4000
      · rw [A0 hi,A0 h4]
        simp only [cond_true,B9]
        rw [A0 hl,w64 (n:=l.2.1+1) (by omega) (by omega)]
        exact .inl ⟨_,rfl,by simp only;omega,by simp only;omega⟩
      · rw [A0 hi,A4 h4]
        exact .inr ⟨_,rfl,trivial⟩
    · rw [A4 hi]
      exact .inr ⟨_,rfl,trivial⟩) (IntKind.i64.wrap (369369+(a.length:Int)),0,()) (by simp)
  rw [e]
  exact ⟨_,rfl,h,by simp,by simp⟩
def R5(r:F7):Bool:=
  decide (0≤r.1∧r.1≤10000)&&decide (0≤r.2.1∧r.2.1≤199)&&idB r.2.2.2.1 &&
  (if r.2.2.1=1 then decide (0≤r.2.2.2.2.1∧r.2.2.2.2.1≤1000000000)&&decide ((List.length r.2.2.2.2.2:Int)=0)
   else if r.2.2.1=2 then decide (0≤r.2.2.2.2.1∧r.2.2.2.2.1≤1000000000)&&decide (1≤(List.length r.2.2.2.2.2:Int)∧(List.length r.2.2.2.2.2:Int)≤24)
   else if r.2.2.1=3∨r.2.2.1=4 then decide (r.2.2.2.2.1=0)&&decide ((List.length r.2.2.2.2.2:Int)=0) else false)
theorem C9A(r:F7)(h:r.2.2.2.1.size≤maxLen):A8h r=some (R5 r,()):=by
  simp only [A8h,B6x,A6r _ h,T2,A3,R5]
  cases decide (0≤r.1∧r.1≤10000)
  · rfl
  cases decide (0≤r.2.1∧r.2.1≤199)
  · rfl
  cases idB r.2.2.2.1
  · rfl
  simp only [Bool.not_true,cond_false,B9,Bool.true_and]
  by_cases h1:r.2.2.1=1
  · rw [A0 h1,if_pos h1]
    cases decide (0≤r.2.2.2.2.1∧r.2.2.2.2.1≤1000000000)<;>rfl
  rw [A4 h1,if_neg h1]
  by_cases h2:r.2.2.1=2
  · rw [A0 h2,if_pos h2]
    cases decide (0≤r.2.2.2.2.1∧r.2.2.2.2.1≤1000000000)<;>rfl
  rw [A4 h2,if_neg h2]
  by_cases h3:r.2.2.1=3
  · rw [A0 h3,if_pos (.inl h3)]
    cases decide (r.2.2.2.2.1=0)<;>rfl
  rw [A4 h3]
  by_cases h4:r.2.2.1=4
  · rw [A0 h4,if_pos (.inr h4)]
    cases decide (r.2.2.2.2.1=0)<;>rfl
  rw [A4 h4,if_neg (by omega)]
  rfl
theorem C10(r:F7)(h:r.2.2.2.1.size≤maxLen):A4F r=some (R5 r,()):=by
  simp only [A4F,B6u,A19,A7N,C54 _ h,A0U,A3,R5]
  cases decide (0≤r.1∧r.1≤10000)
  · rfl
  cases decide (0≤r.2.1∧r.2.1≤199)
  · rfl
  by_cases hk:1≤r.2.2.1∧r.2.2.1≤4
  · rw [A0 hk]
    cases idB r.2.2.2.1
    · rfl
    simp only [Bool.not_true,cond_false,B9,Bool.true_and]
    by_cases h1:r.2.2.1=1
    · rw [A0 h1,if_pos h1]
      cases decide (0≤r.2.2.2.2.1∧r.2.2.2.2.1≤1000000000)<;>rfl
    rw [A4 h1,if_neg h1]
    by_cases h2:r.2.2.1=2
    · rw [A0 h2,if_pos h2]
      cases decide (0≤r.2.2.2.2.1∧r.2.2.2.2.1≤1000000000)<;>rfl
    rw [A4 h2,if_neg h2,if_pos (by omega)]
    cases decide (r.2.2.2.2.1=0)<;>rfl
  · rw [A4 hk,if_neg (by omega),if_neg (by omega),if_neg (by omega)]
    cases idB r.2.2.2.1<;>rfl
theorem A0r{r:F7}(h:R5 r=true):0≤r.1∧r.1≤10000∧1≤r.2.2.1∧r.2.2.1≤4∧r.2.2.2.1.size≤8∧0≤r.2.2.2.2.1∧r.2.2.2.2.1≤1000000000∧List.length r.2.2.2.2.2≤24:=by
  simp only [R5,idB,Bool.and_eq_true,decide_eq_true_eq] at h
  obtain ⟨⟨⟨h1,h2⟩,h3,h4⟩,h5⟩:=h
  split at h5
  · simp only [Bool.and_eq_true,decide_eq_true_eq] at h5;omega
  · split at h5
    · simp only [Bool.and_eq_true,decide_eq_true_eq] at h5;omega
    · split at h5
      · simp only [Bool.and_eq_true,decide_eq_true_eq] at h5;omega
      · cases h5
theorem B9w{a b:List Int}(ha:Byt a)(hb:Byt b):Byt (a++b):=fun x hx=>(List.mem_append.1 hx).elim (ha x) (hb x)
theorem D1M(n:Int)(k:Nat):Byt (big n k):=by
  intro x hx
  obtain ⟨j,_,rfl⟩:=List.mem_map.1 hx
  exact wrap_u8 _
theorem A7g(s:ByteArray):Byt (bytesOf s):=by
  intro x hx
  obtain ⟨b,_,rfl⟩:=List.mem_map.1 hx
  have:=b.toNat_lt
  omega
theorem T3:Byt []:=fun x hx=>by cases hx
theorem A6t{a:List Int}(h:Byt a)(i:Nat):Byt (a.drop i):=fun x hx=>h x (List.mem_of_mem_drop hx)
def B1H(r:F7):List Int:=
  big (A01 r.1) 3++big (A01 r.2.1) 2++big (A01 r.2.2.1) 1++big (A01 (r.2.2.2.1.size:Int)) 1++bytesOf r.2.2.2.1++big (A01 r.2.2.2.2.1) 4++big (A01 (List.length r.2.2.2.2.2:Int)) 1++r.2.2.2.2.2
def D7K(b:List Int):Int:=((A3U b ^^^ 4294967295:Nat):Int)
def U6(r:F7):ByteArray:=strOf (B1H r++big (A01 (D7K (B1H r))) 4)
theorem B2H(r:F7):(B1H r).length=12+r.2.2.2.1.size+List.length r.2.2.2.2.2:=by
  simp only [B1H,List.length_append,J5,bytesOf_length]
  omega
theorem C11(r:F7)(h:Byt r.2.2.2.2.2):Byt (B1H r):=by
  unfold B1H
  repeat' first | apply B9w | apply D1M | apply A7g | exact h
theorem B86(r:F7)(h1:r.2.2.2.1.size≤10000000)(h2:List.length r.2.2.2.2.2≤10000000)(hb:Byt r.2.2.2.2.2):A2R r=some (U6 r,()):=by
  have hlen:=B2H r
  simp only [A2R,B4e]
  rw [show (3:Int)=((3:Nat):Int) from rfl,A1N [] _ 3 (by omega) (by omega) (by simp)]
  simp only [A3,List.nil_append]
  rw [show (2:Int)=((2:Nat):Int) from rfl,A1N _ _ 2 (by omega) (by omega) (by simp [J5])]
  simp only
  rw [show (1:Int)=((1:Nat):Int) from rfl,A1N _ _ 1 (by omega) (by omega) (by simp [J5])]
  simp only
  rw [A1N _ _ 1 (by omega) (by omega) (by simp [J5])]
  simp only
  rw [A0 (by simp [J5];omega)]
  simp only [cond_true]
  rw [show (4:Int)=((4:Nat):Int) from rfl,A1N _ _ 4 (by omega) (by omega) (by simp [J5,bytesOf_length];omega)]
  simp only
  rw [A1N _ _ 1 (by omega) (by omega) (by simp [J5,bytesOf_length];omega)]
  simp only
  rw [A0 (by simp [J5,bytesOf_length];omega),A0 (by simp [J5,bytesOf_length];omega)]
  simp only [cond_true]
  have e:big (A01 r.1) 3++big (A01 r.2.1) 2++big (A01 r.2.2.1) 1++big (A01 (r.2.2.2.1.size:Int)) 1++bytesOf r.2.2.2.1++big (A01 r.2.2.2.2.1) 4++big (A01 (List.length r.2.2.2.2.2:Int)) 1++r.2.2.2.2.2=B1H r:=rfl
  rw [e,B2C _ (C11 r hb) (by rw [hlen];simp only [maxLen];omega)]
  simp only
  rw [A1N _ _ 4 (by omega) (by omega) (by rw [hlen];omega)]
  rfl
theorem C5C(n:Int):big n 1 = [IntKind.u8.wrap n]:=by
  simp [big,C0u]
theorem A3W{n:Int}(h:0≤n):A01 n=n:=by unfold A01;rw [if_neg (by omega)]
theorem C6Y(r:F7)(h1:r.2.2.2.1.size≤maxLen)(hb:Byt r.2.2.2.2.2):A6b r=some (if R5 r then U6 r else ⟨#[]⟩,()):=by
  simp only [A6b,B4X,C10 r h1]
  cases hr:R5 r with
  | false=>rfl
  | true=>
    have hbd:=A0r hr
    have hlen:=B2H r
    simp only [A3,Bool.not_true,cond_false]
    rw [show (3:Int)=((3:Nat):Int) from rfl,A7e [] _ 3 (by omega) (by simp)]
    simp only [List.nil_append]
    rw [show (2:Int)=((2:Nat):Int) from rfl,A7e _ _ 2 (by omega) (by simp [J5])]
    simp only
    rw [A0 (by simp [J5]),A0 (by simp [J5])]
    simp only [cond_true]
    rw [A0 (by simp [J5];omega)]
    simp only [cond_true]
    rw [show (4:Int)=((4:Nat):Int) from rfl,A7e _ _ 4 (by omega) (by simp [J5,bytesOf_length];omega)]
    simp only
    rw [A0 (by simp [J5,bytesOf_length];omega),A0 (by simp [J5,bytesOf_length];omega)]
    simp only [cond_true]
    rw [A0 (by simp [J5,bytesOf_length];omega),A0 (by simp [J5,bytesOf_length];omega)]
    simp only [cond_true]
    have e:big (A01 r.1) 3++big (A01 r.2.1) 2 ++ [IntKind.u8.wrap r.2.2.1,IntKind.u8.wrap (r.2.2.2.1.size:Int)]++bytesOf r.2.2.2.1++big (A01 r.2.2.2.2.1) 4 ++ [IntKind.u8.wrap (List.length r.2.2.2.2.2:Int)]++r.2.2.2.2.2=B1H r:=by
      unfold B1H
      rw [C5C,C5C,C5C,A3W (n:=r.2.2.1) (by omega),A3W (n:=(r.2.2.2.1.size:Int)) (by omega),A3W (n:=(List.length r.2.2.2.2.2:Int)) (by omega)]
      simp [List.append_assoc]
    rw [e,D4V _ (C11 r hb) (by rw [hlen];simp only [maxLen];omega)]
    simp only
    rw [A7e _ _ 4 (by omega) (by rw [hlen];omega)]
    rfl
def C9(b:List Int):Nat:=W5 b 6 1
def P3(b:List Int):Nat:=W5 b (11+C9 b) 1
def recAt(b:List Int):F7:=((W5 b 0 3:Int),(W5 b 3 2:Int),(W5 b 5 1:Int),strOf ((b.take (7+C9 b)).drop 7),(W5 b (7+C9 b) 4:Int),(b.take (12+C9 b+P3 b)).drop (12+C9 b))
def D1N:F7×Bool×Unit:=((0,0,0,⟨#[]⟩,0,[]),false,())
def A7h(s:ByteArray):Bool:=decide (12+C9 (bytesOf s)+P3 (bytesOf s)≤s.size)&&R5 (recAt (bytesOf s))&&((U6 (recAt (bytesOf s))).toList == s.toList)
def C7(s:ByteArray):F7×Bool×Unit:=if A7h s=true then (recAt (bytesOf s),true,()) else D1N
theorem A4T(b:List Int)(a k:Nat)(h:a+k≤b.length):A4S b (a:Int) k=((W5 b a k:Int),true,()):=by
  unfold A4S
  rw [if_pos (by omega),Int.toNat_natCast]
theorem B78(b:List Int)(a k:Nat)(h:¬ a+k≤b.length):A4S b (a:Int) k=(0,false,()):=by
  unfold A4S
  rw [if_neg (by omega)]
theorem B9x{b:List Int}(hb:Byt b)(a:Nat):W5 b a 1<256:=by
  have:=C5B hb a 1
  omega
theorem C48(b:List Int)(h:12+C9 b+P3 b≤b.length):(recAt b).2.2.2.1.size=C9 b∧List.length (recAt b).2.2.2.2.2=P3 b:=by
  simp only [recAt,B0G,List.length_drop,List.length_take]
  omega
theorem B79{b:List Int}(hb:Byt b):Byt (recAt b).2.2.2.2.2:=A6t (A3V hb _) _
theorem A5B(s:ByteArray)(hs:s.size≤1048576):J1 s=some (C7 s):=by
  have hbl:=bytesOf_length s
  have hb:=A7g s
  have hh:(bytesOf s).length≤1048576:=by omega
  have hsz:s.size=(bytesOf s).length:=hbl.symm
  simp only [C7,A7h,hsz]
  have hlen:decide ((bytesOf s).length≤9223372036854775807)=true:=A0 (by omega)
  simp only [J1,B4f,hsz,hlen,cond_true]
  clear hlen hsz
  generalize bytesOf s=b at hb hh ⊢
  clear hbl
  have g0:∀ (a:Int) (k:Nat) (k':Int),k' = (k:Int)→1≤k∧k≤7→A4G b a k' = some (A4S b a k):=fun a k k' e hk=>by rw [e];exact C6W b hb hh a k hk
  have q0:=g0 0 3 3 rfl (by omega)
  have q3:=g0 3 2 2 rfl (by omega)
  have q5:=g0 5 1 1 rfl (by omega)
  have q6:=g0 6 1 1 rfl (by omega)
  simp only [q0,q3,q5,q6]
  by_cases c1:7≤b.length
  · have e0:=A4T b 0 3 (by omega)
    have e3:=A4T b 3 2 (by omega)
    have e5:=A4T b 5 1 (by omega)
    have e6:=A4T b 6 1 (by omega)
    simp only [Int.cast_ofNat_Int] at e0 e3 e5 e6
    have hn:=B9x hb 6
    have hN:(W5 b 6 1:Int)=((C9 b:Nat):Int):=rfl
    have hn':C9 b<256:=hn
    simp only [e0,e3,e5,e6,A3,Bool.not_true,cond_false,hN]
    rw [w64 (n:=7+(C9 b:Int)) (by omega) (by omega),w64 (n:=11+(C9 b:Int)) (by omega) (by omega),w64 (n:=12+(C9 b:Int)) (by omega) (by omega)]
    by_cases c2:7+C9 b≤b.length
    · rw [A4 (show ¬ 7+(C9 b:Int)>(b.length:Int) by omega)]
      simp only [cond_false,B9]
      rw [A0 (show 7≤7+(C9 b:Int) by omega),A0 (show 7+(C9 b:Int)≤(b.length:Int) by omega)]
      simp only [cond_true]
      have q7:=g0 (7+(C9 b:Int)) 4 4 rfl (by omega)
      have q11:=g0 (11+(C9 b:Int)) 1 1 rfl (by omega)
      simp only [q7,q11]
      by_cases c3:12+C9 b≤b.length
      · have e7:=A4T b (7+C9 b) 4 (by omega)
        have e11:=A4T b (11+C9 b) 1 (by omega)
        simp only [Int.natCast_add,Int.cast_ofNat_Int] at e7 e11
        have hm:P3 b<256:=B9x hb _
        have hM:(W5 b (11+C9 b) 1:Int)=((P3 b:Nat):Int):=rfl
        simp only [e7,e11,Bool.not_true,cond_false,hM]
        rw [w64 (n:=12+(C9 b:Int)+(P3 b:Int)) (by omega) (by omega)]
        by_cases c4:12+C9 b+P3 b≤b.length
        · rw [A4 (show ¬ 12+(C9 b:Int)+(P3 b:Int)>(b.length:Int) by omega),A0 (show 0≤12+(C9 b:Int) by omega),A0 (show 12+(C9 b:Int)≤12+(C9 b:Int)+(P3 b:Int) by omega),A0 (show 12+(C9 b:Int)+(P3 b:Int)≤(b.length:Int) by omega)]
          simp only [cond_true,cond_false]
          rw [A0 (by simp;omega),A0 (by simp;omega)]
          have t1:(7+(C9 b:Int)).toNat=7+C9 b:=by omega
          have t2:(12+(C9 b:Int)+(P3 b:Int)).toNat=12+C9 b+P3 b:=by omega
          have t3:(12+(C9 b:Int)).toNat=12+C9 b:=by omega
          simp only [cond_true,List.nil_append,t1,t2,t3]
          have hr:(((W5 b 0 3:Nat):Int),((W5 b 3 2:Nat):Int),((W5 b 5 1:Nat):Int),strOf ((b.take (7+C9 b)).drop 7),((W5 b (7+C9 b) 4:Nat):Int),(b.take (12+C9 b+P3 b)).drop (12+C9 b))=recAt b:=rfl
          obtain ⟨l1,l2⟩:=C48 b c4
          rw [hr,C9A _ (by rw [l1];simp only [maxLen];omega),B86 _ (by rw [l1];omega) (by rw [l2];omega) (B79 hb)]
          rw [A0 c4]
          simp only [Bool.true_and]
          cases R5 (recAt b)
          · rfl
          · cases hp:((U6 (recAt b)).toList == s.toList)
            · rfl
            · rfl
        · rw [A0 (show 12+(C9 b:Int)+(P3 b:Int)>(b.length:Int) by omega),A4 c4]
          rfl
      · have e11:=B78 b (11+C9 b) 1 (by omega)
        simp only [Int.natCast_add,Int.cast_ofNat_Int] at e11
        simp only [e11]
        rw [A4 (show ¬ 12+C9 b+P3 b≤b.length by omega)]
        cases (A4S b (7+(C9 b:Int)) 4).2.1<;>rfl
    · rw [A0 (show 7+(C9 b:Int)>(b.length:Int) by omega),A4 (show ¬ 12+C9 b+P3 b≤b.length by omega)]
      rfl
  · have e6:=B78 b 6 1 (by omega)
    simp only [Int.cast_ofNat_Int] at e6
    rw [A4 (show ¬ 12+C9 b+P3 b≤b.length by omega)]
    simp only [e6,A3]
    cases (A4S b 0 3).2.1<;>cases (A4S b 3 2).2.1<;>cases (A4S b 5 1).2.1<;>rfl
theorem A0a{b:List Int}(hb:Byt b)(hh:b.length≤1048576)(a k:Nat)(k':Int)(e:k' = (k:Int))(hk:1≤k∧k≤7)(h:a+k≤b.length):C8 (b,(a:Int),false) k' = some ((W5 b a k:Int),(b,((a+k:Nat):Int),false),()):=by
  subst e
  simp only [C8,Q7,B2F b hb hh _ k hk,A4T b a k h,A3,B9,Bool.not_true,cond_false]
  rw [w64 (by omega) (by omega)]
  rfl
theorem A6H{b:List Int}(hb:Byt b)(hh:b.length≤1048576)(a k:Nat)(k':Int)(e:k' = (k:Int))(hk:1≤k∧k≤7)(h:¬ a+k≤b.length):C8 (b,(a:Int),false) k' = some (0,(b,(a:Int),true),()):=by
  subst e
  simp only [C8,Q7,B2F b hb hh _ k hk,B78 b a k h,A3,B9,Bool.not_false,cond_false,cond_true]
theorem D6F{b:List Int}(hb:Byt b)(hh:b.length≤1048576)(a:Int)(k:Nat)(k':Int)(e:k' = (k:Int))(hk:1≤k∧k≤7):C8 (b,a,true) k' = some (0,(b,a,true),()):=by
  subst e
  simp only [C8,Q7,B2F b hb hh _ k hk,A3,B9,cond_true]
theorem D4c(b:List Int)(a n:Int):H1 (b,a,true) n=some ([],(b,a,true),()):=by
  simp only [H1,U0,cond_true,B9]
theorem B7A{b:List Int}(hh:b.length≤1048576)(a n:Nat)(h:a+n≤b.length):H1 (b,(a:Int),false) (n:Int)=some ((b.take (a+n)).drop a,(b,((a+n:Nat):Int),false),()):=by
  simp only [H1,U0,cond_false]
  rw [w64 (n:=(b.length:Int)-(a:Int)) (by omega) (by omega),A4 (by omega),w64 (n:=(a:Int)+(n:Int)) (by omega) (by omega),w64 (n:=(a:Int)+(n:Int)-(n:Int)) (by omega) (by omega)]
  simp only [cond_false,B9]
  rw [A0 (by omega),A0 (by omega),A0 (by omega)]
  simp only [cond_true]
  rw [B3k _ (by simp;omega),show ((a:Int)+(n:Int)).toNat=a+n by omega,show ((a:Int)+(n:Int)-(n:Int)).toNat=a by omega]
  rfl
theorem C12{b:List Int}(hh:b.length≤1048576)(a n:Nat)(ha:a≤b.length)(h:¬ a+n≤b.length):H1 (b,(a:Int),false) (n:Int)=some ([],(b,(a:Int),true),()):=by
  simp only [H1,U0,cond_false]
  rw [w64 (n:=(b.length:Int)-(a:Int)) (by omega) (by omega),A0 (by omega)]
  rfl
theorem B2I(s:ByteArray)(hs:s.size≤1048576):A0F s=some (C7 s):=by
  have hbl:=bytesOf_length s
  have hb:=A7g s
  have hh:(bytesOf s).length≤1048576:=by omega
  have hsz:s.size=(bytesOf s).length:=hbl.symm
  simp only [C7,A7h,hsz]
  have hlen:decide ((bytesOf s).length≤9223372036854775807)=true:=A0 (by omega)
  simp only [A0F,B4Y,hsz,hlen,cond_true]
  clear hlen hsz
  generalize bytesOf s=b at hb hh ⊢
  clear hbl
  have nb:∀ (a:Int) (k:Nat) (k':Int),k' = (k:Int)→1≤k∧k≤7→C8 (b,a,true) k' = some (0,(b,a,true),()):=fun a k k' e hk=>D6F hb hh a k k' e hk
  have nb1:∀ a:Int,C8 (b,a,true) 1=some (0,(b,a,true),()):=fun a=>nb a 1 1 rfl (by omega)
  have nb2:∀ a:Int,C8 (b,a,true) 2=some (0,(b,a,true),()):=fun a=>nb a 2 2 rfl (by omega)
  have nb4:∀ a:Int,C8 (b,a,true) 4=some (0,(b,a,true),()):=fun a=>nb a 4 4 rfl (by omega)
  have tb:=D4c b
  have z0:((0:Int),false)=(((0:Nat):Int),false):=rfl
  rw [z0]
  by_cases c4:12+C9 b+P3 b≤b.length
  · have hn':C9 b<256:=B9x hb _
    have hm':P3 b<256:=B9x hb _
    have hN:(W5 b 6 1:Int)=((C9 b:Nat):Int):=rfl
    have hM:(W5 b (11+C9 b) 1:Int)=((P3 b:Nat):Int):=rfl
    rw [A0a hb hh 0 3 3 rfl (by omega) (by omega)]
    simp only [A3]
    rw [A0a hb hh (0+3) 2 2 rfl (by omega) (by omega)]
    simp only
    rw [A0a hb hh (0+3+2) 1 1 rfl (by omega) (by omega)]
    simp only
    rw [A0a hb hh (0+3+2+1) 1 1 rfl (by omega) (by omega)]
    simp only [Nat.zero_add,Nat.reduceAdd,hN]
    rw [B7A hh 7 (C9 b) (by omega)]
    simp only
    rw [A0a hb hh (7+C9 b) 4 4 rfl (by omega) (by omega)]
    simp only
    rw [A0a hb hh (7+C9 b+4) 1 1 rfl (by omega) (by omega)]
    simp only
    rw [show 7+C9 b+4=11+C9 b by omega,hM,show 11+C9 b+1=12+C9 b by omega,B7A hh (12+C9 b) (P3 b) (by omega)]
    simp only [cond_false]
    have hr:(((W5 b 0 3:Nat):Int),((W5 b 3 2:Nat):Int),((W5 b 5 1:Nat):Int),strOf ((b.take (7+C9 b)).drop 7),((W5 b (7+C9 b) 4:Nat):Int),(b.take (12+C9 b+P3 b)).drop (12+C9 b))=recAt b:=rfl
    obtain ⟨l1,l2⟩:=C48 b c4
    rw [hr,C10 _ (by rw [l1];simp only [maxLen];omega),C6Y _ (by rw [l1];simp only [maxLen];omega) (B79 hb)]
    rw [A0 c4]
    simp only [Bool.true_and]
    cases R5 (recAt b)
    · rfl
    · cases hp:((U6 (recAt b)).toList == s.toList)
      · simp [hp];rfl
      · simp [hp]
  · rw [A4 c4]
    have fin:(if (false&&R5 (recAt b)&&((U6 (recAt b)).toList == s.toList))=true then (recAt b,true,()) else D1N)=D1N:=by simp
    rw [fin]
    rcases Nat.lt_or_ge b.length (0+3) with d3 | d3
    · rw [A6H hb hh 0 3 3 rfl (by omega) (by omega)]
      simp only [A3,nb1,nb2,nb4,tb]
      rfl
    rw [A0a hb hh 0 3 3 rfl (by omega) d3]
    simp only [A3]
    rcases Nat.lt_or_ge b.length (0+3+2) with d5 | d5
    · rw [A6H hb hh (0+3) 2 2 rfl (by omega) (by omega)]
      simp only [nb1,nb2,nb4,tb]
      rfl
    rw [A0a hb hh (0+3) 2 2 rfl (by omega) d5]
    simp only
    rcases Nat.lt_or_ge b.length (0+3+2+1) with d6 | d6
    · rw [A6H hb hh (0+3+2) 1 1 rfl (by omega) (by omega)]
      simp only [nb1,nb2,nb4,tb]
      rfl
    rw [A0a hb hh (0+3+2) 1 1 rfl (by omega) d6]
    simp only
    rcases Nat.lt_or_ge b.length (0+3+2+1+1) with d7 | d7
    · rw [A6H hb hh (0+3+2+1) 1 1 rfl (by omega) (by omega)]
      simp only [nb1,nb2,nb4,tb]
      rfl
    rw [A0a hb hh (0+3+2+1) 1 1 rfl (by omega) d7]
    have hN:(W5 b 6 1:Int)=((C9 b:Nat):Int):=rfl
    have hM:(W5 b (11+C9 b) 1:Int)=((P3 b:Nat):Int):=rfl
    simp only [Nat.zero_add,Nat.reduceAdd,hN]
    rcases Nat.lt_or_ge b.length (7+C9 b) with e7 | e7
    · rw [C12 hh 7 (C9 b) (by omega) (by omega)]
      simp only [nb1,nb2,nb4,tb]
      rfl
    rw [B7A hh 7 (C9 b) e7]
    simp only
    rcases Nat.lt_or_ge b.length (7+C9 b+4) with e11 | e11
    · rw [A6H hb hh (7+C9 b) 4 4 rfl (by omega) (by omega)]
      simp only [nb1,nb2,nb4,tb]
      rfl
    rw [A0a hb hh (7+C9 b) 4 4 rfl (by omega) e11]
    simp only
    rcases Nat.lt_or_ge b.length (7+C9 b+4+1) with e12 | e12
    · rw [A6H hb hh (7+C9 b+4) 1 1 rfl (by omega) (by omega)]
      simp only [nb1,nb2,nb4,tb]
      rfl
    rw [A0a hb hh (7+C9 b+4) 1 1 rfl (by omega) e12]
    simp only
    rw [show 7+C9 b+4=11+C9 b by omega,hM,show 11+C9 b+1=12+C9 b by omega,C12 hh (12+C9 b) (P3 b) (by omega) c4]
    rfl
theorem A6I:∀ x:List UInt8,Op.bytesLess x x=false
  | []=>rfl
  | a::x=>by
    have h:¬ a<a:=UInt8.lt_irrefl a
    simp [Op.bytesLess,A6I x,h]
theorem B5m:∀ {x y z:List UInt8},Op.bytesLess x y=true→Op.bytesLess y z=true→Op.bytesLess x z=true
  | _,[],_,h,_=>by cases ‹List UInt8›<;>simp [Op.bytesLess] at h
  | _,_::_,[],_,h=>by simp [Op.bytesLess] at h
  | [],_::_,_::_,_,_=>rfl
  | a::x,b::y,c::z,h1,h2=>by
    simp only [Op.bytesLess,Bool.or_eq_true,Bool.and_eq_true,decide_eq_true_eq,beq_iff_eq] at h1 h2 ⊢
    rcases h1 with h1 | ⟨rfl,h1⟩
    · rcases h2 with h2 | ⟨rfl,h2⟩
      · exact .inl (UInt8.lt_trans h1 h2)
      · exact .inl h1
    · rcases h2 with h2 | ⟨rfl,h2⟩
      · exact .inl h2
      · exact .inr ⟨rfl,B5m h1 h2⟩
theorem C6Z:∀ {x y:List UInt8},Op.bytesLess x y=false→Op.bytesLess y x=false→x=y
  | [],[],_,_=>rfl
  | [],_::_,h,_=>by simp [Op.bytesLess] at h
  | _::_,[],_,h=>by simp [Op.bytesLess] at h
  | a::x,b::y,h1,h2=>by
    simp only [Op.bytesLess,Bool.or_eq_false_iff,decide_eq_false_iff_not,Bool.and_eq_false_iff,beq_eq_false_iff_ne] at h1 h2
    have hab:a=b:=by
      apply UInt8.le_antisymm
      · exact UInt8.not_lt.1 h2.1
      · exact UInt8.not_lt.1 h1.1
    subst hab
    exact congrArg (a::·) (C6Z (by simpa using h1.2) (by simpa using h2.2))
theorem D4d{x y:List UInt8}(h:Op.bytesLess x y=true):Op.bytesLess y x=false:=by
  cases e:Op.bytesLess y x with
  | false=>rfl
  | true=>have:=B5m h e;rw [A6I] at this;cases this
def Ord(us:List TUp):Prop:=us.Pairwise fun a b=>Op.bytesLess a.1.toList b.1.toList=true
theorem C5D{us:List TUp}(h:Ord us){i j:Nat}(hij:i<j)(hj:j<us.length):Op.bytesLess (us[i]'(by omega)).1.toList us[j].1.toList=true:=List.pairwise_iff_getElem.1 h i j (by omega) hj hij
def B2(us:List TUp)(id:ByteArray):Nat:=O5 (fun i=>Op.bytesLess (rd kUp us (i:Int)).1.toList id.toList) 0 us.length
def H5(us:List TUp)(id:ByteArray):Bool:=decide (B2 us id<us.length)&&((rd kUp us (B2 us id:Int)).1.toList == id.toList)
theorem A7i(go:Nat→Bool):∀ k i j,i≤j→j<O5 go i k→go j=true
  | 0,i,j,h1,h2=>by simp only [O5] at h2;omega
  | k+1,i,j,h1,h2=>by
    simp only [O5] at h2
    split at h2
    · rename_i hg
      by_cases e:j=i
      · rw [e];exact hg
      · exact A7i go k (i+1) j (by omega) h2
    · omega
theorem A7j(go:Nat→Bool)(n p:Nat)(hp:p≤n)(h1:∀ j,j<p→go j=true)(h2:p<n→go p=false):O5 go 0 n=p:=by
  have hl:=B73 go n 0
  rcases Nat.lt_trichotomy (O5 go 0 n) p with h | h | h
  · have:=B0C go n 0 (by omega)
    rw [h1 _ h] at this;cases this
  · exact h
  · have:=A7i go n 0 p (by omega) h
    rw [h2 (by omega)] at this;cases this
theorem A5C(us:List TUp)(id:ByteArray):B2 us id≤us.length:=by have:=B73 (fun i=>Op.bytesLess (rd kUp us (i:Int)).1.toList id.toList) us.length 0;unfold B2;omega
theorem B2J{us:List TUp}{id:ByteArray}{j:Nat}(hj:j<B2 us id):Op.bytesLess (us[j]'(by have:=A5C us id;omega)).1.toList id.toList=true:=by
  have:=A7i _ us.length 0 j (by omega) hj
  rwa [E3 (k:=kUp) (xs:=us) (by have:=A5C us id;omega)] at this
theorem B5n{us:List TUp}{id:ByteArray}(h:B2 us id<us.length):Op.bytesLess us[B2 us id].1.toList id.toList=false:=by
  have:=B0C (fun i=>Op.bytesLess (rd kUp us (i:Int)).1.toList id.toList) us.length 0 (by unfold B2 at h;omega)
  have h2:Op.bytesLess (rd kUp us (B2 us id:Int)).1.toList id.toList=false:=this
  rwa [E3 (k:=kUp) (xs:=us) h] at h2
theorem D4e{us:List TUp}(ho:Ord us){id:ByteArray}{j:Nat}(hj:B2 us id≤j)(hl:j<us.length):Op.bytesLess us[j].1.toList id.toList=false:=by
  rcases Nat.eq_or_lt_of_le hj with e | h
  · subst e;exact B5n hl
  · cases e:Op.bytesLess us[j].1.toList id.toList with
    | false=>rfl
    | true=>
      have:=B5m (C5D ho h hl) e
      rw [B5n (by omega)] at this
      cases this
theorem H3{us:List TUp}{id:ByteArray}:H5 us id=true↔∃ h:B2 us id<us.length,us[B2 us id].1.toList=id.toList:=by
  unfold H5
  constructor
  · intro h
    simp only [Bool.and_eq_true,decide_eq_true_eq,beq_iff_eq] at h
    refine ⟨h.1,?_⟩
    have h2:=h.2
    rwa [E3 (k:=kUp) (xs:=us) h.1] at h2
  · rintro ⟨h,e⟩
    simp only [Bool.and_eq_true,decide_eq_true_eq,beq_iff_eq]
    refine ⟨h,?_⟩
    rw [E3 (k:=kUp) (xs:=us) h]
    exact e
theorem B5o{us:List TUp}(ho:Ord us){id:ByteArray}(hn:H5 us id=false){j:Nat}(hj:B2 us id≤j)(hl:j<us.length):Op.bytesLess id.toList us[j].1.toList=true:=by
  cases e:Op.bytesLess id.toList us[j].1.toList with
  | true=>rfl
  | false=>
    have h1:=C6Z (D4e ho hj hl) e
    exfalso
    rcases Nat.eq_or_lt_of_le hj with e2 | h
    · subst e2
      have:=H3.2 ⟨hl,h1⟩
      rw [hn] at this;cases this
    · have h2:=C5D ho h hl
      rw [h1,B5n (by omega)] at h2
      cases h2
theorem C13{us:List TUp}(ho:Ord us){id:ByteArray}(h:H5 us id=true):C30 us id=B2 us id:=by
  obtain ⟨hl,e⟩:=H3.1 h
  refine A7j _ us.length _ (A5C us id) (fun j hj=>?_) (fun _=>?_)
  · rw [E3 (k:=kUp) (xs:=us) (by omega)]
    have h1:=B2J hj
    cases e2:((us[j]'(by omega)).1.toList == id.toList) with
    | false=>rfl
    | true=>
      rw [eq_of_beq e2,A6I] at h1
      cases h1
  · rw [E3 (k:=kUp) (xs:=us) hl,e]
    simp
theorem C14{us:List TUp}(ho:Ord us){id:ByteArray}(h:H5 us id=false):C30 us id=us.length:=by
  refine A7j _ us.length _ (Nat.le_refl _) (fun j hj=>?_) (fun h=>by omega)
  rw [E3 (k:=kUp) (xs:=us) hj]
  cases e2:(us[j].1.toList == id.toList) with
  | false=>rfl
  | true=>
    exfalso
    have e3:=eq_of_beq e2
    by_cases hp:j<B2 us id
    · have h1:=B2J hp
      rw [e3,A6I] at h1
      cases h1
    · have h1:=B5o ho h (show B2 us id≤j by omega) hj
      rw [e3,A6I] at h1
      cases h1
theorem D2M(us:List TUp)(id:ByteArray)(h:us.length≤maxLen):B1o us id=some ((B2 us id:Int),H5 us id,()):=by
  simp only [B1o,C0m]
  have e:=A1M (A6c us id) (fun i=>((i:Int),())) us.length (fun i=>((i:Int),())) (fun i=>Op.bytesLess (rd kUp us (i:Int)).1.toList id.toList) (fun i hi=>?_) ?_
  · have e':C0 (A6c us id) (0,())=some ((B2 us id:Int),()):=e
    rw [e']
    simp only [A3]
    have hle:=A5C us id
    unfold H5
    by_cases hl:B2 us id<us.length
    · rw [A0 (show (B2 us id:Int)<(us.length:Int) by omega),A0 (show (0:Int)≤(B2 us id:Int) by omega),A0 hl]
      simp
    · rw [A4 (show ¬ (B2 us id:Int)<(us.length:Int) by omega),A4 hl]
      simp
  · have h1:((i:Int)<(us.length:Int)):=by omega
    have h2:(0:Int)≤(i:Int):=by omega
    simp only [A6c,A0 h1,A0 h2,cond_true]
    rw [w64 (by omega) (by simp only [maxLen] at h;omega)]
    cases Op.bytesLess (rd kUp us (i:Int)).1.toList id.toList<;>simp
  · simp [A6c]
theorem B4r(us:List TUp)(h:us.length≤1048576)(hd:∀ u∈us,List.length u.2.2.1≤2000000000):K6 us=some (us,()):=by
  simp only [K6,A3J]
  have key:=G2 (A1a us) (fun i=>((i:Int),us.take i,())) us.length (us,()) (fun i hi=>?_) ?_
  · simpa using key
  · have h1:((i:Int)<(us.length:Int)):=by omega
    have h2:(0:Int)≤(i:Int):=by omega
    have hu:List.length (rd kUp us (i:Int)).2.2.1≤2000000000:=by
      rw [E3 (k:=kUp) (xs:=us) hi]
      exact hd _ (List.getElem_mem hi)
    have e:((rd kUp us (i:Int)).1,(rd kUp us (i:Int)).2.1,[]++(rd kUp us (i:Int)).2.2.1,(rd kUp us (i:Int)).2.2.2)=us[i]:=by
      rw [E3 (k:=kUp) (xs:=us) hi]
      rfl
    simp only [A1a,A0 h1,A0 h2,cond_true,e]
    rw [A0 (by simp;omega),A0 (by simp;omega),A0 (by simp;omega),A0 (by simp;omega),w64 (by omega) (by omega)]
    simp only [cond_true]
    rw [List.take_succ_eq_append_getElem hi]
    rfl
  · simp [A1a]
theorem C9B(us:List TUp)(u:TUp)(ho:Ord us)(h:us.length≤1048576)(hd:∀ u∈us,List.length u.2.2.1≤2000000000) :
    ∃ k,k≤us.length∧N5 us u=some (us.take k++u::us.drop k,())∧(H5 us u.1=false→k=B2 us u.1):=by
  simp only [N5,Z5,B4r us h hd,A3]
  rw [A0 (by simp;omega),A0 (by simp;omega)]
  simp only [cond_true]
  have hst:IntKind.i64.wrap (((us ++ [u]).length:Int)-1)=(us.length:Int):=by
    rw [w64 (by simp only [List.length_append,List.length_singleton];omega) (by simp only [List.length_append,List.length_singleton];omega)]
    simp
  rw [hst]
  obtain ⟨z,e,k,hz1,hz2,hz3⟩:=R4 (W7 u) (fun l=>l.1.toNat)
    (fun l=>∃ (k:Nat) (c:TUp),l.1=(k:Int)∧k≤us.length∧l.2.1=us.take k++c::us.drop k∧(H5 us u.1=false→B2 us u.1≤k))
    (fun z=>∃ k:Nat,k≤us.length∧(H5 us u.1=false→k=B2 us u.1)∧∃ c,z=((k:Int),us.take k++c::us.drop k,())) (fun l hl=>by
      obtain ⟨l1,l2,l3⟩:=l
      obtain ⟨k,c,h1,h2,h3,h4⟩:=hl
      simp only at h1 h3
      subst h1;subst h3
      simp only [W7]
      by_cases hk:k=0
      · subst hk
        refine .inr ⟨_,by rw [A4 (by omega)];rfl,0,by omega,fun q=>?_,c,rfl⟩
        have:=h4 q;omega
      · obtain ⟨k,rfl⟩:∃ k',k=k'+1:=⟨k-1,by omega⟩
        have hlen:(us.take (k+1)++c::us.drop (k+1)).length=us.length+1:=by simp;omega
        have ew:IntKind.i64.wrap (((k+1:Nat):Int)-1)=(k:Int):=by rw [w64 (by omega) (by omega)];omega
        have hget:rd (.pair .str (.pair (.int .i64) (.pair (.rs 5 (.int .u8)) .bool))) (us.take (k+1)++c::us.drop (k+1)) (k:Int)=us[k]'(by omega):=by
          rw [E3 (k:=.pair .str (.pair (.int .i64) (.pair (.rs 5 (.int .u8)) .bool))) (xs:=us.take (k+1)++c::us.drop (k+1)) (by rw [hlen];omega)]
          rw [List.getElem_append_left (by simp;omega),List.getElem_take]
        rw [A0 (show ((k+1:Nat):Int)>0 by omega),ew,hlen,A0 (show (0:Int)≤(k:Int) by omega),A0 (show (k:Int)<((us.length+1:Nat):Int) by omega),hget]
        simp only [cond_true]
        have hlen2:(k:Int)+1=((k+1:Nat):Int):=by omega
        cases hc:(!(Op.bytesLess (us[k]'(by omega)).1.toList u.1.toList||((us[k]'(by omega)).1.toList == u.1.toList))) with
        | false=>
          refine Or.inr ⟨(((k+1:Nat):Int),us.take (k+1)++c::us.drop (k+1),()),rfl,k+1,h2,fun q=>?_,c,rfl⟩
          have h5:=h4 q
          by_cases hkp:B2 us u.1≤k
          · have h6:=B5o ho q hkp (by omega)
            simp only [Bool.not_eq_false',Bool.or_eq_true,beq_iff_eq] at hc
            rcases hc with hc | hc
            · rw [D4d h6] at hc;cases hc
            · rw [hc,A6I] at h6;cases h6
          · omega
        | true=>
          refine Or.inl ⟨((k:Int),us.take k++(us[k]'(by omega))::us.drop k,()),?_,⟨k,us[k]'(by omega),rfl,by omega,rfl,fun q=>?_⟩,by simp only;omega⟩
          · simp only [cond_true,B9]
            rw [A0 (show (0:Int)≤((k+1:Nat):Int) by omega),A0 (show ((k+1:Nat):Int)<((us.length+1:Nat):Int) by omega)]
            simp only [cond_true,A3,Int.toNat_natCast]
            have e1:(us.take (k+1)++c::us.drop (k+1)).set (k+1) (us[k]'(by omega))=us.take k++(us[k]'(by omega))::us.drop k:=by
              rw [List.set_append_right _ _ (by simp;omega)]
              rw [show (us.take (k+1)).length=k+1 by simp;omega,Nat.sub_self,List.set_cons_zero,List.take_succ_eq_append_getElem (by omega),List.append_assoc,List.drop_eq_getElem_cons (i:=k) (by omega)]
              rfl
            rw [e1]
          · have h5:=h4 q
            by_cases hkp:k<B2 us u.1
            · have h6:=B2J hkp
              rw [h6] at hc
              simp at hc
            · omega) ((us.length:Int),us ++ [u],()) ⟨us.length,u,rfl,Nat.le_refl _,by simp,fun _=>A5C us u.1⟩
  obtain ⟨c,rfl⟩:=hz3
  rw [e]
  simp only
  have hlen:(us.take k++c::us.drop k).length=us.length+1:=by simp;omega
  rw [A0 (by omega),A0 (by rw [hlen];omega)]
  simp only [cond_true,Int.toNat_natCast]
  refine ⟨k,hz1,?_,hz2⟩
  rw [List.set_append_right _ _ (by simp;omega),show (us.take k).length=k by simp;omega,Nat.sub_self,List.set_cons_zero]
def B1I(r:F7):Prop:=R5 r=true∧Byt r.2.2.2.2.2
def UpG(u:TUp):Prop:=(List.length u.2.2.1:Int)≤u.2.1∧u.2.1≤1000000000∧u.1.size≤8∧Byt u.2.2.1
def Ups(us:List TUp):Prop:=Ord us∧us.length≤10∧∀ u∈us,UpG u
theorem B9y:Ups []:=⟨List.Pairwise.nil,by simp,fun u hu=>by cases hu⟩
theorem B0I{us:List TUp}(h:Ups us):∀ u∈us,List.length u.2.2.1≤2000000000:=fun u hu=>by have h1:=(h.2.2 u hu).1;have h2:=(h.2.2 u hu).2.1;omega
def J6(us:List TUp)(r:F7):Option (List TUp):=
  let p:=B2 us r.2.2.2.1
  let u:=rd kUp us (p:Int)
  if r.2.2.1=1 then (if H5 us r.2.2.2.1=true∨10≤us.length then none else some (us.take p++(r.2.2.2.1,r.2.2.2.2.1,[],false)::us.drop p))
  else if H5 us r.2.2.2.1=false then none
  else if r.2.2.1=2 then (if u.2.2.2=true∨r.2.2.2.2.1≠(List.length u.2.2.1:Int)∨(List.length u.2.2.1:Int)+(List.length r.2.2.2.2.2:Int)>u.2.1 then none else some (us.set p (u.1,u.2.1,u.2.2.1++r.2.2.2.2.2,u.2.2.2)))
  else if r.2.2.1=3 then (if u.2.2.2=true∨(List.length u.2.2.1:Int)≠u.2.1 then none else some (us.set p (u.1,u.2.1,u.2.2.1,true)))
  else if r.2.2.1=4 then some (us.take p++us.drop (p+1))
  else none
def B3l(us:List TUp)(r:F7):List TUp×Bool×Unit:=match J6 us r with
  | some us'=>(us',true,())
  | none=>([],false,())
theorem D2N(us:List TUp)(r:F7)(h:Ups us)(h2:List.length r.2.2.2.2.2≤1048576):A8f us r=some (B3l us r):=by
  have hl:=h.2.1
  have hp:=A5C us r.2.2.2.1
  simp only [A8f,C0n,D2M us _ (show us.length≤maxLen by simp only [maxLen];omega),A3,B3l,J6]
  by_cases k1:r.2.2.1=1
  · rw [A0 k1,if_pos k1]
    simp only [cond_true]
    cases hh:H5 us r.2.2.2.1 with
    | true=>simp [B9]
    | false=>
      by_cases h10:10≤us.length
      · rw [A0 (show (us.length:Int)≥10 by omega),if_pos (.inr h10)]
        rfl
      · rw [A4 (show ¬ (us.length:Int)≥10 by omega),if_neg (by simp;omega)]
        simp only [cond_false,B9,K2,D1K]
        rw [A0 (by omega),A0 (by omega),A0 (by simp),A0 (by simp;omega)]
        simp [A3]
  rw [A4 k1,if_neg k1]
  simp only [cond_false]
  cases hh:H5 us r.2.2.2.1 with
  | false=>simp
  | true=>
    obtain ⟨hlt,hid⟩:=H3.1 hh
    have hu:(List.length us[B2 us r.2.2.2.1].2.2.1:Int)≤us[B2 us r.2.2.2.1].2.1∧us[B2 us r.2.2.2.1].2.1≤1000000000:=⟨(h.2.2 _ (List.getElem_mem hlt)).1,(h.2.2 _ (List.getElem_mem hlt)).2.1⟩
    have hrd:rd kUp us (B2 us r.2.2.2.1:Int)=us[B2 us r.2.2.2.1]:=E3 (k:=kUp) (xs:=us) hlt
    simp only [Bool.not_true,cond_false,Bool.true_eq_false,if_false]
    rw [A0 (by omega),A0 (by omega)]
    simp only [cond_true,Int.toNat_natCast,hrd]
    generalize us[B2 us r.2.2.2.1]=u at hu hid ⊢
    by_cases k2:r.2.2.1=2
    · rw [A0 k2,if_pos k2]
      simp only [cond_true]
      cases hd:u.2.2.2 with
      | true=>simp [B9]
      | false=>
        by_cases hn:r.2.2.2.2.1=(List.length u.2.2.1:Int)
        · rw [A0 hn,w64 (by omega) (by omega)]
          by_cases hw:(List.length u.2.2.1:Int)+(List.length r.2.2.2.2.2:Int)>u.2.1
          · rw [A0 hw,if_pos (.inr (.inr hw))]
            rfl
          · rw [A4 hw,if_neg (by simp [hn];omega)]
            simp only [Bool.not_true,cond_false,B9]
            rw [A0 (by omega),A0 (by omega)]
            rfl
        · rw [A4 hn,if_pos (.inr (.inl hn))]
          rfl
    rw [A4 k2,if_neg k2]
    by_cases k3:r.2.2.1=3
    · rw [A0 k3,if_pos k3]
      simp only [cond_true,cond_false]
      cases hd:u.2.2.2 with
      | true=>simp
      | false=>
        by_cases hn:(List.length u.2.2.1:Int)=u.2.1
        · rw [A0 hn,if_neg (by simp [hn])]
          rfl
        · rw [A4 hn,if_pos (.inr hn)]
          rfl
    rw [A4 k3,if_neg k3]
    by_cases k4:r.2.2.1=4
    · rw [A0 k4,if_pos k4,w64 (n:=(B2 us r.2.2.2.1:Int)+1) (by omega) (by omega)]
      simp only [cond_true,cond_false,K4,D1J]
      rw [A0 (by omega),A0 (by omega),A0 (by omega)]
      simp only [cond_true,Int.toNat_natCast]
      rw [show ((B2 us r.2.2.2.1:Int)+1).toNat=B2 us r.2.2.2.1+1 by omega]
    rw [A4 k4,if_neg k4]
    rfl
theorem C6a(us:List TUp)(r:F7)(h:Ups us)(h2:List.length r.2.2.2.2.2≤1048576):∃ x,G0 us r=some (x,(B3l us r).2.1,())∧((B3l us r).2.1=true→x=(B3l us r).1):=by
  have hl:=h.2.1
  have hp:=A5C us r.2.2.2.1
  have hat:=C0z us r.2.2.2.1 (show us.length≤maxLen by simp only [maxLen];omega)
  have hcp:=B4r us (by omega) (B0I h)
  obtain ⟨k,hk,hmk,hmk2⟩:=C9B us (r.2.2.2.1,r.2.2.2.2.1,[],false) h.1 (by omega) (B0I h)
  simp only [G0,A0K,hat,hcp,hmk,A3,B3l,J6]
  by_cases k1:r.2.2.1=1
  · rw [A0 k1,if_pos k1]
    simp only [cond_true]
    cases hh:H5 us r.2.2.2.1 with
    | true=>
      obtain ⟨hlt,hid⟩:=H3.1 hh
      rw [C13 h.1 hh,if_pos hlt,A4 (by omega)]
      simp
    | false=>
      have hk2:=hmk2 hh
      simp only at hk2
      rw [C14 h.1 hh,if_neg (Nat.lt_irrefl _),A0 (by omega)]
      simp only [cond_true]
      by_cases h10:10≤us.length
      · rw [A4 (by omega),if_pos (.inr h10)]
        simp
      · rw [A0 (by omega),if_neg (by simp;omega),hk2]
        simp
  rw [A4 k1,if_neg k1]
  simp only [cond_false]
  cases hh:H5 us r.2.2.2.1 with
  | false=>
    rw [C14 h.1 hh,if_neg (Nat.lt_irrefl _),A0 (by omega)]
    simp
  | true=>
    obtain ⟨hlt,hid⟩:=H3.1 hh
    have hu:(List.length us[B2 us r.2.2.2.1].2.2.1:Int)≤us[B2 us r.2.2.2.1].2.1∧us[B2 us r.2.2.2.1].2.1≤1000000000:=⟨(h.2.2 _ (List.getElem_mem hlt)).1,(h.2.2 _ (List.getElem_mem hlt)).2.1⟩
    have hrd:rd kUp us (B2 us r.2.2.2.1:Int)=us[B2 us r.2.2.2.1]:=E3 (k:=kUp) (xs:=us) hlt
    rw [C13 h.1 hh,if_pos hlt,A4 (by omega)]
    simp only [cond_false,Bool.true_eq_false,if_false]
    rw [A0 (by omega),A0 (by omega)]
    simp only [cond_true,Int.toNat_natCast,hrd]
    generalize us[B2 us r.2.2.2.1]=u at hu hid ⊢
    by_cases k2:r.2.2.1=2
    · rw [A0 k2,if_pos k2]
      simp only [cond_true]
      cases hd:u.2.2.2 with
      | true=>simp [B9]
      | false=>
        by_cases hn:r.2.2.2.2.1=(List.length u.2.2.1:Int)
        · rw [A0 hn,hn,w64 (by omega) (by omega)]
          by_cases hw:(List.length u.2.2.1:Int)+(List.length r.2.2.2.2.2:Int)>u.2.1
          · rw [A0 hw,if_pos (.inr (.inr hw))]
            exact ⟨_,rfl,fun e=>by cases e⟩
          · rw [A4 hw,if_neg (by simp;omega)]
            simp only [Bool.not_true,cond_false,B9]
            rw [A0 (by omega),A0 (by omega)]
            exact ⟨_,rfl,fun _=>rfl⟩
        · rw [A4 hn,if_pos (.inr (.inl hn))]
          exact ⟨_,rfl,fun e=>by cases e⟩
    rw [A4 k2,if_neg k2]
    by_cases k3:r.2.2.1=3
    · rw [A0 k3,if_pos k3]
      simp only [cond_true,cond_false]
      cases hd:u.2.2.2 with
      | true=>simp
      | false=>
        by_cases hn:(List.length u.2.2.1:Int)=u.2.1
        · rw [A0 hn,if_neg (by simp [hn])]
          exact ⟨_,rfl,fun _=>rfl⟩
        · rw [A4 hn,if_pos (.inr hn)]
          exact ⟨_,rfl,fun e=>by cases e⟩
    rw [A4 k3,if_neg k3]
    by_cases k4:r.2.2.1=4
    · rw [A0 k4,if_pos k4,w64 (n:=(B2 us r.2.2.2.1:Int)+1) (by omega) (by omega)]
      simp only [cond_true,cond_false]
      rw [A0 (by omega),A0 (by omega),A0 (by omega),A0 (by omega)]
      simp only [cond_true]
      rw [show ((B2 us r.2.2.2.1:Int)+1).toNat=B2 us r.2.2.2.1+1 by omega,A0 (by omega)]
      simp only [cond_true,List.take_length]
      exact ⟨_,rfl,fun _=>rfl⟩
    rw [A4 k4,if_neg k4]
    exact ⟨_,rfl,fun e=>by cases e⟩
theorem D1O{us:List TUp}(h:Ord us)(p:Nat)(hp:p<us.length)(u:TUp)(hu:u.1=us[p].1):Ord (us.set p u):=by
  refine List.pairwise_iff_getElem.2 fun i j hi hj hij=>?_
  simp only [List.length_set] at hi hj
  have hk:∀ q (hq:q<us.length),((us.set p u)[q]'(by simpa using hq)).1=us[q].1:=fun q hq=>by
    rw [List.getElem_set]
    split
    · rename_i e;subst e;exact hu
    · rfl
  rw [hk i hi,hk j hj]
  exact C5D h hij hj
theorem B2K{us us':List TUp}{r:F7}(h:Ups us)(hr':B1I r)(e:J6 us r=some us'):Ups us':=by
  have hr:=hr'.1
  have hp:=A5C us r.2.2.2.1
  have hb:=A0r hr
  simp only [J6] at e
  split at e
  · split at e
    · cases e
    rename_i hc
    injection e with e
    subst e
    have hnh:H5 us r.2.2.2.1=false:=by cases q:H5 us r.2.2.2.1;rfl;exact absurd (.inl q) hc
    refine ⟨?_,by simp;omega,fun u hu=>?_⟩
    · show List.Pairwise _ _
      rw [List.pairwise_append]
      refine ⟨h.1.sublist (List.take_sublist _ _),List.pairwise_cons.2 ⟨fun b hb=>?_,h.1.sublist (List.drop_sublist _ _)⟩,fun a ha b hb=>?_⟩
      · obtain ⟨j,hj,rfl⟩:=List.getElem_of_mem hb
        rw [List.getElem_drop]
        exact B5o h.1 hnh (by omega) _
      · obtain ⟨j,hj,rfl⟩:=List.getElem_of_mem ha
        rw [List.length_take] at hj
        rw [List.getElem_take]
        have h1:=B2J (us:=us) (id:=r.2.2.2.1) (j:=j) (by omega)
        rcases List.mem_cons.1 hb with rfl | hb
        · exact h1
        · obtain ⟨q,hq,rfl⟩:=List.getElem_of_mem hb
          rw [List.getElem_drop]
          rw [List.length_drop] at hq
          exact B5m h1 (B5o h.1 hnh (by omega) (by omega))
    · rcases List.mem_append.1 hu with hu | hu
      · exact h.2.2 u (List.mem_of_mem_take hu)
      · rcases List.mem_cons.1 hu with rfl | hu
        · exact ⟨by simp only [List.length_nil];omega,by simp only;omega,hb.2.2.2.2.1,T3⟩
        · exact h.2.2 u (List.mem_of_mem_drop hu)
  split at e
  · cases e
  rename_i _ hh
  have hh:H5 us r.2.2.2.1=true:=by cases q:H5 us r.2.2.2.1;exact absurd q hh;rfl
  obtain ⟨hlt,hid⟩:=H3.1 hh
  have hrd:rd kUp us (B2 us r.2.2.2.1:Int)=us[B2 us r.2.2.2.1]:=E3 (k:=kUp) (xs:=us) hlt
  have hu0:=h.2.2 _ (List.getElem_mem hlt)
  simp only [hrd] at e
  split at e
  · split at e
    · cases e
    rename_i hc
    injection e with e
    subst e
    refine ⟨D1O h.1 _ hlt _ rfl,by simp;exact h.2.1,fun u hu=>?_⟩
    rcases List.mem_or_eq_of_mem_set hu with hu | rfl
    · exact h.2.2 u hu
    · refine ⟨?_,hu0.2.1,hu0.2.2.1,B9w hu0.2.2.2 hr'.2⟩
      simp only [List.length_append]
      have:¬ ((List.length us[B2 us r.2.2.2.1].2.2.1:Int)+(List.length r.2.2.2.2.2:Int)>us[B2 us r.2.2.2.1].2.1):=fun q=>hc (.inr (.inr q))
      omega
  split at e
  · split at e
    · cases e
    injection e with e
    subst e
    refine ⟨D1O h.1 _ hlt _ rfl,by simp;exact h.2.1,fun u hu=>?_⟩
    rcases List.mem_or_eq_of_mem_set hu with hu | rfl
    · exact h.2.2 u hu
    · exact hu0
  split at e
  · injection e with e
    subst e
    refine ⟨?_,by have:=h.2.1;simp only [List.length_append,List.length_take,List.length_drop];omega,fun u hu=>?_⟩
    · show List.Pairwise _ _
      rw [List.pairwise_append]
      refine ⟨h.1.sublist (List.take_sublist _ _),h.1.sublist (List.drop_sublist _ _),fun a ha b hb=>?_⟩
      obtain ⟨j,hj,rfl⟩:=List.getElem_of_mem ha
      obtain ⟨q,hq,rfl⟩:=List.getElem_of_mem hb
      rw [List.length_take] at hj
      rw [List.length_drop] at hq
      rw [List.getElem_take,List.getElem_drop]
      exact C5D h.1 (by omega) (by omega)
    · rcases List.mem_append.1 hu with hu | hu
      · exact h.2.2 u (List.mem_of_mem_take hu)
      · exact h.2.2 u (List.mem_of_mem_drop hu)
  · cases e
def G3:List TUp→List F7→Option (List TUp)
  | us,[]=>some us
  | us,r::l=>match J6 us r with
    | some us'=>G3 us' l
    | none=>none
def A20(l:List F7):List TUp×Bool×Unit:=match G3 [] l with
  | some us=>(us,true,())
  | none=>([],false,())
theorem A7k:∀ {l:List F7} {us us':List TUp},Ups us→(∀ r∈l,B1I r)→G3 us l=some us'→Ups us'
  | [],us,us',h,_,e=>by simp only [G3,Option.some.injEq] at e;subst e;exact h
  | r::l,us,us',h,hr,e=>by
    simp only [G3] at e
    split at e
    · rename_i us1 e1
      exact A7k (B2K h (hr r (by simp)) e1) (fun x hx=>hr x (by simp [hx])) e
    · cases e
theorem C49{α:Type}(f:α→Option (α⊕((List TUp×Unit)⊕(List TUp×Bool×Unit))))(s:Nat→List TUp→α)(l:List F7)(hr:∀ r∈l,B1I r)
    (hs:∀ (i:Nat) (hi:i<l.length) (us:List TUp),Ups us→f (s i us)=match J6 us l[i] with
      | some us'=>some (.inl (s (i+1) us'))
      | none=>some (.inr (.inr ([],false,()))))
    (he:∀ us,f (s l.length us)=some (.inr (.inl (us,())))):B9 (C0 f (s 0 [])) (fun m=>some (m.1,true,()))=some (A20 l):=by
  have key:∀ k i us,i+k=l.length→Ups us→B9 (C0 f (s i us)) (fun m=>some (m.1,true,()))=some (match G3 us (l.drop i) with
      | some us'=>(us',true,())
      | none=>([],false,())):=by
    intro k
    induction k with
    | zero=>
      intro i us hi hu
      obtain rfl:i=l.length:=by omega
      rw [A13,he]
      simp [G3,B9]
    | succ k ih=>
      intro i us hi hu
      have hlt:i<l.length:=by omega
      rw [A13,hs i hlt us hu,List.drop_eq_getElem_cons hlt]
      simp only [G3]
      cases e:J6 us l[i] with
      | none=>rfl
      | some us'=>exact ih (i+1) us' (by omega) (B2K hu (hr _ (List.getElem_mem hlt)) e)
  exact key l.length 0 [] (by omega) B9y
theorem C31(l:List F7)(hl:l.length≤maxLen)(hr:∀ r∈l,B1I r):A3G l=some (A20 l):=by
  simp only [A3G,A9p]
  refine C49 (A3F A8f l) (fun i us=>((i:Int),us,())) l hr (fun i hi us hu=>?_) (fun us=>by simp [A3F])
  have h1:((i:Int)<(l.length:Int)):=by omega
  have h2:(0:Int)≤(i:Int):=by omega
  have hb:=A0r (hr _ (List.getElem_mem hi)).1
  simp only [A3F,A0 h1,A0 h2,cond_true]
  rw [E3 (k:=A5w) (xs:=l) hi,D2N us _ hu (by omega),w64 (by omega) (by simp only [maxLen] at hl;omega)]
  simp only [A3,B3l]
  cases J6 us l[i]<;>rfl
theorem A8B(l:List F7)(hl:l.length≤maxLen)(hr:∀ r∈l,B1I r):N0 l=some (A20 l):=by
  simp only [N0,A2S]
  refine C49 (X3 G0 l) (fun i us=>((i:Int),us,())) l hr (fun i hi us hu=>?_) (fun us=>by simp [X3])
  have h1:((i:Int)<(l.length:Int)):=by omega
  have h2:(0:Int)≤(i:Int):=by omega
  have hb:=A0r (hr _ (List.getElem_mem hi)).1
  obtain ⟨x,hx,hx2⟩:=C6a us l[i] hu (by omega)
  simp only [X3,A0 h1,A0 h2,cond_true]
  rw [E3 (k:=A5w) (xs:=l) hi,hx,w64 (by omega) (by simp only [maxLen] at hl;omega)]
  simp only [A3,B3l] at hx2 ⊢
  cases e:J6 us l[i] with
  | none=>rfl
  | some us'=>
    rw [e] at hx2
    rw [hx2 rfl]
    rfl
def B1J(l:List ByteArray):Prop:=l.length≤1048576∧∀ s∈l,s.size≤1048576
theorem A7l{l:List ByteArray}(h:B1J l){i:Nat}(hi:i<l.length):(rd .str l (i:Int)).size≤1048576:=by
  rw [A3T hi]
  exact h.2 _ (List.getElem_mem hi)
theorem B87{s:ByteArray}(h:(C7 s).2.1=true):B1I (C7 s).1:=by
  unfold C7 at h ⊢
  split at h
  · rename_i hg
    rw [if_pos hg]
    simp only [A7h,Bool.and_eq_true] at hg
    exact ⟨hg.1.2,B79 (A7g s)⟩
  · cases h
theorem D2O(d:I8)(h:B1J d.1)(l:Int×Int×List F7×Unit)(h0:0≤l.2.1):A3D A0F d l=S2 J1 d l:=by
  simp only [A3D,S2]
  by_cases hi:l.2.1<(d.1.length:Int)
  · obtain ⟨i,hn⟩:∃ i:Nat,l.2.1=(i:Int):=⟨l.2.1.toNat,by omega⟩
    rw [hn] at hi ⊢
    rw [A5B _ (A7l h (by omega)),B2I _ (A7l h (by omega))]
  · rw [A4 hi]
    rfl
theorem D6G(d:I8)(h:B1J d.1):∃ l,U1 d=some (l,())∧A3E d=some (l,())∧l.length≤d.1.length∧∀ r∈l,B1I r:=by
  have hl:=h.1
  obtain ⟨z,e,hz1,hz2⟩:=R4 (S2 J1 d) (fun l=>((d.1.length:Int)-l.2.1).toNat) (fun l=>0≤l.2.1∧(List.length l.2.2.1:Int)=l.2.1∧l.2.1≤(d.1.length:Int)∧∀ r∈l.2.2.1,B1I r)
    (fun z=>List.length z.1≤d.1.length∧∀ r∈z.1,B1I r) (fun l hl=>by
      obtain ⟨h0,h1,h2,h3⟩:=hl
      simp only [S2]
      by_cases hi:l.2.1<(d.1.length:Int)
      · obtain ⟨i,hn⟩:∃ i:Nat,l.2.1=(i:Int):=⟨l.2.1.toNat,by omega⟩
        rw [A0 hi,A0 h0]
        simp only [cond_true]
        rw [hn] at hi h0 h1 h2 ⊢
        rw [A5B _ (A7l h (by omega))]
        simp only [A3]
        have hg:=@B87 (rd .str d.1 (i:Int))
        generalize C7 (rd .str d.1 (i:Int))=g at hg ⊢
        have fin:List.length l.2.2.1≤d.1.length∧∀ r∈l.2.2.1,B1I r:=⟨by omega,h3⟩
        cases hk:g.2.1 with
        | false=>exact .inr ⟨_,rfl,fin⟩
        | true=>
          simp only [Bool.not_true,cond_false]
          by_cases e1:g.1.2.1=(i:Int)
          · rw [A0 e1]
            by_cases e2:g.1.1<l.1
            · rw [A0 e2];exact .inr ⟨_,rfl,fin⟩
            · rw [A4 e2]
              simp only [Bool.not_true,cond_false]
              rw [A0 (by simp;omega),A0 (by simp;omega),w64 (by omega) (by omega)]
              refine .inl ⟨_,rfl,⟨by simp only;omega,by simp;omega,by simp only;omega,fun r hr=>?_⟩,by simp only;omega⟩
              rcases List.mem_append.1 hr with hr | hr
              · exact h3 r hr
              · rw [List.mem_singleton.1 hr];exact hg hk
          · rw [A4 e1];exact .inr ⟨_,rfl,fin⟩
      · rw [A4 hi]
        exact .inr ⟨_,rfl,by simp only;omega,h3⟩) (0,0,[],()) ⟨by simp,by simp,by simp,fun r hr=>by cases hr⟩
  refine ⟨z.1,e,?_,hz1,hz2⟩
  simp only [A3E,A9o]
  rw [B2B (g:=S2 J1 d) (fun l=>0≤l.2.1) (fun l h0=>D2O d h l h0) (fun l y h0 e=>?_) (by simp)]
  · exact e
  · simp only [A3D] at e
    by_cases hi:l.2.1<(d.1.length:Int)
    · obtain ⟨i,hn⟩:∃ i:Nat,l.2.1=(i:Int):=⟨l.2.1.toNat,by omega⟩
      rw [A0 hi,A0 h0] at e
      simp only [cond_true] at e
      rw [hn] at hi h0 e
      rw [B2I _ (A7l h (by omega))] at e
      simp only [A3] at e
      rw [w64 (n:=(i:Int)+1) (by omega) (by omega)] at e
      generalize C7 (rd .str d.1 (i:Int))=g at e
      cases hk:g.2.1<;>simp only [hk,Bool.not_true,Bool.not_false,cond_true,cond_false] at e
      · cases e
      · revert e
        cases decide (g.1.2.1=(i:Int))<;>cases decide (g.1.1<l.1)<;>simp only [Bool.not_true,Bool.not_false,cond_true,cond_false]
        · intro e;cases e
        · intro e;cases e
        · cases decide (List.length l.2.2.1+List.length [g.1]≤9223372036854775807)<;>cases decide ((List.length l.2.2.1+List.length [g.1])*72≤140737488355328)<;>intro e
          · cases e
          · cases e
          · cases e
          · simp only [cond_true] at e
            injection e with e;injection e with e;subst e
            simp only;omega
        · intro e;cases e
    · rw [A4 hi] at e
      cases e
theorem D2P:A9i=T6:=rfl
theorem C6b(d:I8)(h:d.1.length≤1048576):∃ b,T6 d=some (b,())∧(b=true→d.1.length=d.2.length∧d.1.length≤200):=by
  simp only [T6,A9u]
  by_cases h1:(d.1.length:Int)=(d.2.length:Int)
  · rw [A0 h1]
    by_cases h2:(d.1.length:Int)>200
    · rw [A0 h2]
      exact ⟨_,rfl,fun e=>by cases e⟩
    · rw [A4 h2]
      simp only [Bool.not_true,cond_false,B9]
      refine ⟨_,A6q (A0H d) d.1.length (by simp only [maxLen];omega) (fun i=>!decide (((rd .str d.1 (i:Int)).size:Int)>64)&&!decide (((rd .str d.2 (i:Int)).size:Int)>64)) (fun i hi=>?_) (by simp [A0H]),fun _=>by omega⟩
      have g1:((i:Int)<(d.1.length:Int)):=by omega
      have g2:(0:Int)≤(i:Int):=by omega
      have g3:((i:Int)<(d.2.length:Int)):=by omega
      simp only [A0H,A0 g1,A0 g2,A0 g3,cond_true]
      cases decide (((rd .str d.1 (i:Int)).size:Int)>64)<;>cases decide (((rd .str d.2 (i:Int)).size:Int)>64)<;>rfl
  · rw [A4 h1]
    exact ⟨_,rfl,fun e=>by cases e⟩
def A4q(a b:TUp):Bool:=(a.1.toList == b.1.toList)&&decide (a.2.1=b.2.1)&&(a.2.2.2 == b.2.2.2)&&((strOf a.2.2.1).toList == (strOf b.2.2.1).toList)
def A0b(a b:List TUp):Bool:=decide (a.length=b.length)&&(List.range a.length).all fun i=>A4q (rd kUp a (i:Int)) (rd kUp b (i:Int))
theorem C6c(a b:TUp):A6e a b=some (A4q a b,()):=by
  simp only [A6e,B4Z,M1,A1q,A3,A4q]
  cases (a.1.toList == b.1.toList)<;>cases decide (a.2.1=b.2.1)<;>cases (a.2.2.2 == b.2.2.2)<;>rfl
theorem D2Q(a b:List TUp)(h:a.length≤maxLen):C2 a b ()=some (A0b a b,()):=by
  simp only [C2,E1,A0b]
  by_cases hl:a.length=b.length
  · rw [A0 (show (a.length:Int)=(b.length:Int) by omega),A0 hl]
    simp only [Bool.not_true,cond_false,Bool.true_and]
    refine A6q _ a.length h (fun i=>A4q (rd kUp a (i:Int)) (rd kUp b (i:Int))) (fun i hi=>?_) (by simp [D6])
    have g1:((i:Int)<(a.length:Int)):=by omega
    have g2:(0:Int)≤(i:Int):=by omega
    have g3:((i:Int)<(b.length:Int)):=by omega
    simp only [D6,A0 g1,A0 g2,A0 g3,cond_true,C6c,A3]
    cases A4q (rd kUp a (i:Int)) (rd kUp b (i:Int))<;>rfl
  · rw [A4 (show ¬ (a.length:Int)=(b.length:Int) by omega),A4 hl]
    rfl
theorem C4A(a b:List TUp)(h:a.length≤maxLen):A1E a b=some (A0b a b,()):=by
  simp only [A1E,A6h,A0b]
  by_cases hl:a.length=b.length
  · rw [A0 (show (a.length:Int)=(b.length:Int) by omega),A0 hl]
    simp only [Bool.not_true,cond_false,Bool.true_and]
    refine A6q _ a.length h (fun i=>A4q (rd kUp a (i:Int)) (rd kUp b (i:Int))) (fun i hi=>?_) (by simp [A4I])
    have g1:((i:Int)<(a.length:Int)):=by omega
    have g2:(0:Int)≤(i:Int):=by omega
    have g3:((i:Int)<(b.length:Int)):=by omega
    simp only [A4I,A0 g1,A0 g2,A0 g3,cond_true,A4q]
    cases ((rd kUp a (i:Int)).1.toList == (rd kUp b (i:Int)).1.toList)<;>cases decide ((rd kUp a (i:Int)).2.1=(rd kUp b (i:Int)).2.1)<;>cases ((rd kUp a (i:Int)).2.2.2 == (rd kUp b (i:Int)).2.2.2)<;>cases ((strOf (rd kUp a (i:Int)).2.2.1).toList == (strOf (rd kUp b (i:Int)).2.2.1).toList)<;>rfl
  · rw [A4 (show ¬ (a.length:Int)=(b.length:Int) by omega),A4 hl]
    rfl
def A21(e:Int)(s:ByteArray):Bool:=(C7 s).2.1&&decide ((C7 s).1.1≥e)
def A2r(t:Int)(s:ByteArray):Int:=bif (C7 s).2.1 then (bif decide ((C7 s).1.1>t) then (C7 s).1.1 else t) else t
def A3X(l:List ByteArray):Int:=l.foldl A2r (-1)
theorem B3E(e:Int):∀ (l:List ByteArray) (t:Int),decide (l.foldl A2r t<e)=(decide (t<e)&&l.all fun s=>!A21 e s)
  | [],t=>(Bool.and_true _).symm
  | s::l,t=>by
    rw [List.foldl_cons,B3E e l,List.all_cons]
    unfold A2r A21
    cases (C7 s).2.1 with
    | false=>simp
    | true=>
      simp only [cond_true,Bool.true_and]
      by_cases h1:(C7 s).1.1>t
      · rw [A0 h1]
        by_cases h2:(C7 s).1.1≥e
        · rw [A0 h2]
          simp only [cond_true]
          rw [A4 (show ¬ (C7 s).1.1<e by omega)]
          simp
        · rw [A4 h2]
          simp only [cond_true]
          rw [A0 (show (C7 s).1.1<e by omega),A0 (show t<e by omega)]
          simp
      · rw [A4 h1]
        simp only [cond_false]
        by_cases h3:t<e
        · rw [A0 h3,A4 (show ¬ (C7 s).1.1≥e by omega)]
          simp
        · rw [A4 h3]
          simp
theorem C5E(l:List ByteArray)(h:B1J l):A51 l=some (A3X l,()):=by
  have hl:=h.1
  simp only [A51,B1q]
  have key:=G2 (A4f A0F l) (fun i=>((l.take i).foldl A2r (-1),(i:Int),())) l.length (A3X l,()) (fun i hi=>?_) ?_
  · simpa using key
  · have g1:((i:Int)<(l.length:Int)):=by omega
    have g2:(0:Int)≤(i:Int):=by omega
    simp only [A4f,A0 g1,A0 g2,cond_true]
    rw [B2I _ (A7l h hi),w64 (by omega) (by omega)]
    simp only [A3]
    have e:(l.take (i+1)).foldl A2r (-1)=A2r ((l.take i).foldl A2r (-1)) (rd .str l (i:Int)):=by
      rw [List.take_succ_eq_append_getElem hi,List.foldl_append,A3T hi]
      rfl
    rw [e]
    unfold A2r
    cases (C7 (rd .str l (i:Int))).2.1<;>rfl
  · simp [A4f,A3X]
theorem C15(go:Nat→Bool)(n:Nat):decide (O5 go 0 n=n)=(List.range n).all go:=by
  rw [Bool.eq_iff_iff]
  simp only [decide_eq_true_eq,List.all_eq_true,List.mem_range]
  constructor
  · intro h j hj
    exact A7i go n 0 j (by omega) (by omega)
  · intro h
    exact A7j go n n (Nat.le_refl _) h (fun h=>by omega)
theorem C4B(st:A5)(h:B1J st.1.1)(n:Nat)(hn:n≤st.1.1.length):C0 (A0l J1 st) ((n:Int),())=some ((st.1.1.drop n).all fun s=>!A21 st.2.1 s,()):=by
  have hl:=h.1
  have key:=A1M (A0l J1 st) (fun j=>(((n+j:Nat):Int),())) (st.1.1.length-n) (fun j=>(decide (j=st.1.1.length-n),())) (fun j=>!A21 st.2.1 (rd .str st.1.1 ((n+j:Nat):Int))) (fun j hj=>?_) ?_
  · have e:C0 (A0l J1 st) ((n:Int),())=_:=key
    rw [e,C15]
    congr 2
    rw [Bool.eq_iff_iff]
    simp only [List.all_eq_true,List.mem_range]
    constructor
    · intro h2 s hs
      obtain ⟨j,hj,rfl⟩:=List.getElem_of_mem hs
      rw [List.length_drop] at hj
      have:=h2 j hj
      rw [A3T (by omega)] at this
      rw [List.getElem_drop]
      exact this
    · intro h2 j hj
      rw [A3T (by omega)]
      refine h2 _ ?_
      rw [List.mem_iff_getElem]
      exact ⟨j,by rw [List.length_drop];omega,by rw [List.getElem_drop]⟩
  · have g1:(((n+j:Nat):Int)<(st.1.1.length:Int)):=by omega
    have g2:(0:Int)≤((n+j:Nat):Int):=by omega
    simp only [A0l,A0 g1,A0 g2,cond_true]
    rw [A5B _ (A7l h (by omega)),w64 (by omega) (by omega)]
    simp only [A3,A21]
    rw [A4 (show ¬ j=st.1.1.length-n by omega)]
    have e2:n+(j+1)=(n+j)+1:=by omega
    simp only [e2,Int.natCast_succ]
    cases (C7 (rd .str st.1.1 ((n+j:Nat):Int))).2.1<;>cases decide ((C7 (rd .str st.1.1 ((n+j:Nat):Int))).1.1≥st.2.1)<;>rfl
  · have g1:¬ (((n+(st.1.1.length-n):Nat):Int)<(st.1.1.length:Int)):=by omega
    simp only [A0l,A4 g1,cond_false]
    simp
def C16(st:A5):Prop:=0≤st.2.1∧st.2.1≤10000∧st.1.1.length=st.1.2.length∧st.1.1.length≤200∧(0≤st.2.2.1∧st.2.2.1≤(st.1.1.length:Int))∧∃ us,Ups us∧A0b us st.2.2.2=true
theorem C17(st:A5)(h:B1J st.1.1):∃ b,D3 st=some (b,())∧A1B st=some (b,())∧(b=true→C16 st):=by
  have hl:=h.1
  obtain ⟨bd,hd,hdt⟩:=C6b st.1 hl
  obtain ⟨l,hs,hi,hll,hrg⟩:=D6G st.1 h
  have hfs:=A8B l (by simp only [maxLen];omega) hrg
  have hfi:=C31 l (by simp only [maxLen];omega) hrg
  have hups:(A20 l).2.1=true→Ups (A20 l).1:=by
    intro e
    unfold A20 at e ⊢
    split
    · rename_i us' e1
      exact A7k B9y hrg e1
    · rename_i e1
      rw [e1] at e;cases e
  simp only [D3,A7S,A1B,B1r,D2P,hd,hs,hi,hfs,hfi,A19,A7N,T2,A0U,A3]
  cases bd with
  | false=>
    by_cases he:0≤st.2.1∧st.2.1≤10000
    · rw [A0 he]
      exact ⟨_,rfl,rfl,fun e=>by cases e⟩
    · rw [A4 he]
      exact ⟨_,rfl,rfl,fun e=>by cases e⟩
  | true=>
    cases he':decide (0≤st.2.1∧st.2.1≤10000) with
    | false=>exact ⟨_,rfl,rfl,fun e=>by cases e⟩
    | true=>
      have he:=of_decide_eq_true he'
      have hd2:=hdt rfl
      simp only [Bool.not_true,cond_false,B9]
      generalize hf:A20 l=fr at hups
      cases hk:fr.2.1 with
      | false=>exact ⟨_,rfl,rfl,fun e=>by cases e⟩
      | true=>
        have hu:=hups hk
        have hul:=hu.2.1
        rw [C4A _ _ (show fr.1.length≤maxLen by simp only [maxLen];omega),D2Q _ _ (show fr.1.length≤maxLen by simp only [maxLen];omega)]
        simp only [Bool.not_true,cond_false]
        cases hn':decide (st.2.2.1=(List.length l:Int)) with
        | false=>
          cases A0b fr.1 st.2.2.2<;>exact ⟨_,rfl,rfl,fun e=>by cases e⟩
        | true=>
          have hn:=of_decide_eq_true hn'
          cases hsm:A0b fr.1 st.2.2.2 with
          | false=>exact ⟨_,rfl,rfl,fun e=>by cases e⟩
          | true=>
            have hg:C16 st:=⟨he.1,he.2,hd2.1,hd2.2,by omega,fr.1,hu,hsm⟩
            simp only [Bool.not_true,cond_false]
            rw [hn,C4B st h l.length hll,A0 (show (0:Int)≤(List.length l:Int) by omega),A0 (show (List.length l:Int)≤(st.1.1.length:Int) by omega),Int.toNat_natCast,List.take_length]
            simp only [cond_true]
            have hdr:B1J (st.1.1.drop l.length):=⟨by rw [List.length_drop];omega,fun s hs=>h.2 s (List.mem_of_mem_drop hs)⟩
            rw [C5E _ hdr]
            have htop:decide (st.2.1>A3X (st.1.1.drop l.length))=((st.1.1.drop l.length).all fun s=>!A21 st.2.1 s):=by
              have:=B3E st.2.1 (st.1.1.drop l.length) (-1)
              rw [A0 (show (-1:Int)<st.2.1 by omega),Bool.true_and] at this
              exact this
            simp only [htop]
            by_cases hl0:(List.length l:Int)>0
            · rw [A0 hl0,w64 (n:=(List.length l:Int)-1) (by omega) (by omega),A0 (show (0:Int)≤(List.length l:Int)-1 by omega),A0 (show (List.length l:Int)-1<(List.length l:Int) by omega)]
              simp only [cond_true]
              have hlt:decide (st.2.1<(rd A5w l ((List.length l:Int)-1)).1)=decide ((rd A5w l ((List.length l:Int)-1)).1>st.2.1):=rfl
              rw [hlt]
              cases decide ((rd A5w l ((List.length l:Int)-1)).1>st.2.1) with
              | true=>exact ⟨_,rfl,rfl,fun e=>by cases e⟩
              | false=>exact ⟨_,rfl,rfl,fun _=>hg⟩
            · rw [A4 hl0]
              exact ⟨_,rfl,rfl,fun _=>hg⟩
theorem C6d(x:D4):B1s A0E x=M3 R1 x:=by
  have e:A0E=R1:=by funext r;rw [B85,A7f]
  rw [e]
  rfl
theorem D6H(x:D4)(h:x.2.length≤1048576):∃ z,C0 (M3 R1 x) (0,())=some z∧(z=.inl ()∨z=.inr (false,())):=by
  have key:=A1M (M3 R1 x) (fun i=>((i:Int),())) x.2.length (fun i=>if i<x.2.length then .inr (false,()) else .inl ()) (fun i=>A0y (rd B0 x.2 (i:Int)).2) (fun i hi=>?_) ?_
  · refine ⟨_,key,?_⟩
    split
    · exact .inr rfl
    · exact .inl rfl
  · have g1:((i:Int)<(x.2.length:Int)):=by omega
    have g2:(0:Int)≤(i:Int):=by omega
    simp only [M3,A0 g1,A0 g2,cond_true,A7f,A3,if_pos hi]
    rw [w64 (by omega) (by omega)]
    cases A0y (rd B0 x.2 (i:Int)).2<;>rfl
  · simp [M3]
theorem B88(x:D4)(h:B1J x.1.1.1)(h2:x.2.length≤1048576):∃ b,J3 x=some (b,())∧A1Y x=some (b,())∧(b=true→D3 x.1=some (true,())∧C16 x.1∧x.2.length≤200):=by
  obtain ⟨z,hz,hz2⟩:=D6H x h2
  obtain ⟨b,hs,hi,hg⟩:=C17 x.1 h
  simp only [J3,A61,A1Y,A9q,C6d,hz,hs,hi]
  rcases hz2 with rfl | rfl
  · by_cases hl:(x.2.length:Int)≤200
    · rw [A0 hl]
      exact ⟨b,rfl,rfl,fun e=>⟨by rw [e],hg e,by omega⟩⟩
    · rw [A4 hl]
      exact ⟨_,rfl,rfl,fun e=>by cases e⟩
  · exact ⟨_,rfl,rfl,fun e=>by cases e⟩
theorem D6I{N:Nat}{e:Nat}{l:List ByteArray}(hN:N≤1048576)(h:Sm N (.sl e .str) l):B1J l:=⟨by have:l.length≤N:=h.1;omega,fun s hs=>by have:s.size≤N:=h.2 s hs;omega⟩
theorem D7L{k:K}{b:List k.T}{i:Nat}(h:i<b.length)(u:k.T):rd k (b.set i u) (i:Int)=u:=by
  rw [E3 (xs:=b.set i u) (by simpa using h)]
  simp
def B2L(d:I8):Prop:=B1J d.1∧B1J d.2
def A5T(s:A5):Prop:=B2L s.1∧List.length s.2.2.2≤1048576∧∀ u∈s.2.2.2,List.length u.2.2.1≤2000000000
def D4f(s:D4):Prop:=A5T s.1∧List.length s.2≤1048576
theorem A8C(d:I8)(h:B2L d):U8 d=some (d,()):=by
  have h1:=h.1.1
  have h2:=h.2.1
  simp only [U8,B1z]
  rw [A0 (by simp;omega),A0 (by simp;omega),A0 (by simp;omega),A0 (by simp;omega)]
  simp
theorem V6(s:A5)(h:A5T s):H7 s=some (s,()):=by
  simp only [H7,A7W,A8C _ h.1,B4r _ h.2.1 h.2.2,A3]
theorem A5U(s:D4)(h:D4f s):Q0 s=some (s,()):=by
  have h2:=h.2
  simp only [Q0,A7b,V6 _ h.1,A3]
  rw [A0 (by simp;omega),A0 (by simp;omega)]
  simp
theorem B4s(d:I8)(h:B2L d):Y2 d=some ((d.1,d.1),()):=by
  have h1:=h.1.1
  simp only [Y2,A86]
  rw [A0 (by simp;omega),A0 (by simp;omega)]
  simp
theorem C32(d:I8)(h:B1J d.1):A3N d=some (A3X d.1,()):=by
  have hl:=h.1
  simp only [A3N,B05]
  have key:=G2 (A3M J1 d) (fun i=>((d.1.take i).foldl A2r (-1),(i:Int),())) d.1.length (A3X d.1,()) (fun i hi=>?_) ?_
  · simpa using key
  · have g1:((i:Int)<(d.1.length:Int)):=by omega
    have g2:(0:Int)≤(i:Int):=by omega
    simp only [A3M,A0 g1,A0 g2,cond_true]
    rw [A5B _ (A7l h hi),w64 (by omega) (by omega)]
    simp only [A3]
    have e:(d.1.take (i+1)).foldl A2r (-1)=A2r ((d.1.take i).foldl A2r (-1)) (rd .str d.1 (i:Int)):=by
      rw [List.take_succ_eq_append_getElem hi,List.foldl_append,A3T hi]
      rfl
    rw [e]
    generalize (d.1.take i).foldl A2r (-1)=t
    unfold A2r
    cases (C7 (rd .str d.1 (i:Int))).2.1
    · rfl
    · cases decide ((C7 (rd .str d.1 (i:Int))).1.1>t)<;>rfl
  · simp [A3M,A3X]
theorem C5F(s:ByteArray):(C7 s).1.1≤10000:=by
  unfold C7
  split
  · rename_i h
    simp only [A7h,Bool.and_eq_true] at h
    exact (A0r h.1.2).2.1
  · simp [D1N]
theorem D1P(l:List ByteArray):-1≤A3X l∧A3X l≤10000:=by
  unfold A3X
  have:∀ (l:List ByteArray) (t:Int),-1≤t∧t≤10000→-1≤l.foldl A2r t∧l.foldl A2r t≤10000:=by
    intro l
    induction l with
    | nil=>exact fun t h=>h
    | cons s l ih=>
      intro t h
      refine ih _ ?_
      have h2:=C5F s
      unfold A2r
      cases (C7 s).2.1 with
      | false=>exact h
      | true=>
        by_cases h3:(C7 s).1.1>t
        · rw [A0 h3];simp only [cond_true];omega
        · rw [A4 h3];exact h
  exact this l (-1) (by omega)
theorem C6e{l:List ByteArray}(h:B1J l)(i:Nat){s:ByteArray}(hs:s.size≤1048576):B1J (l.set i s):=⟨by rw [List.length_set];exact h.1,fun x hx=>(List.mem_or_eq_of_mem_set hx).elim (h.2 x) (fun e=>by rw [e];exact hs)⟩
def B0J(op:Int):Int:=if op=1 then 1000000000 else if op=3 then 1000000000 else if op=4 then 4294967295 else 0
def A0v(r:A16):Bool:=decide (1≤r.1∧r.1≤6)&&idB r.2.1&&decide (0≤r.2.2∧r.2.2≤B0J r.1)
theorem C18(r:A16)(h:r.2.1.size≤maxLen):A2m r=some (A0v r,()):=by
  simp only [A2m,B6z,T2,A6r _ h,A3,A0v,U7,A52,B0J]
  cases decide (1≤r.1∧r.1≤6)
  · rfl
  cases idB r.2.1
  · rfl
  simp only [Bool.not_true,cond_false,B9,Bool.true_and]
  have hz:decide (0≤r.2.2∧r.2.2≤0)=decide (r.2.2=0):=by
    by_cases h0:r.2.2=0
    · rw [A0 h0,A0 (by omega)]
    · rw [A4 h0,A4 (by omega)]
  by_cases h1:r.1=1
  · simp [h1]
  by_cases h3:r.1=3
  · simp [h3]
  by_cases h4:r.1=4
  · simp [h4]
  simp [h1,h3,h4]
  rw [Bool.eq_iff_iff]
  simp
  omega
theorem C9C(r:A16)(h:r.2.1.size≤maxLen):A6G r=some (A0v r,()):=by
  simp only [A6G,B6v,A0U,C54 _ h,A3,A0v,A2G,A5P,B0J]
  by_cases h1:r.1=1
  · simp [h1];cases idB r.2.1<;>simp
  by_cases h3:r.1=3
  · simp [h3];cases idB r.2.1<;>simp
  by_cases h4:r.1=4
  · simp [h4];cases idB r.2.1<;>simp
  simp only [A4 h1,A4 h3,A4 h4,if_neg h1,if_neg h3,if_neg h4,cond_false]
  cases decide (1≤r.1∧r.1≤6)<;>cases idB r.2.1<;>simp
def C6f(n:Nat)(h:D5):Bool:=A0y h.2&&decide (0≤h.1∧h.1≤(n:Int)-1)
def A3Y(n:Nat)(l:List D5):Bool:=(List.range l.length).all fun i=>C6f n (rd B0 l (i:Int))
theorem C6g(w:A7)(l:List D5)(h:l.length≤maxLen)(hc:w.2.1.length≤1048576):A6j w l=some (A3Y w.2.1.length l,()):=by
  simp only [A6j,B4g,A3Y]
  refine A6q _ l.length h (fun i=>C6f w.2.1.length (rd B0 l (i:Int))) (fun i hi=>?_) (by simp [A9z])
  have g1:((i:Int)<(l.length:Int)):=by omega
  have g2:(0:Int)≤(i:Int):=by omega
  simp only [A9z,A0 g1,A0 g2,cond_true,T2,A7f,A3,C6f]
  rw [w64 (n:=(w.2.1.length:Int)-1) (by omega) (by omega)]
  cases decide (0≤(rd B0 l (i:Int)).1∧(rd B0 l (i:Int)).1≤(w.2.1.length:Int)-1)<;>cases A0y (rd B0 l (i:Int)).2<;>rfl
theorem C6h(w:A7)(l:List D5)(h:l.length≤maxLen)(hc:w.2.1.length≤1048576):A6f w l=some (A3Y w.2.1.length l,()):=by
  simp only [A6f,B4a,A3Y]
  refine A6q _ l.length h (fun i=>C6f w.2.1.length (rd B0 l (i:Int))) (fun i hi=>?_) (by simp [A9s])
  have g1:((i:Int)<(l.length:Int)):=by omega
  have g2:(0:Int)≤(i:Int):=by omega
  simp only [A9s,A0 g1,A0 g2,cond_true,A0U,B85,A3,C6f]
  rw [w64 (n:=(w.2.1.length:Int)-1) (by omega) (by omega)]
  cases decide (0≤(rd B0 l (i:Int)).1∧(rd B0 l (i:Int)).1≤(w.2.1.length:Int)-1)<;>cases A0y (rd B0 l (i:Int)).2<;>rfl
def D4g(w:A7):Prop:=w.2.1.length≤1048576∧∀ c∈w.2.1,c.1.size≤maxLen
theorem C6i(w:A7)(h:D4g w)(i:Nat)(hi:i<w.2.1.length):∃ z,C0 (V2 ((i:Int),()) w) (0,())=some z∧(z=.inl ((i:Int)+1,())∨z=.inr (.inr (false,()))):=by
  have hl:=h.1
  refine R4 (V2 ((i:Int),()) w) (fun l=>((i:Int)-l.1).toNat) (fun l=>0≤l.1) (fun z=>z=.inl ((i:Int)+1,())∨z=.inr (.inr (false,()))) (fun l h0=>?_) (0,()) (by simp)
  simp only [V2]
  by_cases hj:l.1<(i:Int)
  · rw [A0 hj,A0 h0,A0 (show l.1<(w.2.1.length:Int) by omega),A0 (show (0:Int)≤(i:Int) by omega),A0 (show (i:Int)<(w.2.1.length:Int) by omega)]
    simp only [cond_true]
    rw [w64 (n:=l.1+1) (by omega) (by omega)]
    cases ((rd A9 w.2.1 l.1).1.toList == (rd A9 w.2.1 (i:Int)).1.toList)
    · exact .inl ⟨_,rfl,by simp only;omega,by simp only;omega⟩
    · exact .inr ⟨_,rfl,.inr rfl⟩
  · rw [A4 hj,w64 (n:=(i:Int)+1) (by omega) (by omega)]
    exact .inr ⟨_,rfl,.inl rfl⟩
theorem C6j(w:A7)(h:D4g w)(i:Nat)(hi:i<w.2.1.length):C0 (A2D w ((i:Int),())) (0,())=C0 (V2 ((i:Int),()) w) (0,()):=by
  have hl:=h.1
  have hlen:((w.2.1.take i).drop 0).length=i:=by simp;omega
  refine B2B (fun l=>0≤l.1) (fun l h0=>?_) (fun l y h0 e=>?_) (by simp)
  · simp only [A2D,V2,Int.toNat_natCast,hlen]
    by_cases hj:l.1<(i:Int)
    · obtain ⟨j,hn⟩:∃ j:Nat,l.1=(j:Int):=⟨l.1.toNat,by omega⟩
      rw [hn] at hj h0 ⊢
      rw [A0 hj,A0 h0,A0 (show (j:Int)<(w.2.1.length:Int) by omega),A0 (show (0:Int)≤(i:Int) by omega),A0 (show (i:Int)<(w.2.1.length:Int) by omega)]
      simp only [cond_true]
      have e:rd A9 ((w.2.1.take i).drop 0) (j:Int)=rd A9 w.2.1 (j:Int):=by
        rw [E3 (k:=A9) (xs:=(w.2.1.take i).drop 0) (by rw [hlen];omega),E3 (k:=A9) (xs:=w.2.1) (by omega)]
        simp
      rw [e]
    · rw [A4 hj]
      rfl
  · simp only [A2D,Int.toNat_natCast,hlen] at e
    by_cases hj:l.1<(i:Int)
    · rw [A0 hj,A0 h0] at e
      simp only [cond_true] at e
      rw [w64 (n:=l.1+1) (by omega) (by omega)] at e
      revert e
      cases ((rd A9 ((w.2.1.take i).drop 0) l.1).1.toList == (rd A9 w.2.1 (i:Int)).1.toList)
      · intro e
        simp only [cond_false] at e
        injection e with e;injection e with e;subst e
        simp only;omega
      · intro e
        simp only [cond_true] at e
        injection e with e;cases e
    · rw [A4 hj] at e
      simp only [cond_false] at e
      injection e with e;cases e
theorem B5p(w:A7)(h:D4g w)(l:Int×Unit)(h0:0≤l.1) :
    A2E A0G w l=N6 G1 w l∧((∃ y,N6 G1 w l=some (.inl y)∧y.1=l.1+1∧l.1<(w.2.1.length:Int))∨N6 G1 w l=some (.inr (.inl ()))∨N6 G1 w l=some (.inr (.inr (false,())))):=by
  have hl:=h.1
  simp only [A2E,N6]
  by_cases hi:l.1<(w.2.1.length:Int)
  · obtain ⟨i,hn⟩:∃ i:Nat,l.1=(i:Int):=⟨l.1.toNat,by omega⟩
    obtain ⟨l1,u⟩:=l
    simp only at hn hi h0
    subst hn
    have hi':i<w.2.1.length:=by omega
    have hsz:(rd A9 w.2.1 (i:Int)).1.size≤maxLen:=by
      rw [E3 (k:=A9) (xs:=w.2.1) hi']
      exact h.2 _ (List.getElem_mem hi')
    simp only
    rw [A0 hi,A0 h0,C2z _ hsz,A4p _ hsz,A0 (show (i:Int)≤(w.2.1.length:Int) by omega),C6j w h i hi']
    simp only [cond_true,A3]
    cases I6 (rd A9 w.2.1 (i:Int)) with
    | false=>exact ⟨trivial,.inr (.inr rfl)⟩
    | true=>
      obtain ⟨z,e,hz⟩:=C6i w h i hi'
      simp only [Bool.not_true,cond_false]
      refine ⟨trivial,?_⟩
      rw [e]
      rcases hz with rfl | rfl
      · exact .inl ⟨_,rfl,rfl,hi⟩
      · exact .inr (.inr rfl)
  · rw [A4 hi]
    exact ⟨rfl,.inr (.inl rfl)⟩
theorem C9D(w:A7)(h:D4g w):∃ b,A1F w=some (b,())∧A1r w=some (b,())∧(b=true→w.2.1.length≤6∧w.2.2.1.length=w.2.1.length∧w.2.2.2.2.2.length=w.2.1.length):=by
  have hl:=h.1
  have e1:C0 (A2E A0G w) (0,())=C0 (N6 G1 w) (0,()):=by
    refine B2B (fun l=>0≤l.1) (fun l h0=>(B5p w h l h0).1) (fun l y h0 e=>?_) (by simp)
    rw [(B5p w h l h0).1] at e
    rcases (B5p w h l h0).2 with ⟨y',e2,e3,_⟩ | e2 | e2
    · rw [e2] at e;injection e with e;injection e with e;subst e;omega
    · rw [e2] at e;injection e with e;cases e
    · rw [e2] at e;injection e with e;cases e
  obtain ⟨z,e2,hz⟩:=R4 (N6 G1 w) (fun l=>((w.2.1.length:Int)-l.1).toNat) (fun l=>0≤l.1) (fun z=>z=.inl ()∨z=.inr (false,())) (fun l h0=>by
    rcases (B5p w h l h0).2 with ⟨y',e2,e3,e4⟩ | e2 | e2
    · exact .inl ⟨y',e2,by omega,by omega⟩
    · exact .inr ⟨_,e2,.inl rfl⟩
    · exact .inr ⟨_,e2,.inr rfl⟩) (0,()) (by simp)
  simp only [A1F,A6i,A1r,A84,e1,e2]
  rcases hz with rfl | rfl
  · simp only [B9]
    by_cases h1:(w.2.1.length:Int)≤6
    · rw [A0 h1]
      by_cases h2:(w.2.2.1.length:Int)=(w.2.1.length:Int)
      · rw [A0 h2]
        refine ⟨_,rfl,rfl,fun e=>?_⟩
        have e3:=of_decide_eq_true e
        omega
      · rw [A4 h2]
        exact ⟨_,rfl,rfl,fun e=>by cases e⟩
    · rw [A4 h1]
      exact ⟨_,rfl,rfl,fun e=>by cases e⟩
  · exact ⟨_,rfl,rfl,fun e=>by cases e⟩
def C6k(n:Nat)(a:V4):Bool:=A0v a.2.1&&decide (0≤a.1∧a.1≤(n:Int)-1)
def D7M(w:A7):Prop:=B1J w.1.1.1.1∧w.1.2.length≤1048576∧D4g w∧(w.2.2.2.1.length≤1048576∧∀ a∈w.2.2.2.1,a.2.1.2.1.size≤maxLen)∧w.2.2.2.2.1.length≤1048576
theorem C19(w:A7)(h:D7M w):∃ b,X4 w=some (b,())∧A05 w=some (b,()):=by
  obtain ⟨h1,h2,h3,⟨h4,h4'⟩,h5⟩:=h
  have hc:=h3.1
  obtain ⟨bs,es,ei,_⟩:=B88 w.1 h1 h2
  obtain ⟨bc,cs,ci,_⟩:=C9D w h3
  have ht:=C6g w w.2.2.2.2.1 (by simp only [maxLen];omega) hc
  have ht':=C6h w w.2.2.2.2.1 (by simp only [maxLen];omega) hc
  have hh:=C6g w w.1.2 (by simp only [maxLen];omega) hc
  have hh':=C6h w w.1.2 (by simp only [maxLen];omega) hc
  have hloop:=A6q (A4i A2m D8 w) w.2.2.2.1.length (by simp only [maxLen];omega) (fun i=>C6k w.2.1.length (rd H0 w.2.2.2.1 (i:Int))) (fun i hi=>by
    have g1:((i:Int)<(w.2.2.2.1.length:Int)):=by omega
    have g2:(0:Int)≤(i:Int):=by omega
    have hsz:(rd H0 w.2.2.2.1 (i:Int)).2.1.2.1.size≤maxLen:=by
      rw [E3 (k:=H0) (xs:=w.2.2.2.1) hi]
      exact h4' _ (List.getElem_mem hi)
    simp only [A4i,A0 g1,A0 g2,cond_true,T2,C18 _ hsz,A3,C6k]
    rw [w64 (n:=(w.2.1.length:Int)-1) (by omega) (by omega)]
    cases decide (0≤(rd H0 w.2.2.2.1 (i:Int)).1∧(rd H0 w.2.2.2.1 (i:Int)).1≤(w.2.1.length:Int)-1)<;>cases A0v (rd H0 w.2.2.2.1 (i:Int)).2.1<;>rfl) (by simp [A4i])
  have istep:∀ i:Nat,i<w.2.2.2.1.length→A4h A6G F0 w ((i:Int),())=bif C6k w.2.1.length (rd H0 w.2.2.2.1 (i:Int)) then some (.inl (((i+1:Nat):Int),())) else some (.inr (.inr (false,()))):=fun i hi=>by
    have g1:((i:Int)<(w.2.2.2.1.length:Int)):=by omega
    have g2:(0:Int)≤(i:Int):=by omega
    have hsz:(rd H0 w.2.2.2.1 (i:Int)).2.1.2.1.size≤maxLen:=by
      rw [E3 (k:=H0) (xs:=w.2.2.2.1) hi]
      exact h4' _ (List.getElem_mem hi)
    have e1:((i+1:Nat):Int)=(i:Int)+1:=by omega
    simp only [A4h,A0 g1,A0 g2,cond_true,A0U,C9C _ hsz,A3,C6k,e1]
    rw [w64 (n:=(w.2.1.length:Int)-1) (by omega) (by omega),w64 (n:=(i:Int)+1) (by omega) (by omega)]
    cases decide (0≤(rd H0 w.2.2.2.1 (i:Int)).1∧(rd H0 w.2.2.2.1 (i:Int)).1≤(w.2.1.length:Int)-1)<;>cases A0v (rd H0 w.2.2.2.1 (i:Int)).2.1<;>rfl
  simp only [X4,B1u,A05,B1t,es,ei,cs,ci,ht,ht',hh,hh',hloop,A3]
  have hirest:(bif A3Y w.2.1.length w.2.2.2.2.1 then bif A3Y w.2.1.length w.1.2 then some (bs,()) else some (false,()) else some (false,()))=some (A3Y w.2.1.length w.2.2.2.2.1&&A3Y w.2.1.length w.1.2&&bs,()):=by
    cases A3Y w.2.1.length w.2.2.2.2.1<;>cases A3Y w.2.1.length w.1.2<;>rfl
  have hi:=D6D istep (by simp [A4h]) (fun _=>(bif A3Y w.2.1.length w.2.2.2.2.1 then bif A3Y w.2.1.length w.1.2 then some (bs,()) else some (false,()) else some (false,()))) _ hirest
  rw [C15] at hi
  generalize ((List.range w.2.2.2.1.length).all fun i=>C6k w.2.1.length (rd H0 w.2.2.2.1 (i:Int)))=ba at hi ⊢
  cases bc with
  | false=>
    cases bs<;>exact ⟨_,rfl,rfl⟩
  | true=>
    simp only [Bool.not_true,cond_false]
    cases decide ((w.2.2.2.1.length:Int)>60) with
    | true=>cases bs<;>exact ⟨_,rfl,rfl⟩
    | false=>
      cases decide ((w.2.2.2.2.1.length:Int)>60) with
      | true=>cases bs<;>exact ⟨_,rfl,rfl⟩
      | false=>
        simp only [cond_false]
        have e0:∀ g:Unit→Option (Bool×Unit),B9 (some (.inl ():Unit⊕(Bool×Unit))) g=g ():=fun g=>rfl
        simp only [e0]
        refine ⟨_,?_,hi⟩
        cases bs<;>cases A3Y w.2.1.length w.2.2.2.2.1<;>cases A3Y w.2.1.length w.1.2<;>simp [B9]
theorem D2R{a b:List Int}(ha:Byt a)(hb:Byt b)(h:(strOf a).toList=(strOf b).toList):a=b:=by
  rw [ByteArray.toList_eq,ByteArray.toList_eq] at h
  have h2:(a.map fun n=>UInt8.ofNat n.toNat)=b.map fun n=>UInt8.ofNat n.toNat:=h
  have hl:a.length=b.length:=by simpa using congrArg List.length h2
  refine List.ext_getElem hl fun i h1 h3=>?_
  have h4:=congrArg (fun l=>l[i]?) h2
  simp only [List.getElem?_map,List.getElem?_eq_getElem h1,List.getElem?_eq_getElem h3,Option.map_some,Option.some.injEq] at h4
  exact D4X (ha _ (List.getElem_mem h1)) (hb _ (List.getElem_mem h3)) h4
theorem C5G{a b:ByteArray}(h:a.toList=b.toList):a=b:=by
  rw [ByteArray.toList_eq,ByteArray.toList_eq] at h
  obtain ⟨⟨a⟩⟩:=a
  obtain ⟨⟨b⟩⟩:=b
  have h:a=b:=h
  rw [h]
theorem D2S{a b:TUp}(ha:Byt a.2.2.1)(hb:Byt b.2.2.1)(h:A4q a b=true):a=b:=by
  simp only [A4q,Bool.and_eq_true,beq_iff_eq,decide_eq_true_eq] at h
  obtain ⟨⟨⟨h1,h2⟩,h3⟩,h4⟩:=h
  obtain ⟨a1,a2,a3,a4⟩:=a
  obtain ⟨b1,b2,b3,b4⟩:=b
  simp only at h1 h2 h3 h4 ha hb
  rw [C5G h1,h2,h3,D2R ha hb h4]
theorem C9E{a b:List TUp}(ha:∀ u∈a,Byt u.2.2.1)(hb:∀ u∈b,Byt u.2.2.1)(h:A0b a b=true):a=b:=by
  simp only [A0b,Bool.and_eq_true,decide_eq_true_eq,List.all_eq_true,List.mem_range] at h
  refine List.ext_getElem h.1 fun i h1 h3=>?_
  have h4:=h.2 i h1
  rw [E3 (k:=kUp) (xs:=a) h1,E3 (k:=kUp) (xs:=b) h3] at h4
  exact D2S (ha _ (List.getElem_mem h1)) (hb _ (List.getElem_mem h3)) h4
def wrote(st:A5)(r:F7)(us:List TUp):A5:=((st.1.1.set st.2.2.1.toNat (U6 r),st.1.2),st.2.1,st.2.2.1+1,us)
theorem B0K(st:A5)(a b kind:Int)(id:ByteArray)(n:Int)(data:List Int)(hU:Ups st.2.2.2)(hr:R5 (st.2.1,st.2.2.1,kind,id,n,data)=true)(hb:Byt data)(h0:0≤st.2.2.1)(h1:st.2.2.1<(st.1.1.length:Int))(hl:st.1.1.length≤1048576)
    (us:List TUp) (hf:J6 st.2.2.2 (st.2.1,st.2.2.1,kind,id,n,data)=some us):D9 st (a,b,kind,id,n,data)=some (wrote st (st.2.1,st.2.2.1,kind,id,n,data) us,()):=by
  have hbd:=A0r hr
  simp only at hbd
  simp only [D9,A2U]
  rw [B86 (st.2.1,st.2.2.1,kind,id,n,data) (by simp only;omega) (by simp only;omega) hb,A0 h0,A0 h1]
  simp only [A3,cond_true]
  obtain ⟨x,hx,hx2⟩:=C6a st.2.2.2 (st.2.1,st.2.2.1,kind,id,n,data) hU (by simp only;omega)
  have hI:B3l st.2.2.2 (st.2.1,st.2.2.1,kind,id,n,data)=(us,true,()):=by unfold B3l;rw [hf]
  rw [hI] at hx hx2
  rw [hx,hx2 rfl,w64 (by omega) (by omega)]
  rfl
theorem C6l{r:F7}(h:R5 r=true):(U6 r).size≤1000:=by
  have hb:=A0r h
  unfold U6
  rw [B0G,List.length_append,B2H,J5]
  omega
theorem C9F{st:A5}(h:B2L st.1){r:F7}(hr:R5 r=true)(us:List TUp):B2L (wrote st r us).1:=⟨C6e h.1 _ (by have:=C6l hr;omega),h.2⟩
theorem B3F(us:List TUp)(id:ByteArray)(h:Ups us):P5 us id=some (if H5 us id=true then (B2 us id:Int) else -1,()):=by
  have hl:=h.2.1
  rw [C0z us id (by simp only [maxLen];omega)]
  cases hh:H5 us id with
  | true=>
    obtain ⟨hlt,_⟩:=H3.1 hh
    rw [C13 h.1 hh,if_pos hlt,if_pos rfl]
  | false=>rw [C14 h.1 hh,if_neg (Nat.lt_irrefl _),if_neg (by simp)]
theorem C1A{id:ByteArray}(h:idB id=true):id.size≤8:=by
  simp only [idB,Bool.and_eq_true,decide_eq_true_eq] at h
  omega
theorem B3G(st:A5)(h0:0≤st.2.2.1)(h1:st.2.2.1≤(st.1.1.length:Int))(hl:st.1.1.length≤1048576):S3 st=some ((st.1.1.length:Int)-st.2.2.1,()):=by
  simp only [S3,B20]
  rw [w64 (by omega) (by omega)]
def D0(n:Int):I8:=if 0≤n∧n≤200 then (List.replicate n.toNat ⟨#[]⟩,List.replicate n.toNat ⟨#[]⟩) else ([],[])
theorem C6m(n:Int):List.length (D0 n).1≤200∧List.length (D0 n).2≤200:=by
  unfold D0
  split
  · simp;omega
  · simp
theorem B5q(n:Int):A57 n=some (D0 n,()):=by
  simp only [A57,B26,D0]
  by_cases h:0≤n∧n≤200
  · rw [if_pos h]
    have key:=G2 (A1x n) (fun i=>((i:Int),List.replicate i ⟨#[]⟩,List.replicate i ⟨#[]⟩,())) n.toNat ((List.replicate n.toNat ⟨#[]⟩,List.replicate n.toNat ⟨#[]⟩),()) (fun i hi=>?_) ?_
    · exact key
    · have h1:(i:Int)<n:=by omega
      simp only [A1x,A0 h1,A0 h.2,cond_true,B9]
      rw [A0 (by simp;omega),A0 (by simp;omega)]
      simp only [cond_true]
      rw [w64 (by omega) (by omega),List.replicate_succ']
      rfl
    · have h1:¬ ((n.toNat:Int)<n):=by omega
      simp only [A1x,A4 h1,cond_false,B9]
  · rw [if_neg h]
    refine D2L ?_
    simp only [A1x]
    by_cases h1:(0:Int)<n
    · rw [A0 h1,A4 (show ¬ n≤200 by omega)];rfl
    · rw [A4 h1];rfl
def L9(n:Int):D4:=((D0 n,0,0,[]),[])
theorem B2M(n:Int):L5 n=some (L9 n,()):=by
  simp only [L5,A1k,A0M,A64,B5q,A3,L9]
theorem bO{α β:Type}(x:α)(f:α→Option β):A3 (some x) f=f x:=rfl
theorem A4U(c:B5)(n:Int)(h:Cur c)(hn:0<n∧n<9223372036854775808):∃ b c',L4 c n=some (b,c',())∧Cur c':=by
  obtain ⟨r,c',e,hc,_⟩:=F6 c n h hn
  simp only [L4,B4i,e,A3]
  exact ⟨_,_,rfl,hc⟩
theorem C1B(c:B5)(h:Cur c):∃ k c',O2 c=some (k,c',())∧Cur c':=by
  obtain ⟨n,c1,q1,h1,n0,n1⟩:=F6 c 8 h (by omega)
  simp only [O2,A4Q,q1,A3]
  obtain ⟨z,e,hz⟩:=R4 (A2Y L4) (fun l=>l.1.toNat) (fun l=>l.1≤8∧Cur (l.2.1,(l.2.2.1,l.2.2.2.1))∧(List.length l.2.2.2.2.1:Int)+l.1≤8) (fun z=>Cur z.2.1) (fun l hl=>by
    obtain ⟨g0,g1,g2⟩:=hl
    simp only [A2Y]
    by_cases hi:l.1>0
    · obtain ⟨b,c3,q3,h3⟩:=A4U (l.2.1,(l.2.2.1,l.2.2.2.1)) 2 g1 (by omega)
      rw [A0 hi]
      simp only [cond_true,q3,A3]
      rw [A0 (by simp;omega),A0 (by simp;omega),w64 (by omega) (by omega)]
      exact .inl ⟨_,rfl,⟨by simp only;omega,h3,by simp;omega⟩,by simp only;omega⟩
    · rw [A4 hi]
      exact .inr ⟨_,rfl,g1⟩) (n,c1.1,c1.2.1,c1.2.2,[],()) ⟨by simp only;omega,h1,by simp;omega⟩
  exact ⟨z.1,z.2.1,e,hz⟩
theorem D2T{us:List TUp}{id:ByteArray}(hh:H5 us id=true)(u:TUp)(hu:u.1=(rd kUp us (B2 us id:Int)).1):H5 (us.set (B2 us id) u) id=true∧B2 (us.set (B2 us id) u) id=B2 us id∧rd kUp (us.set (B2 us id) u) (B2 us id:Int)=u:=by
  obtain ⟨hlt,hid⟩:=H3.1 hh
  rw [E3 (k:=kUp) (xs:=us) hlt] at hu
  have hk:∀ q (hq:q<us.length),((us.set (B2 us id) u)[q]'(by simpa using hq)).1=us[q].1:=fun q hq=>by
    rw [List.getElem_set]
    split
    · rename_i e;subst e;exact hu
    · rfl
  have hrd:rd kUp (us.set (B2 us id) u) (B2 us id:Int)=u:=D7L (k:=kUp) hlt u
  have e1:B2 (us.set (B2 us id) u) id=B2 us id:=by
    refine A7j _ (us.set (B2 us id) u).length _ (by simp;omega) (fun j hj=>?_) (fun _=>?_)
    · rw [E3 (k:=kUp) (xs:=us.set (B2 us id) u) (by simp;omega),hk j (by omega)]
      exact B2J hj
    · rw [hrd,hu]
      exact B5n hlt
  refine ⟨?_,e1,hrd⟩
  unfold H5
  rw [e1,hrd,hu,hid]
  simp
  omega
theorem D4h(st:A5)(id:ByteArray)(hU:Ups st.2.2.2):∃ u b,I1 st id=some (u,b,())∧(List.length u.2.2.1:Int)≤u.2.1∧u.2.1≤1000000000∧Byt u.2.2.1:=by
  simp only [I1,B1v]
  rw [B3F st.2.2.2 id hU]
  cases hh:H5 st.2.2.2 id with
  | false=>
    simp only [Bool.false_eq_true,if_false,bO]
    rw [A0 (show (-1:Int)<0 by omega)]
    exact ⟨_,_,rfl,by simp,by simp,T3⟩
  | true=>
    obtain ⟨hlt,hid2⟩:=H3.1 hh
    have hrd:rd kUp st.2.2.2 (B2 st.2.2.2 id:Int)=st.2.2.2[B2 st.2.2.2 id]:=E3 (k:=kUp) (xs:=st.2.2.2) hlt
    have hu:=hU.2.2 _ (List.getElem_mem hlt)
    rw [← hrd] at hu
    have h1:=hu.1
    have h2:=hu.2.1
    simp only [if_true,bO]
    rw [A4 (show ¬ (B2 st.2.2.2 id:Int)<0 by omega),A0 (show (0:Int)≤(B2 st.2.2.2 id:Int) by omega),A0 (show (B2 st.2.2.2 id:Int)<(st.2.2.2.length:Int) by omega)]
    simp only [cond_true,cond_false]
    rw [A0 (by simp;omega),A0 (by simp;omega)]
    simp only [cond_true,List.nil_append]
    exact ⟨_,_,rfl,h1,h2,hu.2.2.2⟩
theorem D1Q{l:List ByteArray}{s:ByteArray}(hs:s∈l)(hk:(C7 s).2.1=true):(C7 s).1.1≤A3X l:=by
  have h:=B3E (C7 s).1.1 l (-1)
  by_cases hx:(C7 s).1.1≤A3X l
  · exact hx
  · exfalso
    have h1:decide (l.foldl A2r (-1)<(C7 s).1.1)=true:=decide_eq_true (by have:A3X l=l.foldl A2r (-1):=rfl;omega)
    rw [h1] at h
    have h2:=(Bool.and_eq_true _ _▸h.symm:_∧_).2
    have h3:=List.all_eq_true.1 h2 s hs
    simp only [A21,hk,Bool.true_and] at h3
    rw [A0 (by omega)] at h3
    cases h3
def A5D(d:I8):Bool:=decide (d.1.length=d.2.length∧d.1.length≤200)&&((List.range d.1.length).all fun i=>!decide (((rd .str d.1 (i:Int)).size:Int)>64)&&!decide (((rd .str d.2 (i:Int)).size:Int)>64))
theorem B2N(d:I8):T6 d=some (A5D d,()):=by
  simp only [T6,A9u,A5D]
  by_cases h1:(d.1.length:Int)=(d.2.length:Int)
  · rw [A0 h1]
    by_cases h2:(d.1.length:Int)>200
    · rw [A0 h2,A4 (show ¬ (d.1.length=d.2.length∧d.1.length≤200) by omega)]
      rfl
    · rw [A4 h2,A0 (show d.1.length=d.2.length∧d.1.length≤200 by omega)]
      simp only [Bool.not_true,cond_false,B9,Bool.true_and]
      refine A6q (A0H d) d.1.length (by simp only [maxLen];omega) (fun i=>!decide (((rd .str d.1 (i:Int)).size:Int)>64)&&!decide (((rd .str d.2 (i:Int)).size:Int)>64)) (fun i hi=>?_) (by simp [A0H])
      have g1:((i:Int)<(d.1.length:Int)):=by omega
      have g2:(0:Int)≤(i:Int):=by omega
      have g3:((i:Int)<(d.2.length:Int)):=by omega
      simp only [A0H,A0 g1,A0 g2,A0 g3,cond_true]
      cases decide (((rd .str d.1 (i:Int)).size:Int)>64)<;>cases decide (((rd .str d.2 (i:Int)).size:Int)>64)<;>rfl
  · rw [A4 h1,A4 (show ¬ (d.1.length=d.2.length∧d.1.length≤200) by omega)]
    rfl
theorem D2U{d:I8}(h:A5D d=true):A5D (d.1,d.1)=true:=by
  simp only [A5D,Bool.and_eq_true] at h ⊢
  refine ⟨decide_eq_true ⟨trivial,(of_decide_eq_true h.1).2⟩,List.all_eq_true.2 fun i hi=>?_⟩
  have:=List.all_eq_true.1 h.2 i hi
  simp only [Bool.and_eq_true] at this ⊢
  exact ⟨this.1,this.1⟩
theorem B3m(us:List TUp):A0b us us=true:=by
  simp only [A0b,Bool.and_eq_true]
  refine ⟨decide_eq_true trivial,List.all_eq_true.2 fun i hi=>?_⟩
  simp [A4q]
def B5r(us:List TUp)(id:ByteArray)(ch:List Int):List TUp:=
  us.set (B2 us id) ((rd kUp us (B2 us id:Int)).1,(rd kUp us (B2 us id:Int)).2.1,(rd kUp us (B2 us id:Int)).2.2.1++ch,(rd kUp us (B2 us id:Int)).2.2.2)
def C9G(st:A5)(id:ByteArray)(n:Int)(ch:List Int):A5:=wrote st (st.2.1,st.2.2.1,2,id,n,ch) (B5r st.2.2.2 id ch)
def putAt(st:A5)(id:ByteArray)(off:Int)(dat:List Int):Nat→A5
  | 0=>st
  | j+1=>C9G (putAt st id off dat j) id (off+((j*24:Nat):Int)) (O4 24 dat j)
def nPc(dat:List Int):Nat:=(dat.length+24-1) / 24
structure D2V (st:A5) (id:ByteArray) (off:Int) (dat:List Int):Prop where
  idok:idB id=true
  ep:0≤st.2.1∧st.2.1≤10000
  nx:0≤st.2.2.1∧st.2.2.1+(nPc dat:Int)≤(st.1.1.length:Int)
  len:st.1.1.length≤200
  dk:B2L st.1
  up:Ups st.2.2.2
  has:H5 st.2.2.2 id=true
  nd:(rd kUp st.2.2.2 (B2 st.2.2.2 id:Int)).2.2.2=false
  at':off=(List.length (rd kUp st.2.2.2 (B2 st.2.2.2 id:Int)).2.2.1:Int)
  fits:off+(dat.length:Int)≤(rd kUp st.2.2.2 (B2 st.2.2.2 id:Int)).2.1
  byt:Byt dat
  lo:1≤dat.length
structure D6J (st:A5) (id:ByteArray) (off:Int) (dat:List Int) (j:Nat) (s:A5):Prop where
  ep:s.2.1=st.2.1
  nx:s.2.2.1=st.2.2.1+(j:Int)
  len:s.1.1.length=st.1.1.length
  dk:B2L s.1
  up:Ups s.2.2.2
  has:H5 s.2.2.2 id=true
  ix:B2 s.2.2.2 id=B2 st.2.2.2 id
  val:rd kUp s.2.2.2 (B2 s.2.2.2 id:Int)=((rd kUp st.2.2.2 (B2 st.2.2.2 id:Int)).1,(rd kUp st.2.2.2 (B2 st.2.2.2 id:Int)).2.1,(rd kUp st.2.2.2 (B2 st.2.2.2 id:Int)).2.2.1++dat.take (j*24),false)
theorem C1C(dat:List Int)(j:Nat)(h:j*24<dat.length):1≤(O4 24 dat j).length∧(O4 24 dat j).length≤24∧(O4 24 dat j).length=min (j*24+24) dat.length-j*24:=by
  have e:(O4 24 dat j).length=min (j*24+24) dat.length-j*24:=by unfold O4;rw [List.length_drop,List.length_take]
  rw [e]
  refine ⟨by omega,by omega,rfl⟩
theorem C6n(dat:List Int)(j:Nat):dat.take (j*24)++O4 24 dat j=dat.take ((j+1)*24):=by
  have h:=List.take_append_drop (j*24) (dat.take (j*24+24))
  rw [List.take_take,Nat.min_eq_left (by omega)] at h
  rw [show (j+1)*24=j*24+24 by omega]
  exact h
theorem C1D{dat:List Int}{j:Nat}:j<nPc dat↔j*24<dat.length:=by
  unfold nPc
  omega
theorem B5s{st:A5}{id:ByteArray}{off:Int}{dat:List Int}(hc:D2V st id off dat){j:Nat}{s:A5}(h:D6J st id off dat j s)(hj:j<nPc dat) :
    R5 (s.2.1,s.2.2.1,2,id,off+((j*24:Nat):Int),O4 24 dat j)=true∧J6 s.2.2.2 (s.2.1,s.2.2.1,2,id,off+((j*24:Nat):Int),O4 24 dat j)=some (B5r s.2.2.2 id (O4 24 dat j))∧
      D6J st id off dat (j+1) (C9G s id (off+((j*24:Nat):Int)) (O4 24 dat j)):=by
  obtain ⟨p1,p2,p3⟩:=C1C dat j (C1D.1 hj)
  have hj2:=C1D.1 hj
  have hlen0:(List.length (dat.take (j*24)):Int)=((j*24:Nat):Int):=by rw [List.length_take];omega
  obtain ⟨hlt,_⟩:=H3.1 hc.has
  have hu:=hc.up.2.2 _ (List.getElem_mem hlt)
  rw [← E3 (k:=kUp) hlt] at hu
  have hu1:=hu.1
  have hu2:=hu.2.1
  have hat:=hc.at'
  have hft:=hc.fits
  have hn1:=hc.nx.1
  have hn2:=hc.nx.2
  have hl:=hc.len
  have hnx:=h.nx
  have hbp:Byt (O4 24 dat j):=A6t (A3V hc.byt _) _
  have hr:R5 (s.2.1,s.2.2.1,2,id,off+((j*24:Nat):Int),O4 24 dat j)=true:=by
    simp only [R5,hc.idok,h.ep]
    rw [A0 hc.ep,A0 (show 0≤s.2.2.1∧s.2.2.1≤199 by omega),if_neg (by omega),if_pos trivial,A0 (show 0≤off+((j*24:Nat):Int)∧off+((j*24:Nat):Int)≤1000000000 by omega),A0 (show 1≤(List.length (O4 24 dat j):Int)∧(List.length (O4 24 dat j):Int)≤24 by omega)]
    rfl
  have hf:J6 s.2.2.2 (s.2.1,s.2.2.1,2,id,off+((j*24:Nat):Int),O4 24 dat j)=some (B5r s.2.2.2 id (O4 24 dat j)):=by
    have e1:(List.length (rd kUp s.2.2.2 (B2 s.2.2.2 id:Int)).2.2.1:Int)=off+((j*24:Nat):Int):=by
      rw [h.val];simp only [List.length_append];omega
    have e2:(rd kUp s.2.2.2 (B2 s.2.2.2 id:Int)).2.2.2=false:=by rw [h.val]
    have e3:@Eq Int (rd kUp s.2.2.2 (B2 s.2.2.2 id:Int)).2.1 (rd kUp st.2.2.2 (B2 st.2.2.2 id:Int)).2.1:=by rw [h.val]
    simp only [J6,h.has,e2,B5r]
    rw [if_neg (by omega),if_neg (by simp),if_pos trivial,if_neg (fun hx=>by
      rcases hx with hx | hx | hx
      · cases hx
      · exact hx e1.symm
      · have hx2:(List.length (rd kUp s.2.2.2 (B2 s.2.2.2 id:Int)).2.2.1:Int)+(List.length (O4 24 dat j):Int)>(rd kUp st.2.2.2 (B2 st.2.2.2 id:Int)).2.1:=by rw [← e3];exact hx
        omega)]
  have hus:=B2K h.up ⟨hr,hbp⟩ hf
  obtain ⟨k1,k2,k3⟩:=D2T h.has ((rd kUp s.2.2.2 (B2 s.2.2.2 id:Int)).1,(rd kUp s.2.2.2 (B2 s.2.2.2 id:Int)).2.1,(rd kUp s.2.2.2 (B2 s.2.2.2 id:Int)).2.2.1++O4 24 dat j,(rd kUp s.2.2.2 (B2 s.2.2.2 id:Int)).2.2.2) rfl
  refine ⟨hr,hf,h.ep,?_,?_,C9F h.dk hr _,hus,k1,k2.trans h.ix,?_⟩
  · show s.2.2.1+1=st.2.2.1+((j+1:Nat):Int)
    omega
  · show (s.1.1.set _ _).length=_
    rw [List.length_set];exact h.len
  · show rd kUp (s.2.2.2.set (B2 s.2.2.2 id) _) ((B2 (s.2.2.2.set (B2 s.2.2.2 id) _) id:Nat):Int)=_
    rw [k2,k3,h.val]
    simp only [List.append_assoc,C6n]
theorem D4i{st:A5}{id:ByteArray}{off:Int}{dat:List Int}(hc:D2V st id off dat):D6J st id off dat 0 st:=
  ⟨rfl,by simp,rfl,hc.dk,hc.up,hc.has,rfl,by
    have e2:(rd kUp st.2.2.2 (B2 st.2.2.2 id:Int)).2.2.2=false:=hc.nd
    rw [Nat.zero_mul,List.take_zero,List.append_nil,← e2]⟩
theorem B9z{st:A5}{id:ByteArray}{off:Int}{dat:List Int}(hc:D2V st id off dat):∀ j,j≤nPc dat→D6J st id off dat j (putAt st id off dat j)
  | 0,_=>D4i hc
  | j+1,hj=>(B5s hc (B9z hc j (by omega)) (by omega)).2.2
theorem C9H{st:A5}{id:ByteArray}{off:Int}{dat:List Int}(hc:D2V st id off dat)(h400:dat.length≤400) :
    C0 (A0x D9 dat id off) (0,st.2.1,st.2.2.1,st.1.1,st.1.2,st.2.2.2,()) =
      some ((putAt st id off dat (nPc dat)).2.1,(putAt st id off dat (nPc dat)).2.2.1,(putAt st id off dat (nPc dat)).1.1,(putAt st id off dat (nPc dat)).1.2,(putAt st id off dat (nPc dat)).2.2.2,()):=by
  obtain ⟨z,e,hz⟩:=R4 (A0x D9 dat id off) (fun l=>((dat.length:Int)+24-l.1).toNat)
    (fun l=>∃ j:Nat,j≤nPc dat∧l=(((j*24:Nat):Int),(putAt st id off dat j).2.1,(putAt st id off dat j).2.2.1,(putAt st id off dat j).1.1,(putAt st id off dat j).1.2,(putAt st id off dat j).2.2.2,()))
    (fun z=>z=((putAt st id off dat (nPc dat)).2.1,(putAt st id off dat (nPc dat)).2.2.1,(putAt st id off dat (nPc dat)).1.1,(putAt st id off dat (nPc dat)).1.2,(putAt st id off dat (nPc dat)).2.2.2,())) (fun l hl=>by
      obtain ⟨j,hj,rfl⟩:=hl
      have hI:=B9z hc j hj
      have hl:=hc.len
      have hn1:=hc.nx.1
      have hn2:=hc.nx.2
      have hnx:=hI.nx
      have hle:=hI.len
      obtain ⟨hlt',_⟩:=H3.1 hc.has
      have hu:=hc.up.2.2 _ (List.getElem_mem hlt')
      rw [← E3 (k:=kUp) hlt'] at hu
      have hu2:=hu.2.1
      have hat:=hc.at'
      have hft:=hc.fits
      simp only [A0x]
      by_cases hi:j<nPc dat
      · have hj2:=C1D.1 hi
        obtain ⟨hr,hf,hn⟩:=B5s hc hI hi
        obtain ⟨p1,p2,p3⟩:=C1C dat j hj2
        rw [A0 (show ((j*24:Nat):Int)<(dat.length:Int) by omega),w64 (n:=((j*24:Nat):Int)+24) (by omega) (by omega)]
        obtain ⟨to,hto,hto2⟩:∃ to:Int,(bif decide (((j*24:Nat):Int)+24>(dat.length:Int)) then some ((dat.length:Int),()) else some (((j*24:Nat):Int)+24,()))=some (to,())∧(to.toNat=min (j*24+24) dat.length∧0≤to):=by
          by_cases hcc:((j*24:Nat):Int)+24>(dat.length:Int)
          · rw [A0 hcc];exact ⟨_,rfl,by omega,by omega⟩
          · rw [A4 hcc];exact ⟨_,rfl,by omega,by omega⟩
        simp only [cond_true,hto,bO]
        have hpc:(dat.take to.toNat).drop ((j*24:Nat):Int).toNat=O4 24 dat j:=by
          rw [hto2.1,Int.toNat_natCast,O4,List.take_eq_take_iff.2 (show min (min (j*24+24) dat.length) dat.length=min (j*24+24) dat.length by omega)]
        rw [hpc,A0 (show 0≤((j*24:Nat):Int) by omega),A0 (show ((j*24:Nat):Int)≤to by omega),A0 (show to≤(dat.length:Int) by omega),A0 (by simp;omega),A0 (by simp;omega),w64 (n:=off+((j*24:Nat):Int)) (by omega) (by omega)]
        simp only [cond_true,List.nil_append]
        have hw:=B0K (putAt st id off dat j) 0 0 2 id (off+((j*24:Nat):Int)) (O4 24 dat j) hI.up hr (A6t (A3V hc.byt _) _) (by omega) (by omega) (by omega) _ hf
        have hw':D9 (((putAt st id off dat j).1.1,(putAt st id off dat j).1.2),((putAt st id off dat j).2.1,((putAt st id off dat j).2.2.1,(putAt st id off dat j).2.2.2))) (0,(0,(2,(id,(off+((j*24:Nat):Int),O4 24 dat j)))))=some (putAt st id off dat (j+1),()):=hw
        rw [hw']
        simp only [bO]
        refine .inl ⟨_,rfl,⟨j+1,by omega,?_⟩,by simp only;omega⟩
        rw [show ((j*24:Nat):Int)+24=(((j+1)*24:Nat):Int) by omega]
      · have:j=nPc dat:=by omega
        subst this
        have:¬ nPc dat*24<dat.length:=fun h=>hi (C1D.2 h)
        rw [A4 (show ¬ ((nPc dat*24:Nat):Int)<(dat.length:Int) by omega)]
        exact .inr ⟨_,rfl,rfl⟩) (0,st.2.1,st.2.2.1,st.1.1,st.1.2,st.2.2.2,()) ⟨0,by omega,rfl⟩
  rw [e,hz]
def A8l(st:A5)(id:ByteArray)(off:Int)(dat:List Int):A5×Int:=
  if idB id=true∧1≤dat.length∧dat.length≤400 then
    (if H5 st.2.2.2 id=true then
      (if (rd kUp st.2.2.2 (B2 st.2.2.2 id:Int)).2.2.2=true∨off≠(List.length (rd kUp st.2.2.2 (B2 st.2.2.2 id:Int)).2.2.1:Int)∨off+(dat.length:Int)>(rd kUp st.2.2.2 (B2 st.2.2.2 id:Int)).2.1 then (st,4)
       else if (st.1.1.length:Int)-st.2.2.1<(nPc dat:Int) then (st,5) else (putAt st id off dat (nPc dat),0))
     else (st,2))
  else (st,1)
theorem D7N(dat:List Int)(h:dat.length≤400):(IntKind.i64.wrap ((IntKind.i64.wrap ((IntKind.i64.wrap ((dat.length:Int)+24))-1)).tdiv 24))=(nPc dat:Int):=by
  have htd:((dat.length:Int)+24-1).tdiv 24=(nPc dat:Int):=by
    rw [Int.tdiv_eq_ediv_of_nonneg (by omega)]
    unfold nPc
    omega
  rw [w64 (n:=(dat.length:Int)+24) (by omega) (by omega),w64 (n:=(dat.length:Int)+24-1) (by omega) (by omega),htd,w64 (by unfold nPc;omega) (by unfold nPc;omega)]
structure Rt (st:A5):Prop where
  g:C16 st
  up:Ups st.2.2.2
  dk:B2L st.1
theorem C00{st:A5}{id:ByteArray}{off:Int}{dat:List Int}(h:Rt st)(hb:Byt dat)(h1:idB id=true)(h2:1≤dat.length∧dat.length≤400)(h3:H5 st.2.2.2 id=true)
    (h4:¬ ((rd kUp st.2.2.2 (B2 st.2.2.2 id:Int)).2.2.2=true∨off≠(List.length (rd kUp st.2.2.2 (B2 st.2.2.2 id:Int)).2.2.1:Int)∨off+(dat.length:Int)>(rd kUp st.2.2.2 (B2 st.2.2.2 id:Int)).2.1))
    (h5:¬ (st.1.1.length:Int)-st.2.2.1<(nPc dat:Int)):D2V st id off dat:=by
  obtain ⟨g1,g2,g3,g4,⟨g5,g6⟩,_⟩:=h.g
  rw [not_or,not_or] at h4
  refine ⟨h1,⟨g1,g2⟩,⟨g5,by omega⟩,g4,h.dk,h.up,h3,by simpa using h4.1,Decidable.not_not.1 h4.2.1,by have h6:=h4.2.2;exact Int.not_lt.1 h6,hb,h2.1⟩
theorem B4t(st:A5)(id:ByteArray)(off:Int)(dat:List Int)(hid:id.size≤maxLen)(h:Rt st)(hS:A5T st)(hok:D3 st=some (true,()))(hb:Byt dat)(hd:dat.length≤1048576)(ho:-9223372036854775808≤off∧off≤9223372036854775807) :
    M6 st id off dat=some ((A8l st id off dat).1,(A8l st id off dat).2,()):=by
  obtain ⟨g1,g2,g3,g4,⟨g5,g6⟩,_⟩:=h.g
  have hU:=h.up
  have hl:st.1.1.length≤1048576:=by omega
  simp only [M6,A5Q,V6 st hS,hok,A6r id hid,T2,bO,A8l]
  cases hidb:idB id with
  | false=>simp [B9]
  | true=>
    simp only [Bool.not_true,cond_false,true_and]
    by_cases hlen:1≤(dat.length:Int)∧(dat.length:Int)≤400
    · rw [A0 hlen,if_pos (show 1≤dat.length∧dat.length≤400 by omega)]
      simp only [Bool.not_true,cond_false,B9]
      rw [B3F st.2.2.2 id hU,B3G st g5 g6 hl,D7N dat (by omega)]
      cases hh:H5 st.2.2.2 id with
      | false=>
        simp only [Bool.false_eq_true,if_false,bO]
        rw [A0 (show (-1:Int)<0 by omega)]
        rfl
      | true=>
        obtain ⟨hlt,hid2⟩:=H3.1 hh
        have hu:=hU.2.2 _ (List.getElem_mem hlt)
        rw [← E3 (k:=kUp) hlt] at hu
        have hu1:=hu.1
        have hu2:=hu.2.1
        simp only [if_true,bO]
        rw [A4 (show ¬ (B2 st.2.2.2 id:Int)<0 by omega),A0 (show (0:Int)≤(B2 st.2.2.2 id:Int) by omega),A0 (show (B2 st.2.2.2 id:Int)<(st.2.2.2.length:Int) by omega)]
        simp only [cond_true,cond_false]
        cases hdn:(rd kUp st.2.2.2 (B2 st.2.2.2 id:Int)).2.2.2 with
        | true=>simp [bO]
        | false=>
          simp only [cond_false]
          cases ho':decide (off=(List.length (rd kUp st.2.2.2 (B2 st.2.2.2 id:Int)).2.2.1:Int)) with
          | false=>
            have ho:=of_decide_eq_false ho'
            rw [if_pos (.inr (.inl ho))]
            rfl
          | true=>
            have ho:=of_decide_eq_true ho'
            simp only [Bool.not_true,cond_false,bO]
            rw [w64 (n:=off+(dat.length:Int)) (by omega) (by omega)]
            by_cases hw:off+(dat.length:Int)>(rd kUp st.2.2.2 (B2 st.2.2.2 id:Int)).2.1
            · rw [A0 hw,if_pos (.inr (.inr hw))]
              rfl
            · have hno:¬ ((rd kUp st.2.2.2 (B2 st.2.2.2 id:Int)).2.2.2=true∨off≠(List.length (rd kUp st.2.2.2 (B2 st.2.2.2 id:Int)).2.2.1:Int)∨off+(dat.length:Int)>(rd kUp st.2.2.2 (B2 st.2.2.2 id:Int)).2.1):=by
                rw [hdn];rintro (hx | hx | hx)
                · cases hx
                · exact hx ho
                · exact hw hx
              have hno':=hno
              rw [hdn] at hno'
              rw [A4 hw,if_neg hno']
              simp only [cond_false,bO]
              by_cases hleft:(st.1.1.length:Int)-st.2.2.1<(nPc dat:Int)
              · rw [A0 hleft,if_pos hleft]
                rfl
              · rw [A4 hleft,if_neg hleft]
                simp only [cond_false]
                have hc:=C00 h hb hidb ⟨by omega,by omega⟩ hh hno hleft
                rw [C9H hc (by omega)]
                rfl
    · rw [A4 hlen,if_neg (show ¬ (1≤dat.length∧dat.length≤400) by omega)]
      rfl
theorem C9I{s:A5}(hd:B2L s.1)(hu:Ups s.2.2.2):A5T s:=⟨hd,by have:=hu.2.1;omega,B0I hu⟩
def A5E(st:A5)(id:ByteArray)(want:Int):A5×Int:=
  if idB id=true∧0≤want∧want≤1000000 then
    (if H5 st.2.2.2 id=true then (st,3)
     else if (st.1.1.length:Int)-st.2.2.1<1∨10≤st.2.2.2.length then (st,5)
     else (wrote st (st.2.1,st.2.2.1,1,id,want,[]) (st.2.2.2.take (B2 st.2.2.2 id)++(id,want,[],false)::st.2.2.2.drop (B2 st.2.2.2 id)),0))
  else (st,1)
def A40(st:A5)(id:ByteArray)(sum:Int):A5×Int:=
  if idB id=true then
    (if H5 st.2.2.2 id=true then
      (if (List.length (rd kUp st.2.2.2 (B2 st.2.2.2 id:Int)).2.2.1:Int)<(rd kUp st.2.2.2 (B2 st.2.2.2 id:Int)).2.1 then (st,4)
       else if sum≠((A3U (rd kUp st.2.2.2 (B2 st.2.2.2 id:Int)).2.2.1 ^^^ 4294967295:Nat):Int) then (st,6)
       else if (rd kUp st.2.2.2 (B2 st.2.2.2 id:Int)).2.2.2=true then (st,0)
       else if (st.1.1.length:Int)-st.2.2.1<1 then (st,5)
       else (wrote st (st.2.1,st.2.2.1,3,id,0,[]) (st.2.2.2.set (B2 st.2.2.2 id) ((rd kUp st.2.2.2 (B2 st.2.2.2 id:Int)).1,(rd kUp st.2.2.2 (B2 st.2.2.2 id:Int)).2.1,(rd kUp st.2.2.2 (B2 st.2.2.2 id:Int)).2.2.1,true)),0))
     else (st,2))
  else (st,1)
def A8m(st:A5)(id:ByteArray):A5×Int:=
  if idB id=true then
    (if H5 st.2.2.2 id=true then
      (if (st.1.1.length:Int)-st.2.2.1<1 then (st,5)
       else (wrote st (st.2.1,st.2.2.1,4,id,0,[]) (st.2.2.2.take (B2 st.2.2.2 id)++st.2.2.2.drop (B2 st.2.2.2 id+1)),0))
     else (st,2))
  else (st,1)
theorem B2O{st:A5}(h:C16 st)(k n:Int)(id:ByteArray)(hid:idB id=true)(hl:¬ (st.1.1.length:Int)-st.2.2.1<1)(hk:k=1∧0≤n∧n≤1000000000∨(k=3∨k=4)∧n=0):R5 (st.2.1,st.2.2.1,k,id,n,[])=true:=by
  obtain ⟨g1,g2,g3,g4,⟨g5,g6⟩,_⟩:=h
  simp only [R5,hid,List.length_nil]
  rw [A0 (show 0≤st.2.1∧st.2.1≤10000 by omega),A0 (show 0≤st.2.2.1∧st.2.2.1≤199 by omega)]
  rcases hk with ⟨rfl,h0,h1⟩ | ⟨rfl | rfl,rfl⟩
  · rw [if_pos rfl,A0 (show 0≤n∧n≤1000000000 from ⟨h0,h1⟩)];rfl
  · rfl
  · rfl
theorem B7B{st:A5}{id:ByteArray}{want:Int}(h1:¬ H5 st.2.2.2 id=true)(h2:¬ 10≤st.2.2.2.length):J6 st.2.2.2 (st.2.1,st.2.2.1,1,id,want,[])=some (st.2.2.2.take (B2 st.2.2.2 id)++(id,want,[],false)::st.2.2.2.drop (B2 st.2.2.2 id)):=by
  simp only [J6,if_true]
  rw [if_neg (fun h=>h.elim h1 h2)]
theorem B7C{st:A5}{id:ByteArray}(hU:Ups st.2.2.2)(h1:H5 st.2.2.2 id=true)(h2:¬ (List.length (rd kUp st.2.2.2 (B2 st.2.2.2 id:Int)).2.2.1:Int)<(rd kUp st.2.2.2 (B2 st.2.2.2 id:Int)).2.1)(h3:¬ (rd kUp st.2.2.2 (B2 st.2.2.2 id:Int)).2.2.2=true) :
    J6 st.2.2.2 (st.2.1,st.2.2.1,3,id,0,[])=some (st.2.2.2.set (B2 st.2.2.2 id) ((rd kUp st.2.2.2 (B2 st.2.2.2 id:Int)).1,(rd kUp st.2.2.2 (B2 st.2.2.2 id:Int)).2.1,(rd kUp st.2.2.2 (B2 st.2.2.2 id:Int)).2.2.1,true)):=by
  obtain ⟨hlt,hid2⟩:=H3.1 h1
  have hu:=hU.2.2 _ (List.getElem_mem hlt)
  rw [← E3 (k:=kUp) hlt] at hu
  have hu1:=hu.1
  simp only [J6,h1]
  rw [if_neg (by omega),if_neg (by simp),if_neg (by omega),if_pos trivial,if_neg (fun h=>h.elim h3 (fun h=>h (Int.le_antisymm hu1 (Int.not_lt.1 h2))))]
theorem C4C{st:A5}{id:ByteArray}(h1:H5 st.2.2.2 id=true):J6 st.2.2.2 (st.2.1,st.2.2.1,4,id,0,[])=some (st.2.2.2.take (B2 st.2.2.2 id)++st.2.2.2.drop (B2 st.2.2.2 id+1)):=by
  simp only [J6,h1]
  rw [if_neg (by omega),if_neg (by simp),if_neg (by omega),if_neg (by omega),if_pos trivial]
theorem B2P(st:A5)(id:ByteArray)(want:Int)(hid:id.size≤maxLen)(h:Rt st)(hS:A5T st)(hok:D3 st=some (true,())):K9 st id want=some ((A5E st id want).1,(A5E st id want).2,()):=by
  obtain ⟨g1,g2,g3,g4,⟨g5,g6⟩,_⟩:=h.g
  have hU:=h.up
  have hl:st.1.1.length≤1048576:=by omega
  have hul:=hU.2.1
  simp only [K9,A4L,V6 st hS,hok,A6r id hid,T2,bO,A5E]
  cases hidb:idB id with
  | false=>simp [B9,bO]
  | true=>
    simp only [Bool.not_true,cond_false,true_and]
    by_cases hw:0≤want∧want≤1000000
    · rw [A0 hw,if_pos hw]
      simp only [Bool.not_true,cond_false,B9]
      rw [B3F st.2.2.2 id hU,B3G st g5 g6 hl]
      cases hh:H5 st.2.2.2 id with
      | true=>
        simp only [if_true,bO]
        rw [A0 (show (B2 st.2.2.2 id:Int)≥0 by omega)]
        rfl
      | false=>
        simp only [Bool.false_eq_true,if_false,bO]
        rw [A4 (show ¬ (-1:Int)≥0 by omega)]
        simp only [cond_false]
        by_cases hleft:(st.1.1.length:Int)-st.2.2.1<1
        · rw [A0 hleft,if_pos (.inl hleft)]
          rfl
        · rw [A4 hleft]
          simp only [cond_false]
          by_cases h10:10≤st.2.2.2.length
          · rw [A0 (show (st.2.2.2.length:Int)=10 by omega),if_pos (.inr h10)]
            rfl
          · rw [A4 (show ¬ (st.2.2.2.length:Int)=10 by omega),if_neg (fun hx=>hx.elim hleft h10)]
            simp only [cond_false]
            have hr:=B2O h.g 1 want id hidb hleft (.inl ⟨rfl,hw.1,by omega⟩)
            have hf:=B7B (st:=st) (id:=id) (want:=want) (by rw [hh];simp) h10
            rw [B0K st 0 0 1 id want [] hU hr T3 g5 (by omega) hl _ hf]
            rfl
    · rw [A4 hw,if_neg hw]
      rfl
theorem B2Q(st:A5)(id:ByteArray)(sum:Int)(hid:id.size≤maxLen)(h:Rt st)(hS:A5T st)(hok:D3 st=some (true,())):L0 st id sum=some ((A40 st id sum).1,(A40 st id sum).2,()):=by
  obtain ⟨g1,g2,g3,g4,⟨g5,g6⟩,_⟩:=h.g
  have hU:=h.up
  have hl:st.1.1.length≤1048576:=by omega
  have hul:=hU.2.1
  simp only [L0,A4M,V6 st hS,hok,A6r id hid,bO,A40]
  cases hidb:idB id with
  | false=>rfl
  | true=>
    simp only [Bool.not_true,cond_false,B9,if_true]
    rw [B3F st.2.2.2 id hU,B3G st g5 g6 hl]
    cases hh:H5 st.2.2.2 id with
    | false=>
      simp only [Bool.false_eq_true,if_false,bO]
      rw [A0 (show (-1:Int)<0 by omega)]
      rfl
    | true=>
      obtain ⟨hlt,hid2⟩:=H3.1 hh
      have hu:=hU.2.2 _ (List.getElem_mem hlt)
      have hdl:=B0I hU _ (List.getElem_mem hlt)
      rw [← E3 (k:=kUp) hlt] at hu hdl
      simp only [if_true,bO]
      rw [A4 (show ¬ (B2 st.2.2.2 id:Int)<0 by omega),A0 (show (0:Int)≤(B2 st.2.2.2 id:Int) by omega),A0 (show (B2 st.2.2.2 id:Int)<(st.2.2.2.length:Int) by omega)]
      simp only [cond_true,cond_false]
      rw [B2C _ hu.2.2.2 (by simp only [maxLen];omega)]
      simp only [bO]
      by_cases hd1:(List.length (rd kUp st.2.2.2 (B2 st.2.2.2 id:Int)).2.2.1:Int)<(rd kUp st.2.2.2 (B2 st.2.2.2 id:Int)).2.1
      · rw [A0 hd1,if_pos hd1]
        rfl
      rw [A4 hd1,if_neg hd1]
      simp only [cond_false]
      by_cases hc:sum=((A3U (rd kUp st.2.2.2 (B2 st.2.2.2 id:Int)).2.2.1 ^^^ 4294967295:Nat):Int)
      · rw [A0 hc,if_neg (fun hx=>hx hc)]
        simp only [Bool.not_true,cond_false]
        cases hdn:(rd kUp st.2.2.2 (B2 st.2.2.2 id:Int)).2.2.2 with
        | true=>rfl
        | false=>
          simp only [Bool.not_false,cond_true,cond_false,Bool.false_eq_true,if_false,bO]
          by_cases hleft:(st.1.1.length:Int)-st.2.2.1<1
          · rw [A0 hleft,if_pos hleft]
            rfl
          · rw [A4 hleft,if_neg hleft]
            simp only [cond_false]
            have hr:=B2O h.g 3 0 id hidb hleft (.inr ⟨.inl rfl,rfl⟩)
            have hf:=B7C hU hh hd1 (by rw [hdn];simp)
            rw [B0K st 0 0 3 id 0 [] hU hr T3 g5 (by omega) hl _ hf]
            rfl
      · rw [A4 hc,if_pos hc]
        rfl
theorem B2R(st:A5)(id:ByteArray)(hid:id.size≤maxLen)(h:Rt st)(hS:A5T st)(hok:D3 st=some (true,())):L1 st id=some ((A8m st id).1,(A8m st id).2,()):=by
  obtain ⟨g1,g2,g3,g4,⟨g5,g6⟩,_⟩:=h.g
  have hU:=h.up
  have hl:st.1.1.length≤1048576:=by omega
  have hul:=hU.2.1
  simp only [L1,A4N,V6 st hS,hok,A6r id hid,bO,A8m]
  cases hidb:idB id with
  | false=>rfl
  | true=>
    simp only [Bool.not_true,cond_false,B9,if_true]
    rw [B3F st.2.2.2 id hU,B3G st g5 g6 hl]
    cases hh:H5 st.2.2.2 id with
    | false=>
      simp only [Bool.false_eq_true,if_false,bO]
      rw [A0 (show (-1:Int)<0 by omega)]
      rfl
    | true=>
      simp only [if_true,bO]
      rw [A4 (show ¬ (B2 st.2.2.2 id:Int)<0 by omega)]
      simp only [cond_false]
      by_cases hleft:(st.1.1.length:Int)-st.2.2.1<1
      · rw [A0 hleft,if_pos hleft]
        rfl
      · rw [A4 hleft,if_neg hleft]
        simp only [cond_false]
        have hr:=B2O h.g 4 0 id hidb hleft (.inr ⟨.inr rfl,rfl⟩)
        have hf:=C4C (st:=st) hh
        rw [B0K st 0 0 4 id 0 [] hU hr T3 g5 (by omega) hl _ hf]
        rfl
theorem C33{xs:List Int}(h:Byt xs):bytesOf (strOf xs)=xs:=by
  show ((strOfNums xs).data.toList.map fun b=>(b.toNat:Int))=xs
  rw [strOfNums_data,List.map_map]
  refine (List.map_congr_left fun x hx=>?_).trans (List.map_id _)
  have:=h x hx
  simp only [Function.comp,id]
  have e:(UInt8.ofNat x.toNat).toNat=x.toNat % 256:=UInt8.toNat_ofNat
  rw [e]
  omega
theorem C34(s:ByteArray):strOf (bytesOf s)=s:=by
  refine C5G ?_
  rw [ByteArray.toList_eq,ByteArray.toList_eq]
  show ((bytesOf s).map fun n=>UInt8.ofNat n.toNat)=s.data.toList
  rw [bytesOf,List.map_map]
  refine (List.map_congr_left fun x hx=>?_).trans (List.map_id _)
  simp
theorem C6o(n:Nat):IntKind.u8.wrap (n:Int)=((n % 256:Nat):Int):=by
  simp only [IntKind.wrap,IntKind.bits,IntKind.signed]
  simp
theorem C6p(x y:Nat)(h:y<256):(x*256) ||| y=x*256+y:=by
  have:=Nat.two_pow_add_eq_or_of_lt (i:=8) (b:=y) (by simpa using h) x
  rw [Nat.mul_comm x 256]
  exact this.symm
theorem C6q(p q:List Int)(n k:Nat):∀ j,j≤k→W5 (p++(big (n:Int) k++q)) p.length j=n / 2 ^ (8*(k-j)) % 2 ^ (8*j)
  | 0,_=>by simp [W5,Nat.mod_one]
  | j+1,hj=>by
    have ih:=C6q p q n k j (by omega)
    have hget:(p++(big (n:Int) k++q)).getD (p.length+j) 0=C0u (n:Int) k j:=by
      simp only [List.getD]
      rw [List.getElem?_append_right (by omega),Nat.add_sub_cancel_left,List.getElem?_append_left (by rw [J5];omega)]
      simp only [big,List.getElem?_map,List.getElem?_range (show j<k by omega),Option.map_some,Option.getD_some]
    have hat:C0u (n:Int) k j=((n / 2 ^ (8*(k-1-j)) % 256:Nat):Int):=by
      unfold C0u
      rw [← C6o]
      congr 1
      rw [show (2:Int) ^ (8*(k-1-j))=((2 ^ (8*(k-1-j)):Nat):Int) by rw [Int.natCast_pow];rfl,Int.fdiv_eq_ediv_of_nonneg _ (Int.natCast_nonneg _),← Int.natCast_ediv]
    simp only [W5]
    rw [ih,hget,hat,Int.toNat_natCast,C6p _ _ (Nat.mod_lt _ (by omega))]
    rw [show k-1-j=k-(j+1) by omega]
    have e1:2 ^ (8*(k-j))=2 ^ (8*(k-(j+1)))*256:=by rw [show 8*(k-j)=8*(k-(j+1))+8 by omega,Nat.pow_add]
    have e2:2 ^ (8*(j+1))=256*2 ^ (8*j):=by rw [show 8*(j+1)=8+8*j by omega,Nat.pow_add]
    rw [e1,← Nat.div_div_eq_div_mul,e2,Nat.mod_mul]
    omega
theorem A6J{b:List Int}(p q:List Int)(n:Int)(k a:Nat)(h:b=p++(big n k++q))(ha:a=p.length)(h0:0≤n)(h1:n<2 ^ (8*k)):(W5 b a k:Int)=n:=by
  subst h;subst ha
  obtain ⟨m,rfl⟩:∃ m:Nat,n=(m:Int):=⟨n.toNat,by omega⟩
  rw [C6q p q m k k (Nat.le_refl _),Nat.sub_self,Nat.mul_zero,Nat.pow_zero,Nat.div_one]
  rw [show (2:Int) ^ (8*k)=((2 ^ (8*k):Nat):Int) by rw [Int.natCast_pow];rfl] at h1
  rw [Nat.mod_eq_of_lt (by omega)]
theorem C5H{r:F7}(h:B1I r):bytesOf (U6 r)=B1H r++big (A01 (D7K (B1H r))) 4:=by
  unfold U6
  exact C33 (B9w (C11 r h.2) (D1M _ _))
theorem D6K{r:F7}(h:R5 r=true)(c:List Int):B1H r++c=big r.1 3++(big r.2.1 2++(big r.2.2.1 1++(big (r.2.2.2.1.size:Int) 1++(bytesOf r.2.2.2.1++(big r.2.2.2.2.1 4++(big (List.length r.2.2.2.2.2:Int) 1++(r.2.2.2.2.2++c))))))):=by
  have hb:=A0r h
  have hq:0≤r.2.1:=by
    simp only [R5,Bool.and_eq_true] at h
    exact (of_decide_eq_true h.1.1.2).1
  unfold B1H
  rw [A3W (n:=r.1) (by omega),A3W (n:=r.2.1) hq,A3W (n:=r.2.2.1) (by omega),A3W (n:=(r.2.2.2.1.size:Int)) (by omega),A3W (n:=r.2.2.2.2.1) (by omega),A3W (n:=(List.length r.2.2.2.2.2:Int)) (by omega)]
  simp only [List.append_assoc]
theorem D2W{r:F7}(h:R5 r=true):0≤r.2.1∧r.2.1≤199:=by
  simp only [R5,Bool.and_eq_true] at h
  exact of_decide_eq_true h.1.1.2
theorem D2X{r:F7}(h:R5 r=true)(c:List Int):C9 (B1H r++c)=r.2.2.2.1.size∧P3 (B1H r++c)=List.length r.2.2.2.2.2∧recAt (B1H r++c)=r:=by
  have hb:=A0r h
  have hq:=D2W h
  have e:=D6K h c
  generalize B1H r++c=b at e
  have b6:(W5 b 6 1:Int)=(r.2.2.2.1.size:Int):=A6J (big r.1 3++(big r.2.1 2++big r.2.2.1 1)) _ _ 1 6 (by rw [e];simp only [List.append_assoc];rfl) (by simp [J5]) (by omega) (by omega)
  have hid:C9 b=r.2.2.2.1.size:=by unfold C9;omega
  have b11:(W5 b (11+C9 b) 1:Int)=(List.length r.2.2.2.2.2:Int):=
    A6J (big r.1 3++(big r.2.1 2++(big r.2.2.1 1++(big (r.2.2.2.1.size:Int) 1++(bytesOf r.2.2.2.1++big r.2.2.2.2.1 4))))) _ _ 1 _ (by rw [e];simp only [List.append_assoc];rfl) (by simp [J5,bytesOf_length,hid];omega) (by omega) (by omega)
  have hdl:P3 b=List.length r.2.2.2.2.2:=by unfold P3;omega
  refine ⟨hid,hdl,?_⟩
  have b0:(W5 b 0 3:Int)=r.1:=A6J [] _ _ 3 0 (by rw [e];rfl) rfl (by omega) (by omega)
  have b3:(W5 b 3 2:Int)=r.2.1:=A6J (big r.1 3) _ _ 2 3 (by rw [e]) (by simp [J5]) (by omega) (by omega)
  have b5:(W5 b 5 1:Int)=r.2.2.1:=A6J (big r.1 3++big r.2.1 2) _ _ 1 5 (by rw [e];simp only [List.append_assoc];rfl) (by simp [J5]) (by omega) (by omega)
  have b7:(W5 b (7+C9 b) 4:Int)=r.2.2.2.2.1:=A6J (big r.1 3++(big r.2.1 2++(big r.2.2.1 1++(big (r.2.2.2.1.size:Int) 1++bytesOf r.2.2.2.1)))) _ _ 4 _ (by rw [e];simp only [List.append_assoc];rfl) (by simp [J5,bytesOf_length,hid];omega) (by omega) (by omega)
  have t1:(b.take (7+C9 b)).drop 7=bytesOf r.2.2.2.1:=by
    have e7:b=(big r.1 3++(big r.2.1 2++(big r.2.2.1 1++big (r.2.2.2.1.size:Int) 1)))++(bytesOf r.2.2.2.1++(big r.2.2.2.2.1 4++(big (List.length r.2.2.2.2.2:Int) 1++(r.2.2.2.2.2++c)))):=by rw [e];simp only [List.append_assoc]
    have hl7:(big r.1 3++(big r.2.1 2++(big r.2.2.1 1++big (r.2.2.2.1.size:Int) 1))).length=7:=by simp [J5]
    rw [hid,List.drop_take,Nat.add_sub_cancel_left,e7,← hl7,List.drop_left,← bytesOf_length,List.take_left]
  have t2:(b.take (12+C9 b+P3 b)).drop (12+C9 b)=r.2.2.2.2.2:=by
    have e12:b=(big r.1 3++(big r.2.1 2++(big r.2.2.1 1++(big (r.2.2.2.1.size:Int) 1++(bytesOf r.2.2.2.1++(big r.2.2.2.2.1 4++big (List.length r.2.2.2.2.2:Int) 1))))))++(r.2.2.2.2.2++c):=by rw [e];simp only [List.append_assoc]
    have hl12:(big r.1 3++(big r.2.1 2++(big r.2.2.1 1++(big (r.2.2.2.1.size:Int) 1++(bytesOf r.2.2.2.1++(big r.2.2.2.2.1 4++big (List.length r.2.2.2.2.2:Int) 1)))))).length=12+r.2.2.2.1.size:=by simp [J5,bytesOf_length];omega
    rw [hid,hdl,List.drop_take,Nat.add_sub_cancel_left,e12,← hl12,List.drop_left,List.take_left]
  unfold recAt
  rw [b0,b3,b5,b7,t1,t2,C34]
theorem B4u{r:F7}(h:B1I r):C7 (U6 r)=(r,true,()):=by
  have hpb:=C5H h
  obtain ⟨h1,h2,h3⟩:=D2X h.1 (big (A01 (D7K (B1H r))) 4)
  have hsz:(U6 r).size=12+r.2.2.2.1.size+List.length r.2.2.2.2.2+4:=by
    unfold U6
    rw [B0G,List.length_append,B2H,J5]
  have hg:A7h (U6 r)=true:=by
    unfold A7h
    rw [hpb,h1,h2,h3,hsz,A0 (by omega),h.1]
    simp
  unfold C7
  rw [if_pos hg,hpb,h3]
theorem D2Y{r:F7}(h:R5 r=true):(U6 r).size≤64:=by
  have hb:=A0r h
  unfold U6
  rw [B0G,List.length_append,B2H,J5]
  omega
def A1O(last:Int)(i:Nat)(s:ByteArray):Bool:=(C7 s).2.1&&decide ((C7 s).1.2.1=(i:Int))&&!decide ((C7 s).1.1<last)
def H9(last:Int)(i:Nat):List ByteArray→List F7
  | []=> []
  | s::l=>if A1O last i s=true then (C7 s).1::H9 (C7 s).1.1 (i+1) l else []
def B7(now:List ByteArray):List F7:=H9 0 0 now
def A0c:Int→List F7→Int
  | e,[]=>e
  | _,r::l=>A0c r.1 l
theorem A6K(last:Int)(i:Nat)(l:List ByteArray):(H9 last i l).length≤l.length:=by
  induction l generalizing last i with
  | nil=>exact Nat.le_refl _
  | cons s l ih=>
    simp only [H9]
    split
    · have:=ih (C7 s).1.1 (i+1);simp only [List.length_cons];omega
    · simp
theorem B4v(last:Int)(i:Nat)(l:List ByteArray):∀ r∈H9 last i l,B1I r:=by
  induction l generalizing last i with
  | nil=>intro r hr;cases hr
  | cons s l ih=>
    intro r hr
    simp only [H9] at hr
    split at hr
    · rename_i hg
      simp only [A1O,Bool.and_eq_true] at hg
      rcases List.mem_cons.1 hr with rfl | hr
      · exact B87 hg.1.1
      · exact ih _ _ r hr
    · cases hr
theorem D4j(last:Int)(i:Nat)(l:List ByteArray):last≤A0c last (H9 last i l)∧∀ r∈H9 last i l,r.1≤A0c last (H9 last i l):=by
  induction l generalizing last i with
  | nil=>exact ⟨Int.le_refl _,fun r hr=>by cases hr⟩
  | cons s l ih=>
    simp only [H9]
    split
    · rename_i hg
      obtain ⟨h1,h2⟩:=ih (C7 s).1.1 (i+1)
      simp only [A1O,Bool.and_eq_true,Bool.not_eq_true',decide_eq_false_iff_not] at hg
      have h3:=hg.2
      simp only [A0c]
      refine ⟨by omega,fun r hr=>?_⟩
      rcases List.mem_cons.1 hr with rfl | hr
      · exact h1
      · exact h2 r hr
    · exact ⟨Int.le_refl _,fun r hr=>by cases hr⟩
theorem C4D(last:Int)(i:Nat)(a b:List ByteArray)(h:(H9 last i a).length=a.length):H9 last i (a++b)=H9 last i a++H9 (A0c last (H9 last i a)) (i+a.length) b:=by
  induction a generalizing last i with
  | nil=>simp [H9,A0c]
  | cons s a ih=>
    simp only [H9,List.cons_append] at h ⊢
    split
    · rename_i hg
      rw [if_pos hg] at h
      simp only [List.length_cons,Nat.add_right_cancel_iff] at h
      rw [ih _ _ h,List.cons_append,A0c,List.length_cons]
      congr 3
      omega
    · rename_i hg
      rw [if_neg hg] at h
      simp at h
theorem C9J(last:Int)(i:Nat)(l:List ByteArray):H9 last i (l.take (H9 last i l).length)=H9 last i l:=by
  induction l generalizing last i with
  | nil=>rfl
  | cons s l ih=>
    simp only [H9]
    split
    · rename_i hg
      simp only [List.length_cons,List.take_succ_cons,H9,if_pos hg,ih]
    · rfl
theorem B4w(last:Int)(i:Nat)(l:List ByteArray)(h:∀ s,l.head? = some s→A1O last i s=false):H9 last i l = []:=by
  cases l with
  | nil=>rfl
  | cons s l=>simp only [H9,h s rfl,Bool.false_eq_true,if_false]
theorem B0L(last:Int)(i:Nat)(s:ByteArray)(l:List ByteArray):H9 last i (s::l)=bif A1O last i s then (C7 s).1::H9 (C7 s).1.1 (i+1) l else []:=by
  simp only [H9]
  cases A1O last i s<;>rfl
set_option maxRecDepth 100000 in
theorem C4E(d:I8)(h:B1J d.1):U1 d=some (B7 d.1,()):=by
  have hl:=h.1
  obtain ⟨z,e,hz⟩:=R4 (S2 J1 d) (fun l=>((d.1.length:Int)-l.2.1).toNat) (fun l=>∃ i:Nat,l.2.1=(i:Int)∧i≤d.1.length∧List.length l.2.2.1=i∧B7 d.1=l.2.2.1++H9 l.1 i (d.1.drop i))
    (fun z=>z=(B7 d.1,())) (fun l hl=>by
      obtain ⟨i,h0,h1,h2,h3⟩:=hl
      simp only [S2]
      by_cases hi:i<d.1.length
      · rw [h0,A0 (show (i:Int)<(d.1.length:Int) by omega),A0 (show (0:Int)≤(i:Int) by omega)]
        simp only [cond_true]
        rw [A5B _ (A7l h hi)]
        simp only [A3]
        rw [A3T hi]
        have hdrop:d.1.drop i=d.1[i]::d.1.drop (i+1):=List.drop_eq_getElem_cons hi
        rw [hdrop] at h3
        rw [B0L] at h3
        simp only [A1O] at h3
        obtain ⟨g,hg⟩:∃ g,C7 d.1[i]=g:=⟨_,rfl⟩
        rw [hg] at h3 ⊢
        cases hk:g.2.1 with
        | false=>
          rw [hk] at h3
          simp only [Bool.false_and,cond_false,List.append_nil] at h3
          exact .inr ⟨_,rfl,by rw [h3]⟩
        | true=>
          rw [hk] at h3
          simp only [Bool.true_and] at h3
          simp only [Bool.not_true,cond_false]
          by_cases e1:g.1.2.1=(i:Int)
          · rw [A0 e1] at h3 ⊢
            by_cases e2:g.1.1<l.1
            · rw [A0 e2] at h3 ⊢
              simp only [Bool.not_true,Bool.and_false,cond_false,List.append_nil] at h3
              exact .inr ⟨_,rfl,by rw [h3]⟩
            · rw [A4 e2] at h3 ⊢
              simp only [Bool.not_false,Bool.and_true,cond_true,Bool.true_and] at h3
              simp only [Bool.not_true,cond_false]
              rw [A0 (by simp;omega),A0 (by simp;omega),w64 (by omega) (by omega)]
              refine .inl ⟨_,rfl,⟨i+1,by simp only;omega,by omega,by simp;omega,?_⟩,by simp only;omega⟩
              simp only
              rw [h3,List.append_assoc]
              rfl
          · rw [A4 e1] at h3 ⊢
            simp only [Bool.false_and,cond_false,List.append_nil] at h3
            exact .inr ⟨_,rfl,by rw [h3]⟩
      · rw [h0,A4 (show ¬ (i:Int)<(d.1.length:Int) by omega)]
        rw [List.drop_eq_nil_of_le (by omega)] at h3
        simp only [H9,List.append_nil] at h3
        exact .inr ⟨_,rfl,by rw [h3]⟩) (0,0,[],()) ⟨0,rfl,by omega,rfl,by simp [B7]⟩
  have e':U1 d=some z:=e
  rw [e',hz]
structure GoodS (st:A5):Prop where
  dk:A5D st.1=true
  ep:0≤st.2.1∧st.2.1≤10000
  up:G3 [] (B7 st.1.1)=some st.2.2.2
  nx:st.2.2.1=(List.length (B7 st.1.1):Int)
  le:A0c 0 (B7 st.1.1)≤st.2.1
  tl:((st.1.1.drop (B7 st.1.1).length).all fun s=>!A21 st.2.1 s)=true
theorem A4r{d:I8}(h:A5D d=true):B2L d∧d.1.length=d.2.length∧d.1.length≤200∧(∀ s∈d.1,s.size≤64)∧∀ s∈d.2,s.size≤64:=by
  simp only [A5D,Bool.and_eq_true] at h
  obtain ⟨h1,h2⟩:=h
  have h1:=of_decide_eq_true h1
  have k1:∀ s∈d.1,s.size≤64:=fun s hs=>by
    obtain ⟨i,hi,rfl⟩:=List.getElem_of_mem hs
    have:=List.all_eq_true.1 h2 i (List.mem_range.2 hi)
    simp only [Bool.and_eq_true,Bool.not_eq_true',decide_eq_false_iff_not] at this
    have h3:=this.1
    rw [A3T hi] at h3
    omega
  have k2:∀ s∈d.2,s.size≤64:=fun s hs=>by
    obtain ⟨i,hi,rfl⟩:=List.getElem_of_mem hs
    have:=List.all_eq_true.1 h2 i (List.mem_range.2 (by omega))
    simp only [Bool.and_eq_true,Bool.not_eq_true',decide_eq_false_iff_not] at this
    have h3:=this.2
    rw [A3T hi] at h3
    omega
  exact ⟨⟨⟨by omega,fun s hs=>by have:=k1 s hs;omega⟩,by omega,fun s hs=>by have:=k2 s hs;omega⟩,h1.1,h1.2,k1,k2⟩
theorem C1E{d:I8}(h1:d.1.length=d.2.length)(h2:d.1.length≤200)(h3:∀ s∈d.1,s.size≤64)(h4:∀ s∈d.2,s.size≤64):A5D d=true:=by
  simp only [A5D,Bool.and_eq_true]
  refine ⟨decide_eq_true ⟨h1,h2⟩,List.all_eq_true.2 fun i hi=>?_⟩
  have hi:=List.mem_range.1 hi
  rw [A3T hi,A3T (show i<d.2.length by omega)]
  have k1:=h3 _ (List.getElem_mem hi)
  have k2:=h4 _ (List.getElem_mem (show i<d.2.length by omega))
  rw [A4 (by omega),A4 (by omega)]
  rfl
theorem C9K(l:List F7)(h:0<l.length)(e:Int):(rd A5w l ((l.length:Int)-1)).1=A0c e l:=by
  induction l generalizing e with
  | nil=>simp at h
  | cons r l ih=>
    cases l with
    | nil=>rfl
    | cons r' l=>
      have h2:=ih (by simp) r.1
      simp only [A0c] at h2 ⊢
      rw [← h2]
      have e1:((r::r'::l).length:Int)-1=(((l.length+1):Nat):Int):=by simp only [List.length_cons];omega
      have e2:((r'::l).length:Int)-1=((l.length:Nat):Int):=by simp only [List.length_cons];omega
      rw [e1,e2,E3 (k:=A5w) (xs:=r::r'::l) (by simp),E3 (k:=A5w) (xs:=r'::l) (by simp)]
      rfl
theorem C6r(st:A5)(h:B1J st.1.1)(hb:∀ u∈st.2.2.2,Byt u.2.2.1):∃ b,D3 st=some (b,())∧A1B st=some (b,())∧(b=true↔GoodS st):=by
  obtain ⟨b,hs,hi,_⟩:=C17 st h
  refine ⟨b,hs,hi,?_⟩
  have hl:=h.1
  have hrg:=B4v 0 0 st.1.1
  have hll:=A6K 0 0 st.1.1
  have hfs:=A8B (B7 st.1.1) (by simp only [maxLen,B7];omega) hrg
  simp only [D3,A7S,B2N,C4E st.1 h,hfs,T2,A3] at hs
  have hsc:H9 0 0 st.1.1=B7 st.1.1:=rfl
  rw [hsc] at hrg hll
  cases hbd:A5D st.1 with
  | false=>
    rw [hbd] at hs
    have:b=false:=by
      simp only [Bool.not_false,cond_true] at hs
      first | (injection hs with hs;injection hs with hs;exact hs.symm) | (simp [B9] at hs;exact hs.symm)
    rw [this]
    exact ⟨fun e=>by (cases e),fun g=>by rw [g.dk] at hbd;cases hbd⟩
  | true=>
    rw [hbd] at hs
    simp only [Bool.not_true,cond_false] at hs
    by_cases he:0≤st.2.1∧st.2.1≤10000
    · rw [A0 he] at hs
      simp only [Bool.not_true,cond_false,B9] at hs
      unfold A20 at hs
      cases hf:G3 [] (B7 st.1.1) with
      | none=>
        rw [hf] at hs
        have:b=false:=by
          first | (injection hs with hs;injection hs with hs;exact hs.symm) | (simp at hs;exact hs.symm)
        rw [this]
        exact ⟨fun e=>by (cases e),fun g=>by rw [g.up] at hf;cases hf⟩
      | some us=>
        have hu:=A7k B9y hrg hf
        have hul:=hu.2.1
        rw [hf] at hs
        simp only at hs
        rw [C4A _ _ (show us.length≤maxLen by simp only [maxLen];omega)] at hs
        simp only [Bool.not_true,cond_false] at hs
        cases hsm:A0b us st.2.2.2 with
        | false=>
          rw [hsm] at hs
          have:b=false:=by
            first | (injection hs with hs;injection hs with hs;exact hs.symm) | (simp at hs;exact hs.symm)
          rw [this]
          refine ⟨fun e=>by (cases e),fun g=>?_⟩
          have:=g.up
          rw [hf] at this
          injection this with this
          rw [this,B3m] at hsm
          cases hsm
        | true=>
          have heq:=C9E (fun u hu'=>(hu.2.2 u hu').2.2.2) hb hsm
          rw [hsm] at hs
          simp only [Bool.not_true,cond_false] at hs
          by_cases hn:st.2.2.1=(List.length (B7 st.1.1):Int)
          · rw [A0 hn] at hs
            simp only [Bool.not_true,cond_false] at hs
            have htail:=C4B st h (B7 st.1.1).length hll
            rw [hn] at hs
            rw [htail] at hs
            by_cases hl0:(List.length (B7 st.1.1):Int)>0
            · rw [A0 hl0,w64 (n:=(List.length (B7 st.1.1):Int)-1) (by omega) (by omega),A0 (show (0:Int)≤(List.length (B7 st.1.1):Int)-1 by omega),A0 (show (List.length (B7 st.1.1):Int)-1<(List.length (B7 st.1.1):Int) by omega),C9K (B7 st.1.1) (by omega) 0] at hs
              simp only [cond_true] at hs
              by_cases hle:A0c 0 (B7 st.1.1)>st.2.1
              · rw [A0 hle] at hs
                have:b=false:=by
                  first | (injection hs with hs;injection hs with hs;exact hs.symm) | (simp at hs;exact hs.symm)
                rw [this]
                exact ⟨fun e=>by (cases e),fun g=>by have:=g.le;omega⟩
              · rw [A4 hle] at hs
                simp only [cond_false] at hs
                have:b=((st.1.1.drop (B7 st.1.1).length).all fun s=>!A21 st.2.1 s):=by
                  first | (injection hs with hs;injection hs with hs;exact hs.symm) | (simp at hs;exact hs.symm)
                rw [this]
                exact ⟨fun e=>⟨hbd,he,by rw [hf,heq],hn,by omega,e⟩,fun g=>g.tl⟩
            · rw [A4 hl0] at hs
              simp only [cond_false] at hs
              have:b=((st.1.1.drop (B7 st.1.1).length).all fun s=>!A21 st.2.1 s):=by
                first | (injection hs with hs;injection hs with hs;exact hs.symm) | (simp at hs;exact hs.symm)
              rw [this]
              have hnil:B7 st.1.1 = []:=List.length_eq_zero_iff.1 (by omega)
              exact ⟨fun e=>⟨hbd,he,by rw [hf,heq],hn,by rw [hnil];exact he.1,e⟩,fun g=>g.tl⟩
          · rw [A4 hn] at hs
            have:b=false:=by
              first | (injection hs with hs;injection hs with hs;exact hs.symm) | (simp at hs;exact hs.symm)
            rw [this]
            exact ⟨fun e=>by (cases e),fun g=>absurd g.nx hn⟩
    · rw [A4 he] at hs
      have:b=false:=by
        first | (injection hs with hs;injection hs with hs;exact hs.symm) | (simp [B9] at hs;exact hs.symm)
      rw [this]
      exact ⟨fun e=>by (cases e),fun g=>absurd g.ep he⟩
theorem D6L{st:A5}(h:GoodS st)(hr:Ups st.2.2.2):Rt st:=by
  obtain ⟨k1,k2,k3,k4,k5⟩:=A4r h.dk
  have:=A6K 0 0 st.1.1
  have hn:=h.nx
  exact ⟨⟨h.ep.1,h.ep.2,k2,k3,by simp only [B7] at hn;omega,st.2.2.2,hr,B3m _⟩,hr,k1⟩
theorem C1F{st:A5}(h:GoodS st):Ups st.2.2.2:=A7k B9y (B4v 0 0 st.1.1) h.up
theorem B2S:∀ (l l':List F7) (us:List TUp),G3 us (l++l')=(G3 us l).bind fun us'=>G3 us' l'
  | [],l',us=>rfl
  | r::l,l',us=>by
    simp only [List.cons_append,G3]
    cases J6 us r with
    | none=>rfl
    | some us'=>exact B2S l l' us'
theorem D2Z(l:List F7)(r:F7)(e:Int):A0c e (l ++ [r])=r.1:=by
  induction l generalizing e with
  | nil=>rfl
  | cons x l ih=>exact ih x.1
theorem B0M{st:A5}(h:GoodS st){r:F7}(hr:B1I r)(h1:r.1=st.2.1)(h2:r.2.1=st.2.2.1)(hlt:st.2.2.1<(st.1.1.length:Int)){us:List TUp}(hf:J6 st.2.2.2 r=some us) :
    GoodS (wrote st r us)∧B7 (wrote st r us).1.1=B7 st.1.1 ++ [r]:=by
  obtain ⟨k1,k2,k3,k4,k5⟩:=A4r h.dk
  have hn:=h.nx
  generalize hL:B7 st.1.1=L at *
  have hll:L.length≤st.1.1.length:=by rw [← hL];exact A6K 0 0 st.1.1
  have hlt':L.length<st.1.1.length:=by omega
  have hto:st.2.2.1.toNat=L.length:=by omega
  have hset:st.1.1.set L.length (U6 r)=st.1.1.take L.length++U6 r::st.1.1.drop (L.length+1):=by
    rw [List.set_eq_take_append_cons_drop,if_pos hlt']
  have htake:H9 0 0 (st.1.1.take L.length)=L:=by
    have:=C9J 0 0 st.1.1
    rw [show H9 0 0 st.1.1=L from hL] at this
    exact this
  have hgo:A1O (A0c 0 L) L.length (U6 r)=true:=by
    simp only [A1O,B4u hr,Bool.true_and]
    rw [h1,h2,A0 (by omega),A4 (by have:=h.le;rw [hL] at this;omega)]
    rfl
  have htl:=h.tl
  rw [hL] at htl
  have hscan:B7 (wrote st r us).1.1=L ++ [r]:=by
    show H9 0 0 (st.1.1.set st.2.2.1.toNat (U6 r))=_
    rw [hto,hset,C4D _ _ _ _ (by rw [htake,List.length_take];omega),htake]
    congr 1
    have hle:(st.1.1.take L.length).length=L.length:=by rw [List.length_take];omega
    simp only [H9,hle,Nat.zero_add,hgo,if_true,B4u hr]
    congr 1
    refine B4w _ _ _ fun s hs=>?_
    have hmem:s∈st.1.1.drop (L.length+1):=List.mem_of_mem_head? hs
    have hmem2:s∈st.1.1.drop L.length:=by
      rw [List.drop_eq_getElem_cons hlt']
      exact List.mem_cons_of_mem _ hmem
    have:=List.all_eq_true.1 htl s hmem2
    simp only [A21,Bool.not_eq_true',Bool.and_eq_false_iff,decide_eq_false_iff_not] at this
    simp only [A1O,h1]
    rcases this with h3 | h3
    · rw [h3];rfl
    · rw [A0 (show (C7 s).1.1<st.2.1 by omega)]
      simp
  have hlen:(L ++ [r]).length=L.length+1:=by simp
  refine ⟨⟨?_,h.ep,?_,?_,?_,?_⟩,hscan⟩
  · refine C1E ?_ ?_ (fun s hs=>?_) k5
    · show (st.1.1.set _ _).length=_;rw [List.length_set];exact k2
    · show (st.1.1.set _ _).length≤_;rw [List.length_set];exact k3
    · rcases List.mem_or_eq_of_mem_set hs with hs | rfl
      · exact k4 s hs
      · exact D2Y hr.1
  · have hup:=h.up
    rw [hL] at hup
    rw [hscan,B2S,hup]
    show G3 st.2.2.2 [r]=some us
    simp only [G3,hf]
  · rw [hscan,hlen]
    show st.2.2.1+1=_
    omega
  · rw [hscan,D2Z,h1]
    exact Int.le_refl _
  · rw [hscan,hlen]
    show ((st.1.1.set st.2.2.1.toNat (U6 r)).drop (L.length+1)).all _=true
    rw [hto,List.drop_set_of_lt (by omega)]
    rw [List.drop_eq_getElem_cons hlt',List.all_cons,Bool.and_eq_true] at htl
    exact htl.2
def Q2(now sure:List ByteArray)(k:List Bool):List ByteArray:=(List.range now.length).map fun i=>bif k.getD i false then now.getD i ⟨#[]⟩ else sure.getD i ⟨#[]⟩
def C1G(d:I8)(k:List Bool):I8:=(Q2 d.1 d.2 k,Q2 d.1 d.2 k)
theorem B5t(now sure:List ByteArray)(k:List Bool):(Q2 now sure k).length=now.length:=by simp [Q2]
theorem B5u{now sure:List ByteArray}{k:List Bool}(h:now.length=sure.length){i:Nat}(hi:i<now.length):(Q2 now sure k)[i]? = if k.getD i false=true then now[i]? else sure[i]?:=by
  simp only [Q2,List.getElem?_map,List.getElem?_range hi,Option.map_some]
  rw [List.getElem?_eq_getElem hi,List.getElem?_eq_getElem (show i<sure.length by omega)]
  have e1:now.getD i ⟨#[]⟩=now[i]:=by simp [List.getD,hi]
  have e2:sure.getD i ⟨#[]⟩=sure[i]'(by omega):=by simp [List.getD,show i<sure.length by omega]
  rw [e1,e2]
  by_cases hb:k.getD i false=true
  · rw [if_pos hb,hb];rfl
  · rw [if_neg hb,Bool.eq_false_iff.2 hb];rfl
def A67{α:Type}(l x:List α)(i:Nat):List α:=l.take i++x.drop i
theorem B5v{α:Type}{l x:List α}(h:l.length=x.length)(i:Nat):(A67 l x i).length=x.length:=by simp [A67];omega
theorem B5w{α:Type}{l x:List α}(h:l.length=x.length){i:Nat}(hi:i<l.length):(A67 l x i).set i l[i]=A67 l x (i+1):=by
  have hl:(l.take i).length=i:=by rw [List.length_take];omega
  unfold A67
  rw [List.drop_eq_getElem_cons (show i<x.length by omega)]
  have e:(l.take i++x[i]'(by omega)::x.drop (i+1)).set i l[i]=l.take i++(x[i]'(by omega)::x.drop (i+1)).set (i-(l.take i).length) l[i]:=List.set_append_right _ _ (by omega)
  rw [e,hl,Nat.sub_self,List.set_cons_zero,List.take_succ_eq_append_getElem hi,List.append_assoc]
  rfl
theorem C4F{α:Type}{l x:List α}(h:l.length=x.length){i:Nat}(hi:i<l.length)(he:l[i]? = x[i]?):A67 l x i=A67 l x (i+1):=by
  unfold A67
  rw [List.drop_eq_getElem_cons (show i<x.length by omega),List.take_succ_eq_append_getElem hi,List.append_assoc]
  rw [List.getElem?_eq_getElem hi,List.getElem?_eq_getElem (show i<x.length by omega)] at he
  injection he with he
  rw [he]
  rfl
theorem C1H{α:Type}{l x:List α}(h:l.length=x.length){i:Nat}(hi:i<x.length):(A67 l x i)[i]? = x[i]?:=by
  unfold A67
  rw [List.getElem?_append_right (by rw [List.length_take];omega),List.length_take,Nat.min_eq_left (by omega),Nat.sub_self,List.getElem?_drop,Nat.add_zero]
theorem B7D(d:I8)(k:List Bool)(hd:A5D d=true):R8 d k=some (C1G d k,()):=by
  obtain ⟨hS,hlen,h200,_,_⟩:=A4r hd
  have hml:=B5t d.1 d.2 k
  simp only [R8,B06,A8C d hS,B2N,hd,bO,Bool.not_true,cond_false]
  have key:=G2 (A3O k) (fun i=>((i:Int),A67 (Q2 d.1 d.2 k) d.1 i,A67 (Q2 d.1 d.2 k) d.2 i,())) d.1.length (C1G d k,()) (fun i hi=>?_) ?_
  · exact key
  · have l1:=B5v (l:=Q2 d.1 d.2 k) (x:=d.1) hml i
    have l2:=B5v (l:=Q2 d.1 d.2 k) (x:=d.2) (by omega) i
    have g1:=C1H (l:=Q2 d.1 d.2 k) (x:=d.1) hml hi
    have g2:=C1H (l:=Q2 d.1 d.2 k) (x:=d.2) (by omega) (show i<d.2.length by omega)
    have hm:=B5u (k:=k) hlen hi
    have hmi:i<(Q2 d.1 d.2 k).length:=by omega
    simp only [A3O,l1]
    rw [A0 (show (i:Int)<(d.1.length:Int) by omega)]
    have hb:(bif decide ((i:Int)<(k.length:Int)) then bif decide (0≤(i:Int)) then bif decide ((i:Int)<(k.length:Int)) then (some ((rd .bool k (i:Int)),()):Option (Bool×Unit)) else none else none else some (false,()))=some (k.getD i false,()):=by
      by_cases hik:i<k.length
      · rw [A0 (show (i:Int)<(k.length:Int) by omega),A0 (show (0:Int)≤(i:Int) by omega)]
        simp only [cond_true]
        rw [E3 (k:=.bool) hik]
        simp [List.getD,hik]
      · rw [A4 (show ¬ (i:Int)<(k.length:Int) by omega)]
        simp [List.getD,List.getElem?_eq_none (show k.length≤i by omega)]
    rw [hb]
    simp only [cond_true,bO,l2,hlen]
    rw [A0 (show (0:Int)≤(i:Int) by omega),A0 (show (i:Int)<(d.2.length:Int) by omega),w64 (by omega) (by omega)]
    have r1:rd .str (A67 (Q2 d.1 d.2 k) d.1 i) (i:Int)=d.1[i]:=by
      rw [A3T (by omega)]
      have:=g1
      rw [List.getElem?_eq_getElem (by omega),List.getElem?_eq_getElem hi] at this
      injection this
    have r2:rd .str (A67 (Q2 d.1 d.2 k) d.2 i) (i:Int)=d.2[i]:=by
      rw [A3T (by omega)]
      have:=g2
      rw [List.getElem?_eq_getElem (by omega),List.getElem?_eq_getElem (show i<d.2.length by omega)] at this
      injection this
    rw [r1,r2,Int.toNat_natCast]
    rw [List.getElem?_eq_getElem hmi,List.getElem?_eq_getElem hi,List.getElem?_eq_getElem (show i<d.2.length by omega)] at hm
    cases hkb:k.getD i false with
    | true=>
      rw [hkb,if_pos rfl] at hm
      injection hm with hm
      simp only [cond_true]
      rw [← hm,B5w (by omega) hmi,C4F (l:=Q2 d.1 d.2 k) (x:=d.1) hml hmi (by rw [List.getElem?_eq_getElem hmi,List.getElem?_eq_getElem hi,hm])]
      rfl
    | false=>
      rw [hkb,if_neg (by simp)] at hm
      injection hm with hm
      simp only [cond_true,cond_false]
      rw [← hm,B5w hml hmi,C4F (l:=Q2 d.1 d.2 k) (x:=d.2) (by omega) hmi (by rw [List.getElem?_eq_getElem hmi,List.getElem?_eq_getElem (show i<d.2.length by omega),hm])]
      rfl
  · have e1:A67 (Q2 d.1 d.2 k) d.1 d.1.length=Q2 d.1 d.2 k:=by unfold A67;rw [List.drop_length,List.append_nil,List.take_of_length_le (by omega)]
    have e2:A67 (Q2 d.1 d.2 k) d.2 d.1.length=Q2 d.1 d.2 k:=by unfold A67;rw [hlen,List.drop_length,List.append_nil,List.take_of_length_le (by omega)]
    simp only [A3O,e1,e2]
    rw [A4 (by omega)]
    rfl
end Go.Proofs.YtpdcljonclhhpaaGreat.Ev
