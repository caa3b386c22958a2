/- What the plain functions of the program and of the reference answer: laws of plain data. -/
import Derived.Test.YtpdcljonclhhpaaGreatPu
import Derived.Laws.Strings
set_option linter.unusedVariables false
set_option linter.unusedSimpArgs false
namespace Go.Proofs.YtpdcljonclhhpaaGreat.Ev
theorem w64{n:Int}(h0:-9223372036854775808≤n)(h1:n<9223372036854775808):IntKind.i64.wrap n=n:=by
  simp only [IntKind.wrap,IntKind.bits,IntKind.signed,Bool.true_and]
  simp
  split<;>omega
theorem V5{α β:Type}(f:α→Option (α⊕β))(μ:α→Nat)(I:α→Prop)(Q:β→Prop)
    (h:∀ x,I x→(∃ y,f x=some (.inl y)∧I y∧μ y<μ x)∨∃ z,f x=some (.inr z)∧Q z):∀ x,I x→∃ z,B9 f x=some z∧Q z:=by
  intro x
  generalize hn:μ x=n
  induction n using Nat.strongRecOn generalizing x with
  | ind n ih=>
    intro hx
    rw [A1X]
    rcases h x hx with ⟨y,e,hy,hl⟩ | ⟨z,e,hz⟩
    · rw [e];exact ih (μ y) (by omega) y rfl hy
    · rw [e];exact ⟨z,rfl,hz⟩
theorem D4{α β:Type}(f:α→Option (α⊕β))(s:Nat→α)(n:Nat)(z:β)(h:∀ i,i<n→f (s i)=some (.inl (s (i+1))))(he:f (s n)=some (.inr z)):B9 f (s 0)=some z:=by
  have key:∀ k i,i+k=n→B9 f (s i)=some z:=by
    intro k
    induction k with
    | zero=>intro i hi;rw [A1X,show i=n by omega,he]
    | succ k ih=>intro i hi;rw [A1X,h i (by omega)];exact ih (i+1) (by omega)
  exact key n 0 (by omega)
theorem D3n{α β:Type}(f:α→Option (α⊕β))(s:Nat→α)(n:Nat)(z:Nat→β)(go:Nat→Bool)(h:∀ i,i<n→f (s i)=if go i then some (.inl (s (i+1))) else some (.inr (z i)))(he:f (s n)=some (.inr (z n))) :
    ∃ i,i≤n∧(∀ j,j<i→go j=true)∧(i<n→go i=false)∧B9 f (s 0)=some (z i):=by
  have key:∀ k i,i+k=n→(∀ j,j<i→go j=true)→∃ i',i'≤n∧(∀ j,j<i'→go j=true)∧(i'<n→go i' = false)∧B9 f (s i)=some (z i'):=by
    intro k
    induction k with
    | zero=>
      intro i hi hg
      obtain rfl:i=n:=by omega
      exact ⟨i,Nat.le_refl _,hg,fun h=>absurd h (by omega),by rw [A1X,he]⟩
    | succ k ih=>
      intro i hi hg
      cases hgo:go i with
      | true=>
        obtain ⟨i',h1,h2,h3,h4⟩:=ih (i+1) (by omega) (fun j hj=>by
          by_cases h:j<i
          · exact hg j h
          · rw [show j=i by omega];exact hgo)
        refine ⟨i',h1,h2,h3,?_⟩
        rw [A1X,h i (by omega),if_pos hgo]
        exact h4
      | false=>
        refine ⟨i,by omega,hg,fun _=>hgo,?_⟩
        rw [A1X,h i (by omega),hgo]
        rfl
  exact key n 0 (by omega) (fun j hj=>by omega)
theorem E2W(s:ByteArray)(i:Int):0≤bt s i:=by unfold bt;omega
theorem E2X(s:ByteArray)(i:Int):bt s i<256:=by
  have:=(s.data.toList.getD i.toNat 0).toNat_lt
  unfold bt;omega
theorem E1y(s:ByteArray)(i:Int):IntKind.i64.wrap (bt s i)=bt s i:=w64 (by have:=E2W s i;omega) (by have:=E2X s i;omega)
theorem C7{k:K}{xs:List k.T}{i:Nat}(h:i<xs.length):rd k xs (i:Int)=xs[i]:=by
  unfold rd
  rw [Int.toNat_natCast]
  simp [List.getD,h]
theorem B2I{κ:IntKind}{xs:List Int}{i:Nat}(h:i<xs.length):rd (.int κ) xs (i:Int)=xs[i]:=C7 (k:=.int κ) h
theorem A5c{xs:List ByteArray}{i:Nat}(h:i<xs.length):rd .str xs (i:Int)=xs[i]:=C7 (k:=.str) h
def Byt(a:List Int):Prop:=∀ x∈a,0≤x∧x<256
theorem pe{α β:Type}(p:α×β):(p.1,p.2)=p:=rfl
theorem A0{p:Prop} [Decidable p] (h:p):decide p=true:=decide_eq_true h
theorem A3{p:Prop} [Decidable p] (h:¬ p):decide p=false:=decide_eq_false h
def Sm(N:Nat):(k:K)→k.T→Prop
  | .int _,_=>True
  | .bool,_=>True
  | .fnc _,_=>True
  | .str,s=>s.size≤N
  | .sl _ k,xs=>xs.length≤N∧∀ x∈xs,Sm N k x
  | .rs _ k,xs=>xs.length≤N∧∀ x∈xs,Sm N k x
  | .pair a b,x=>Sm N a x.1∧Sm N b x.2
theorem Sm.l{N:Nat}{a b:K}{x:(K.pair a b).T}(h:Sm N (.pair a b) x):Sm N a x.1:=h.1
theorem Sm.r{N:Nat}{a b:K}{x:(K.pair a b).T}(h:Sm N (.pair a b) x):Sm N b x.2:=h.2
theorem B4C{α β:Type}{f g:α→Option (α⊕β)}(I:α→Prop)(h:∀ x,I x→f x=g x)(hI:∀ x y,I x→f x=some (.inl y)→I y):∀ n x,I x→A6x f n x=A6x g n x
  | 0,_,_=>rfl
  | n+1,x,hx=>by
    simp only [A6x,← h x hx]
    cases e:f x with
    | none=>rfl
    | some v=>
      cases v with
      | inl y=>exact B4C I h hI n y (hI x y hx e)
      | inr z=>rfl
theorem A9A{α β:Type}{f g:α→Option (α⊕β)}(I:α→Prop)(h:∀ x,I x→f x=g x)(hI:∀ x y,I x→f x=some (.inl y)→I y){x:α}(hx:I x):B9 f x=B9 g x:=by
  cases e:B9 g x with
  | some z=>
    obtain ⟨n,hn⟩:=A5G e
    exact B3g (n:=n) (by rw [B4C I h hI n x hx];exact hn)
  | none=>
    cases e':B9 f x with
    | none=>rfl
    | some z=>
      obtain ⟨n,hn⟩:=A5G e'
      rw [B4C I h hI n x hx] at hn
      rw [B3g hn] at e
      cases e
def O4(go:Nat→Bool):Nat→Nat→Nat
  | i,0=>i
  | i,k+1=>if go i then O4 go (i+1) k else i
theorem C0C(go:Nat→Bool):∀ k i,O4 go i k≤i+k
  | 0,i=>Nat.le_refl _
  | k+1,i=>by
    simp only [O4]
    split
    · have:=C0C go k (i+1);omega
    · omega
theorem A4i(go:Nat→Bool):∀ k i,O4 go i k<i+k→go (O4 go i k)=false
  | 0,i,h=>by simp [O4] at h
  | k+1,i,h=>by
    simp only [O4] at h ⊢
    split
    · rename_i hg
      rw [if_pos hg] at h
      exact A4i go k (i+1) (by omega)
    · rename_i hg
      simpa using hg
theorem A1v{α β:Type}(f:α→Option (α⊕β))(s:Nat→α)(n:Nat)(z:Nat→β)(go:Nat→Bool)(h:∀ i,i<n→f (s i)=if go i then some (.inl (s (i+1))) else some (.inr (z i)))(he:f (s n)=some (.inr (z n))) :
    B9 f (s 0)=some (z (O4 go 0 n)):=by
  have key:∀ k i,i+k=n→B9 f (s i)=some (z (O4 go i k)):=by
    intro k
    induction k with
    | zero=>
      intro i hi
      obtain rfl:i=n:=by omega
      rw [A1X,he]
      rfl
    | succ k ih=>
      intro i hi
      rw [A1X,h i (by omega)]
      simp only [O4]
      cases go i with
      | true=>simp only [if_true];exact ih (i+1) (by omega)
      | false=>rfl
  exact key n 0 (by omega)
theorem B2p(L:Int×Unit→Option ((Int×Unit)⊕(Bool×Unit)))(n:Nat)(hn:n≤maxLen)(go:Nat→Bool)(hs:∀ i:Nat,i<n→L ((i:Int),())=bif go i then some (.inl (IntKind.i64.wrap ((i:Int)+1),())) else some (.inr (false,())))
    (he:L ((n:Int),())=some (.inr (true,()))):B9 L (0,())=some ((List.range n).all go,()):=by
  have h:=A1v L (fun i=>((i:Int),())) n (fun i=>(decide (i=n),())) go (fun i hi=>by
    rw [hs i hi,w64 (by omega) (by simp only [maxLen] at hn;omega)]
    cases go i with
    | true=>rfl
    | false=>simp only [Bool.false_eq_true,if_false,cond_false];rw [A3 (by omega)]) (by rw [he];simp)
  have h':B9 L (0,())=some (decide (O4 go 0 n=n),()):=h
  rw [h']
  have key:∀ k i,decide (O4 go i k=i+k)=((List.range k).all fun j=>go (i+j)):=by
    intro k
    induction k with
    | zero=>intro i;simp [O4]
    | succ k ih=>
      intro i
      have e:((List.range (k+1)).all fun j=>go (i+j))=(go i&&(List.range k).all fun j=>go (i+1+j)):=by
        rw [List.range_succ_eq_map,List.all_cons,List.all_map]
        simp only [Nat.add_zero]
        congr 2
        funext j
        simp only [Function.comp]
        congr 1
        omega
      rw [e,← ih (i+1)]
      by_cases hg:go i=true
      · have e1:O4 go i (k+1)=O4 go (i+1) k:=by simp only [O4];rw [if_pos hg]
        rw [Bool.eq_iff_iff,hg]
        simp only [decide_eq_true_eq,Bool.true_and,e1]
        omega
      · have e1:O4 go i (k+1)=i:=by simp only [O4];rw [if_neg hg]
        rw [Bool.eq_iff_iff]
        simp only [decide_eq_true_eq,Bool.and_eq_true,e1]
        constructor
        · intro h;omega
        · intro h;exact absurd h.1 hg
  have k0:=key n 0
  simp only [Nat.zero_add] at k0
  rw [k0]
abbrev P2:=ByteArray×List Int×Int×Int
theorem N2(a b c:Int):E1 a b c=some (decide (b≤a∧a≤c),()):=by
  simp only [E1,C4E]
  by_cases h:b≤a<;>by_cases h2:a≤c<;>simp [h,h2]
theorem L8(a b c:Int):C6 a b c=some (decide (b≤a∧a≤c),()):=N2 a b c
def C93(s:ByteArray)(i:Nat):Bool:=decide (97≤bt s i∧bt s i≤122)||decide (48≤bt s i∧bt s i≤57)
def idB(s:ByteArray):Bool:=(List.range s.size).all (C93 s)&&decide (1≤(s.size:Int)∧(s.size:Int)≤8)
theorem D3o(s:ByteArray)(h:s.size≤maxLen)(i:Nat)(hi:i<s.size):A8s E1 s ((i:Int),())=if C93 s i then some (.inl (((i+1:Nat):Int),())) else some (.inr (.inr (false,()))):=by
  have h1:((i:Int)<(s.size:Int)):=by omega
  have h2:(0:Int)≤(i:Int):=by omega
  simp only [A8s,A0 h1,A0 h2,cond_true,E1y,N2,A4]
  rw [w64 (by omega) (by simp only [maxLen] at h;omega)]
  unfold C93
  cases decide (97≤bt s i∧bt s i≤122)<;>cases decide (48≤bt s i∧bt s i≤57)<;>simp
theorem D6u(s:ByteArray)(h:s.size≤maxLen)(i:Nat)(hi:i<s.size):B1n s ((i:Int),())=if C93 s i then some (.inl (((i+1:Nat):Int),())) else some (.inr (.inr (false,()))):=by
  have h1:((i:Int)<(s.size:Int)):=by omega
  have h2:(0:Int)≤(i:Int):=by omega
  simp only [B1n,A0 h1,A0 h2,cond_true]
  rw [w64 (by omega) (by simp only [maxLen] at h;omega)]
  unfold C93
  by_cases a:bt s i≥97<;>by_cases b:bt s i≤122<;>by_cases c:bt s i≥48<;>by_cases d:bt s i≤57<;>simp [a,b,c,d]
theorem E1U{s:ByteArray}{f:Int×Unit→Option ((Int×Unit)⊕(Unit⊕(Bool×Unit)))}(hs:∀ i:Nat,i<s.size→f ((i:Int),())=if C93 s i then some (.inl (((i+1:Nat):Int),())) else some (.inr (.inr (false,()))))
    (he:f ((s.size:Int),())=some (.inr (.inl ()))) (g:Unit→Option (Bool×Unit)) (hg:g ()=some (decide (1≤(s.size:Int)∧(s.size:Int)≤8),())):B7 (B9 f (0,())) g=some (idB s,()):=by
  obtain ⟨i,h1,h2,h3,h4⟩:=D3n f (fun i=>((i:Int),())) s.size (fun i=>if i<s.size then .inr (false,()) else .inl ()) (C93 s) (fun i hi=>by
    simp only [if_pos hi];exact hs i hi) (by simp only [Nat.lt_irrefl,if_false];exact he)
  have h4':B9 f (0,())=some (if i<s.size then .inr (false,()) else .inl ()):=h4
  rw [h4']
  unfold idB
  by_cases hi:i<s.size
  · rw [if_pos hi]
    have:(List.range s.size).all (C93 s)=false:=by
      rw [List.all_eq_false]
      exact ⟨i,List.mem_range.2 hi,by simp [h3 hi]⟩
    simp [B7,this]
  · rw [if_neg hi]
    have:(List.range s.size).all (C93 s)=true:=by
      rw [List.all_eq_true]
      intro j hj
      exact h2 j (by have:=List.mem_range.1 hj;omega)
    simp only [B7,this,hg,Bool.true_and]
theorem A8A(s:ByteArray)(h:s.size≤maxLen):O0 s=some (idB s,()):=by
  simp only [O0,C07]
  exact E1U (D3o s h) (by simp [A8s]) _ (by simp only [N2,A4])
theorem B2J(s:ByteArray)(h:s.size≤maxLen):S4 s=some (idB s,()):=by
  simp only [S4,C4B]
  exact E1U (D6u s h) (by simp [B1n]) _ (by simp only [L8,A4])
def G3(c:P2):Bool:=idB c.1&&decide ((c.2.1.length:Int)≤400)&&decide (1≤c.2.2.1∧c.2.2.1≤6)&&decide (0≤c.2.2.2∧c.2.2.2≤(c.2.1.length:Int))
theorem A2l(c:P2)(h:c.1.size≤maxLen):G0 c=some (G3 c,()):=by
  simp only [G0,B1w,A8A _ h,N2,A4,G3]
  cases idB c.1<;>cases decide ((c.2.1.length:Int)≤400)<;>cases decide (1≤c.2.2.1∧c.2.2.1≤6)<;>simp
theorem A67(c:P2)(h:c.1.size≤maxLen):L5 c=some (G3 c,()):=by
  simp only [L5,B1t,B2J _ h,L8,A4,G3]
  cases idB c.1<;>cases decide ((c.2.1.length:Int)≤400)<;>cases decide (1≤c.2.2.1∧c.2.2.1≤6)<;>simp
theorem B4D{R:Type}(a:Option R):eqO a a=a:=by
  unfold eqO
  rw [if_pos rfl]
theorem A1C(a:List Int)(h:a.length≤140737488355328):C4 a=some (a,()):=by
  simp only [C4,Z1]
  have e:(bif decide (([]:List Int).length+a.length≤9223372036854775807) then bif decide ((([]:List Int).length+a.length)*1≤140737488355328) then some (([]++a),()) else none else none)=some (a,()):=by
    rw [A0 (by simp;omega),A0 (by simp;omega)]
    simp
  rw [e]
  cases a with
  | nil=>simp [B4D]
  | cons x xs=>simp
def A2m(c:P2):Bool:=decide (c.2.2.1=5)||decide (c.2.2.1=6)
theorem B7U(c:P2):A1n c=some (A2m c,()):=by
  simp only [A1n,B42,A2m]
  cases decide (c.2.2.1=5)<;>simp
theorem C0D(c:P2):J9 c=some (A2m c,c,()):=by
  simp only [J9,A4Z,A2m]
  cases decide (c.2.2.1=5)<;>simp
theorem B7V(c:P2)(h2:c.2.1.length≤140737488355328):M0 c=some (c,()):=by
  simp only [M0,B45]
  rw [A0 (by simp;omega),A0 (by simp;omega)]
  simp
theorem A9z(c:P2)(h2:c.2.1.length≤140737488355328):L2 c=some (c,()):=by
  simp only [L2,A83,A1C _ h2,A4]
def C4I(n:Int)(k j:Nat):Int:=IntKind.u8.wrap (n.fdiv (2 ^ (8*(k-1-j))))
def big(n:Int)(k:Nat):List Int:=(List.range k).map (C4I n k)
theorem K0(n:Int)(k:Nat):(big n k).length=k:=by simp [big]
theorem E34{n:Int}(h0:0≤n)(h1:n<18446744073709551616):IntKind.u64.wrap n=n:=by
  simp only [IntKind.wrap,IntKind.bits,IntKind.signed]
  simp
  omega
theorem D5u(v:Int)(b:List Int)(k:Nat)(hk:k≤8)(hb:b.length+8≤140737488355328):B9 (A0g (v,())) ((k:Int)-1,b,())=some (b++big v k,()):=by
  have key:=D4 (A0g (v,())) (fun j=>((k:Int)-1-(j:Int),b++(List.range j).map (C4I v k),())) k (b++big v k,()) (fun j hj=>?_) ?_
  · simpa using key
  · have h1:(k:Int)-1-(j:Int)≥0:=by omega
    have e1:(k:Int)-1-(j:Int)=((k-1-j:Nat):Int):=by omega
    have hs:IntKind.u64.wrap (IntKind.i64.wrap (8*((k:Int)-1-(j:Int))))=((8*(k-1-j):Nat):Int):=by
      rw [w64 (by omega) (by omega),E34 (by omega) (by omega)]
      omega
    have hm:min (8*(k-1-j)) IntKind.i64.bits=8*(k-1-j):=Nat.min_eq_left (by simp only [IntKind.bits];omega)
    simp only [A0g,A0 h1,cond_true,hs,Int.toNat_natCast,hm]
    rw [A3 (by omega)]
    simp only [cond_false]
    have hl:(b++(List.range j).map (C4I v k)).length=b.length+j:=by simp
    rw [A0 (by rw [hl];simp;omega),A0 (by rw [hl];simp;omega)]
    simp only [cond_true]
    rw [w64 (by omega) (by omega),List.range_succ,List.map_append,List.append_assoc]
    have e2:(k:Int)-1-(j:Int)-1=(k:Int)-1-((j+1:Nat):Int):=by omega
    rw [e2]
    rfl
  · have h1:¬ ((k:Int)-1-(k:Int)≥0):=by omega
    simp only [A0g,A3 h1,cond_false]
    rfl
def A0L(n:Int):Int:=if n<0 then 0 else n
theorem A1w(b:List Int)(n:Int)(k:Nat)(h1:1≤k)(hk:k≤8)(hb:b.length+8≤140737488355328):A7v b n (k:Int)=some (b++big (A0L n) k,()):=by
  simp only [A7v,B7K]
  rw [A0 (by simp;omega),A0 (by simp;omega)]
  have e:(bif decide (n<0) then some ((0:Int),()) else some (n,()))=some (A0L n,()):=by
    unfold A0L
    by_cases h:n<0<;>simp [h]
  simp only [cond_true,e,A4,N2]
  rw [A0 (by omega)]
  simp only [Bool.not_true,cond_false,List.nil_append]
  rw [w64 (by omega) (by omega)]
  exact D5u _ b k hk hb
theorem A9B(b:List Int)(n:Int)(k:Nat)(hk:k≤8)(hb:b.length+8≤140737488355328):A7o b n (k:Int)=some (b++big (A0L n) k,()):=by
  simp only [A7o,B7C]
  have e:B1o n=A0g (A0L n,()):=by
    funext l
    have:(bif decide (0>n) then (0:Int) else n)=A0L n:=by
      unfold A0L
      by_cases h:n<0<;>simp [h]
    simp only [B1o,A0g,this]
  rw [e,w64 (by omega) (by omega)]
  exact D5u _ b k hk hb
theorem C0E{n:Nat}(h:n<9223372036854775808):IntKind.i64.wrap (n:Int)=(n:Int):=w64 (by omega) (by omega)
theorem E1z{n:Nat}(h:n<4294967296):IntKind.u32.wrap (n:Int)=(n:Int):=by
  simp only [IntKind.wrap,IntKind.bits,IntKind.signed]
  simp
  omega
theorem bits_nat{w x:Nat}(h:x<2 ^ w):(BitVec.ofInt w (x:Int)).toNat=x:=by
  rw [BitVec.ofInt_natCast,BitVec.toNat_ofNat]
  exact Nat.mod_eq_of_lt h
theorem C4J{x y:Nat}(hx:x<4294967296)(hy:y<4294967296):C2U .i64 (x:Int) (y:Int)=((x ^^^ y:Nat):Int):=by
  have h:x ^^^ y<2 ^ 32:=Nat.xor_lt_two_pow (by omega) (by omega)
  unfold C2U
  rw [BitVec.toNat_xor,bits_nat (by simp only [IntKind.bits];omega),bits_nat (by simp only [IntKind.bits];omega)]
  exact C0E (by omega)
theorem C4K{x y:Nat}(hx:x<4294967296)(hy:y<4294967296):C2U .u32 (x:Int) (y:Int)=((x ^^^ y:Nat):Int):=by
  have h:x ^^^ y<2 ^ 32:=Nat.xor_lt_two_pow (by omega) (by omega)
  unfold C2U
  rw [BitVec.toNat_xor,bits_nat (by simp only [IntKind.bits];omega),bits_nat (by simp only [IntKind.bits];omega)]
  exact E1z (by omega)
theorem D92{x y:Nat}(hx:x<4294967296)(hy:y<4294967296):C03 .i64 (x:Int) (y:Int)=((x &&& y:Nat):Int):=by
  have h:x &&& y<2 ^ 32:=Nat.and_lt_two_pow _ (by omega)
  unfold C03
  rw [BitVec.toNat_and,bits_nat (by simp only [IntKind.bits];omega),bits_nat (by simp only [IntKind.bits];omega)]
  exact C0E (by omega)
theorem D93{x y:Nat}(hx:x<4294967296)(hy:y<4294967296):C03 .u32 (x:Int) (y:Int)=((x &&& y:Nat):Int):=by
  have h:x &&& y<2 ^ 32:=Nat.and_lt_two_pow _ (by omega)
  unfold C03
  rw [BitVec.toNat_and,bits_nat (by simp only [IntKind.bits];omega),bits_nat (by simp only [IntKind.bits];omega)]
  exact E1z (by omega)
def B8N(c:Nat):Nat:=if c &&& 1=1 then (c / 2) ^^^ 2197175160 else c / 2
def C0F(c:Nat):Nat→Nat
  | 0=>c
  | i+1=>B8N (C0F c i)
theorem D3p{c:Nat}(h:c<4294967296):B8N c<4294967296:=by
  unfold B8N
  split
  · have:(c / 2) ^^^ 2197175160<2 ^ 32:=Nat.xor_lt_two_pow (by omega) (by omega)
    omega
  · omega
theorem C3Q{c:Nat}(h:c<4294967296):∀ i,C0F c i<4294967296
  | 0=>h
  | i+1=>D3p (C3Q h i)
theorem half(c:Nat):((c:Int)).fdiv 2=((c / 2:Nat):Int):=by
  rw [Int.fdiv_eq_ediv_of_nonneg _ (by omega)]
  omega
def A6R(a:List Int):Nat:=a.foldl (fun c x=>C0F (c ^^^ x.toNat) 8) 4294967295
theorem E0k(a:List Int)(ha:Byt a):∀ c,c<4294967296→a.foldl (fun c x=>C0F (c ^^^ x.toNat) 8) c<4294967296:=by
  induction a with
  | nil=>intro c h;exact h
  | cons x a ih=>
    intro c h
    have hx:=ha x (by simp)
    refine ih (fun y hy=>ha y (by simp [hy])) _ (C3Q ?_ 8)
    have:c ^^^ x.toNat<2 ^ 32:=Nat.xor_lt_two_pow (by omega) (by omega)
    omega
theorem A2n{a:List Int}(h:Byt a)(i:Nat):Byt (a.take i):=fun x hx=>h x (List.mem_of_mem_take hx)
theorem A9C{a:List Int}(h:Byt a):A6R a<4294967296:=E0k a h _ (by omega)
theorem C84{a:List Int}{i:Nat}(hi:i<a.length):A6R (a.take (i+1))=C0F (A6R (a.take i) ^^^ a[i].toNat) 8:=by
  unfold A6R
  rw [List.take_succ_eq_append_getElem hi,List.foldl_append]
  rfl
theorem E0l(l0:Int×Int×Unit)(c:Nat)(h:c<4294967296):B9 (B5W l0) ((c:Int),0,())=some (.inl ((C0F c 8:Int),IntKind.i64.wrap (l0.2.1+1),())):=by
  refine D4 (B5W l0) (fun i=>((C0F c i:Int),(i:Int),())) 8 _ (fun i hi=>?_) ?_
  · have hl:=C3Q h i
    have h1:(i:Int)<8:=by omega
    simp only [B5W,A0 h1,cond_true,half]
    rw [show (1:Int)=((1:Nat):Int) from rfl,D92 hl (by omega),show (2197175160:Int)=((2197175160:Nat):Int) from rfl,C4J (by omega) (by omega)]
    rw [show ((i:Int)+((1:Nat):Int))=((i+1:Nat):Int) by omega,C0E (by omega)]
    simp only [C0F,B8N]
    by_cases hb:C0F c i &&& 1=1
    · rw [A0 (by rw [hb]),if_pos hb];rfl
    · rw [A3 (by omega),if_neg hb];rfl
  · rfl
theorem C4L(a:List Int)(ha:Byt a)(h:a.length≤maxLen):A7A a=some (((A6R a ^^^ 4294967295:Nat):Int),()):=by
  simp only [A7A,C92]
  have key:=D4 (B0Y a) (fun i=>((A6R (a.take i):Int),(i:Int),())) a.length ((A6R a:Int),()) (fun i hi=>?_) ?_
  · have e:B9 (B0Y a) (4294967295,0,())=some ((A6R a:Int),()):=key
    rw [e]
    simp only [A4]
    rw [show (4294967295:Int)=((4294967295:Nat):Int) from rfl,C4J (A9C ha) (by omega)]
  · have h1:((i:Int)<(a.length:Int)):=by omega
    have h2:(0:Int)≤(i:Int):=by omega
    have hx:=ha a[i] (List.getElem_mem hi)
    have hc:=A9C (A2n ha i)
    simp only [B0Y,A0 h1,A0 h2,cond_true,B2I hi]
    have hxor:A6R (a.take i) ^^^ a[i].toNat<2 ^ 32:=Nat.xor_lt_two_pow (by omega) (by omega)
    rw [w64 (by omega) (by omega),show a[i]=((a[i].toNat:Nat):Int) by omega,C4J hc (by omega)]
    rw [E0l _ _ (by omega)]
    simp only
    rw [show ((i:Int)+1)=((i+1:Nat):Int) by omega,C0E (by simp only [maxLen] at h;omega),C84 hi]
  · simp [B0Y]
theorem E0m(l0:Int×Int×Unit)(c:Nat)(h:c<4294967296):B9 (B5U l0) ((c:Int),0,())=some (.inl ((C0F c 8:Int),IntKind.i64.wrap (l0.2.1+1),())):=by
  refine D4 (B5U l0) (fun i=>((C0F c i:Int),(i:Int),())) 8 _ (fun i hi=>?_) ?_
  · have hl:=C3Q h i
    have h1:(i:Int)<8:=by omega
    simp only [B5U,A0 h1,cond_true,half]
    rw [show (1:Int)=((1:Nat):Int) from rfl,D93 hl (by omega),show (2197175160:Int)=((2197175160:Nat):Int) from rfl,C4K (by omega) (by omega)]
    rw [show ((i:Int)+((1:Nat):Int))=((i+1:Nat):Int) by omega,C0E (by omega)]
    simp only [C0F,B8N]
    by_cases hb:C0F c i &&& 1=1
    · rw [A0 (by rw [hb]),if_pos hb];rfl
    · rw [A3 (by omega),if_neg hb];rfl
  · rfl
theorem C4M(a:List Int)(ha:Byt a)(h:a.length≤maxLen):A78 a=some (((A6R a ^^^ 4294967295:Nat):Int),()):=by
  simp only [A78,C91]
  have key:=D4 (B0W a) (fun i=>((A6R (a.take i):Int),(i:Int),())) a.length ((A6R a:Int),()) (fun i hi=>?_) ?_
  · have e:B9 (B0W a) (4294967295,0,())=some ((A6R a:Int),()):=key
    rw [e]
    simp only [A4]
    have hm:IntKind.u32.max=((4294967295:Nat):Int):=rfl
    have hxor:A6R a ^^^ 4294967295<2 ^ 32:=Nat.xor_lt_two_pow (by have:=A9C ha;omega) (by omega)
    rw [hm,C4K (by omega) (A9C ha),Nat.xor_comm,C0E (by omega)]
  · have h1:((i:Int)<(a.length:Int)):=by omega
    have h2:(0:Int)≤(i:Int):=by omega
    have hx:=ha a[i] (List.getElem_mem hi)
    have hc:=A9C (A2n ha i)
    simp only [B0W,A0 h1,A0 h2,cond_true,B2I hi]
    have hxor:A6R (a.take i) ^^^ a[i].toNat<2 ^ 32:=Nat.xor_lt_two_pow (by omega) (by omega)
    rw [show a[i]=((a[i].toNat:Nat):Int) by omega,E1z (by omega),C4K hc (by omega)]
    rw [E0m _ _ (by omega)]
    simp only
    rw [show ((i:Int)+1)=((i+1:Nat):Int) by omega,C0E (by simp only [maxLen] at h;omega),C84 hi]
  · simp [B0W]
abbrev Req:=Int×ByteArray×Int
def C1U:Req×List Int×Bool×Unit:=((0,⟨#[]⟩,0),[],false,())
def H9(c:P2):Req×List Int×Bool×Unit:=
  if G3 c=false then C1U
  else if c.2.2.1=1 then ((1,c.1,(c.2.1.length:Int)),[],true,())
  else if c.2.2.1=2 then ((2,c.1,0),[],true,())
  else if c.2.2.1=3 then ((3,c.1,c.2.2.2),(c.2.1.take (min (c.2.2.2.toNat+24) c.2.1.length)).drop c.2.2.2.toNat,true,())
  else if c.2.2.1=4 then ((4,c.1,((A6R c.2.1 ^^^ 4294967295:Nat):Int)),[],true,())
  else C1U
theorem D3q{c:P2}(h:G3 c=true):c.2.1.length≤400∧1≤c.2.2.1∧c.2.2.1≤6∧0≤c.2.2.2∧c.2.2.2≤(c.2.1.length:Int):=by
  simp only [G3,Bool.and_eq_true,decide_eq_true_eq] at h
  omega
theorem B4E(c:P2):(H9 c).2.1.length≤c.2.1.length:=by
  unfold H9 C1U
  repeat' split
  all_goals simp
  omega
theorem C94(c:P2)(h:c.1.size≤maxLen)(hb:Byt c.2.1):A6Q c=some (H9 c):=by
  simp only [A6Q,B4A,A67 c h,C0D,A4,H9]
  cases hk:G3 c with
  | false=>rfl
  | true=>
    obtain ⟨h1,h2,h3,h4,h5⟩:=D3q hk
    simp only [Bool.not_true,cond_false,Bool.true_eq_false,if_false]
    cases ho:A2m c with
    | true=>
      simp only [A2m,Bool.or_eq_true,decide_eq_true_eq] at ho
      rw [if_neg (by omega),if_neg (by omega),if_neg (by omega),if_neg (by omega)]
      rfl
    | false=>
      simp only [A2m,Bool.or_eq_false_iff,decide_eq_false_iff_not] at ho
      simp only [cond_false,B7]
      by_cases e1:c.2.2.1=1
      · rw [A0 e1,if_pos e1];rfl
      rw [A3 e1,if_neg e1]
      by_cases e2:c.2.2.1=2
      · rw [A0 e2,if_pos e2];rfl
      rw [A3 e2,if_neg e2]
      by_cases e3:c.2.2.1=3
      · rw [A0 e3,if_pos e3,w64 (by omega) (by omega)]
        simp only [cond_true,cond_false]
        have hm:(bif decide ((c.2.1.length:Int)<c.2.2.2+24) then (c.2.1.length:Int) else c.2.2.2+24)=((min (c.2.2.2.toNat+24) c.2.1.length:Nat):Int):=by
          by_cases hc:(c.2.1.length:Int)<c.2.2.2+24
          · rw [A0 hc];simp only [cond_true];omega
          · rw [A3 hc];simp only [cond_false];omega
        rw [hm,A0 h4,A0 (by omega),A0 (by omega),Int.toNat_natCast]
        simp only [cond_true]
        rw [A1C _ (by simp;omega)]
      rw [A3 e3,if_neg e3]
      have e4:c.2.2.1=4:=by omega
      rw [if_pos e4]
      simp only [cond_false]
      rw [C4M _ hb (by simp only [maxLen];omega)]
theorem B8O(c:P2)(h:c.1.size≤maxLen)(hb:Byt c.2.1):A6K c=some (H9 c):=by
  simp only [A6K,B3z,A2l c h,A4,H9]
  cases hk:G3 c with
  | false=>rfl
  | true=>
    obtain ⟨h1,h2,h3,h4,h5⟩:=D3q hk
    simp only [Bool.not_true,cond_false,Bool.true_eq_false,if_false]
    by_cases e1:c.2.2.1=1
    · rw [A0 e1,if_pos e1];rfl
    rw [A3 e1,if_neg e1]
    by_cases e2:c.2.2.1=2
    · rw [A0 e2,if_pos e2];rfl
    rw [A3 e2,if_neg e2]
    by_cases e3:c.2.2.1=3
    · rw [A0 e3,if_pos e3,w64 (by omega) (by omega)]
      simp only [cond_true,cond_false]
      have hm:(bif decide (c.2.2.2+24>(c.2.1.length:Int)) then some ((c.2.1.length:Int),()) else some (c.2.2.2+24,()))=some (((min (c.2.2.2.toNat+24) c.2.1.length:Nat):Int),()):=by
        by_cases hc:c.2.2.2+24>(c.2.1.length:Int)
        · rw [A0 hc];simp only [cond_true];congr 2;omega
        · rw [A3 hc];simp only [cond_false];congr 2;omega
      rw [hm]
      simp only
      rw [A0 h4,A0 (by omega),A0 (by omega),Int.toNat_natCast]
      simp only [cond_true]
      rw [A0 (by simp;omega),A0 (by simp;omega)]
      simp
    rw [A3 e3,if_neg e3]
    by_cases e4:c.2.2.1=4
    · rw [A0 e4,if_pos e4]
      simp only [cond_true,cond_false]
      rw [C4L _ hb (by simp only [maxLen];omega)]
    · rw [A3 e4,if_neg e4];rfl
abbrev D0w:=Int×Int
def T4(r:D0w):Bool:=decide (100≤r.1∧r.1≤599)&&decide (-1≤r.2∧r.2≤1000000000)
theorem A9D(r:D0w):R2 r=some (T4 r,()):=by
  simp only [R2,B7Q,N2,A4,T4]
  cases decide (100≤r.1∧r.1≤599)<;>simp
theorem B4F(r:D0w):V8 r=some (T4 r,()):=by
  simp only [V8,B7A,L8,A4,T4]
  cases decide (100≤r.1∧r.1≤599)<;>simp
def far(c:P2)(off:Int):P2:=if 0≤off∧off≤(c.2.1.length:Int) then (if off=(c.2.1.length:Int) then (c.1,c.2.1,4,off) else (c.1,c.2.1,3,off)) else (c.1,c.2.1,6,c.2.2.2)
theorem D6v(c:P2)(off:Int):A7z c off=some (far c off,()):=by
  simp only [A7z,B7O,N2,A4,far]
  by_cases h:0≤off∧off≤(c.2.1.length:Int)
  · rw [A0 h,if_pos h]
    by_cases h2:off=(c.2.1.length:Int)<;>simp [h2]
  · rw [A3 h,if_neg h];rfl
theorem D6w(c:P2)(off:Int):Y7 c off=some (far c off,()):=by
  simp only [Y7,A4d,L8,A4,far]
  by_cases h:0≤off∧off≤(c.2.1.length:Int)
  · rw [A0 h,if_pos h]
    by_cases h2:off=(c.2.1.length:Int)<;>simp [h2]
  · rw [A3 h,if_neg h];rfl
def A1x(step status:Int):Int:=
  if status=507 then (if step=2 then 6 else step)
  else if status=404 then (if step=1 then 6 else 1)
  else if status=409 then (if step=3 then 0 else if step=2 then 6 else 2)
  else if status=201 then (if step=1 then 0 else 6)
  else if status=204 then (if step=3 then 0 else 6)
  else if status=200 then (if step=2 then 0 else if step=4 then 5 else 6)
  else 6
theorem D3r(a b:Int):A6L a b=some (A1x a b,()):=by
  simp only [A6L,B43,A1x]
  by_cases h1:b=507
  · by_cases h:a=2<;>simp [h1,h]
  by_cases h2:b=404
  · by_cases h:a=1<;>simp [h2,h]
  by_cases h3:b=409
  · by_cases h:a=3
    · simp [h3,h]
    · by_cases h':a=2<;>simp [h3,h,h']
  by_cases h4:b=201
  · by_cases h:a=1<;>simp [h4,h]
  by_cases h5:b=204
  · by_cases h:a=3<;>simp [h5,h]
  by_cases h6:b=200
  · by_cases h:a=2
    · simp [h6,h]
    · by_cases h':a=4<;>simp [h6,h,h']
  simp [h1,h2,h3,h4,h5,h6]
def hear(c:P2)(r:D0w):P2:=if A1x c.2.2.1 r.1=0 then far c r.2 else (c.1,c.2.1,A1x c.2.2.1 r.1,c.2.2.2)
theorem C4N(c:P2)(r:D0w):A6M c r=some (hear c r,()):=by
  simp only [A6M,B44,D3r,D6v,A4,hear]
  by_cases h:A1x c.2.2.1 r.1=0<;>simp [h]
theorem D6x(c:P2)(r:D0w)(h:c.2.2.1=1∨c.2.2.1=2∨c.2.2.1=3∨c.2.2.1=4):A0y c r=some (hear c r,()):=by
  have hc:c=(c.1,c.2.1,c.2.2.1,c.2.2.2):=rfl
  simp only [A0y,A6p,D6w,hear,A1x]
  by_cases h1:r.1=507
  · rcases h with h | h | h | h<;>simp [h1,h,A4]
    all_goals (rw [← h])
  by_cases h2:r.1=404
  · rcases h with h | h | h | h<;>simp [h2,h,A4]
  by_cases h3:r.1=409
  · rcases h with h | h | h | h<;>simp [h3,h,A4]
  by_cases h4:r.1=201
  · rcases h with h | h | h | h<;>simp [h4,h,A4]
  by_cases h5:r.1=204
  · rcases h with h | h | h | h<;>simp [h5,h,A4]
  by_cases h6:r.1=200
  · rcases h with h | h | h | h<;>simp [h6,h,A4]
  rcases h with h | h | h | h<;>simp [h1,h2,h3,h4,h5,h6,h,A4]
def A2o(c:P2)(r:D0w):P2:=if G3 c&&T4 r&&!A2m c then hear c r else c
theorem C6k(c:P2)(r:D0w)(h:c.1.size≤maxLen)(h2:c.2.1.length≤140737488355328):A4e c r=some (A2o c r,()):=by
  simp only [A4e,B2A,A9z _ h2,A67 _ h,B4F,C0D,A4,A2o]
  cases hk:G3 c with
  | false=>simp
  | true=>
    cases T4 r with
    | false=>simp
    | true=>
      cases ho:A2m c with
      | true=>simp
      | false=>
        obtain ⟨_,h4,h5,_,_⟩:=D3q hk
        simp only [A2m,Bool.or_eq_false_iff,decide_eq_false_iff_not] at ho
        simp only [Bool.not_true,cond_false]
        rw [D6x c r (by omega)]
        simp
theorem C95{N:Nat}{w:A5}(h:Sm N A0b w):Sm N (.sl 0 B2) w.2.1:=Sm.l (Sm.r h)
theorem C96{N:Nat}{w:A5}(h:Sm N A0b w):Sm N (.sl 0 kUp) w.1.1.2.2.2:=Sm.r (Sm.r (Sm.r (Sm.l (Sm.l h))))
def B8P(us:List TUp)(id:ByteArray):Nat:=O4 (fun i=>!((rd kUp us (i:Int)).1.toList == id.toList)) 0 us.length
def E2Y:TUp×Bool×Unit:=((⟨#[]⟩,0,[],false),false,())
def C97(st:A7)(id:ByteArray):TUp×Bool×Unit:=if B8P st.2.2.2 id<st.2.2.2.length then (rd kUp st.2.2.2 (B8P st.2.2.2 id:Int),true,()) else E2Y
theorem D0x(us:List TUp)(id:ByteArray)(h:us.length≤maxLen):P5 us id=some (if B8P us id<us.length then (B8P us id:Int) else -1,()):=by
  simp only [P5,C09]
  refine A1v (A8v us id) (fun i=>((i:Int),())) us.length (fun i=>(if i<us.length then (i:Int) else -1,())) (fun i=>!((rd kUp us (i:Int)).1.toList == id.toList)) (fun i hi=>?_) ?_
  · have h1:((i:Int)<(us.length:Int)):=by omega
    have h2:(0:Int)≤(i:Int):=by omega
    simp only [A8v,A0 h1,A0 h2,cond_true,if_pos hi]
    rw [w64 (by omega) (by simp only [maxLen] at h;omega)]
    cases ((rd kUp us (i:Int)).1.toList == id.toList)<;>simp
  · simp [A8v]
theorem E0n{us:List TUp}{N:Nat}(h:Sm N (.sl 0 kUp) us){i:Nat}(hi:i<us.length):Sm N kUp (rd kUp us (i:Int)):=by
  rw [C7 (k:=kUp) (xs:=us) hi]
  exact h.2 _ (List.getElem_mem hi)
theorem D6y(u:TUp)(h:Sm 1048576 kUp u):T7 u=some (u,()):=by
  have hd:List.length u.2.2.1≤1048576:=(Sm.l (Sm.r (Sm.r h))).1
  simp only [T7,B1j,A1C _ (show List.length u.2.2.1≤140737488355328 by omega),A4]
theorem C0G(st:A7)(id:ByteArray)(h:Sm 1048576 (.sl 0 kUp) st.2.2.2):A0s st id=some (C97 st id):=by
  have hl:st.2.2.2.length≤1048576:=h.1
  simp only [A0s,C48]
  have e:=A1v (A7l T7 st id) (fun i=>((i:Int),())) st.2.2.2.length (fun i=>if i<st.2.2.2.length then .inr (rd kUp st.2.2.2 (i:Int),true,()) else .inl ()) (fun i=>!((rd kUp st.2.2.2 (i:Int)).1.toList == id.toList)) (fun i hi=>?_) ?_
  · have e':B9 (A7l T7 st id) (0,())=_:=e
    rw [e']
    simp only [C97]
    by_cases hi:B8P st.2.2.2 id<st.2.2.2.length
    · rw [if_pos hi]
      have hi':O4 (fun i=>!((rd kUp st.2.2.2 (i:Int)).1.toList == id.toList)) 0 st.2.2.2.length<st.2.2.2.length:=hi
      rw [if_pos hi']
      rfl
    · rw [if_neg hi]
      have hi':¬ O4 (fun i=>!((rd kUp st.2.2.2 (i:Int)).1.toList == id.toList)) 0 st.2.2.2.length<st.2.2.2.length:=hi
      rw [if_neg hi']
      rfl
  · have h1:((i:Int)<(st.2.2.2.length:Int)):=by omega
    have h2:(0:Int)≤(i:Int):=by omega
    simp only [A7l,A0 h1,A0 h2,cond_true,if_pos hi]
    rw [w64 (by omega) (by omega),D6y _ (E0n h hi)]
    cases ((rd kUp st.2.2.2 (i:Int)).1.toList == id.toList)<;>simp [A4]
  · simp [A7l]
def A6S(w:A5)(i:Nat):TUp×Bool×Unit:=C97 w.1.1 (rd B2 w.2.1 (i:Int)).1
def C0H(w:A5)(i:Nat):Int:=rd (.int .i64) w.2.2.2.2.2 (i:Int)
def nl(w:A5)(i:Nat):Bool:=decide (C0H w i=-1)||((A6S w i).2.1&&!decide ((List.length (A6S w i).1.2.2.1:Int)<C0H w i))
theorem C98(w:A5)(h:Sm 1048576 A0b w):A6H w=some ((List.range w.2.1.length).all (fun i=>if w.2.2.2.2.2.length≤i then true else nl w i),()):=by
  have hl:w.2.1.length≤1048576:=(C95 h).1
  refine B2p (A5p A0s w) _ (by simp only [maxLen];omega) _ (fun i hi=>?_) (by simp [A5p])
  have h1:((i:Int)<(w.2.1.length:Int)):=by omega
  have h2:(0:Int)≤(i:Int):=by omega
  simp only [A5p,A0 h1,A0 h2,cond_true]
  by_cases h3:w.2.2.2.2.2.length≤i
  · rw [A0 (by omega),if_pos h3]
    rfl
  · rw [A3 (show ¬ ((i:Int)≥(w.2.2.2.2.2.length:Int)) by omega),if_neg h3]
    have h4:((i:Int)<(w.2.2.2.2.2.length:Int)):=by omega
    simp only [A0 h4,cond_true,cond_false]
    rw [C0G _ _ (C96 h)]
    show B7 (bif (decide (C0H w i=-1)) then _ else _) (fun m1=>A4 (some (A6S w i)) _)=_
    simp only [A4,nl]
    by_cases ht:C0H w i=-1
    · simp [ht,B7]
    · by_cases hu:(A6S w i).2.1=true
      · by_cases hd:(List.length (A6S w i).1.2.2.1:Int)<C0H w i
        · have hd':(List.length (A6S w i).1.2.2.1:Int)<rd (.int .i64) w.2.2.2.2.2 (i:Int):=hd
          simp [ht,hu,hd,hd',B7]
        · have hd':¬ (List.length (A6S w i).1.2.2.1:Int)<rd (.int .i64) w.2.2.2.2.2 (i:Int):=hd
          simp [ht,hu,hd,hd',B7]
      · simp [ht,hu,B7]
def en(w:A5)(i:Nat):Bool:=!decide ((rd B2 w.2.1 (i:Int)).2.2.1=5)||((A6S w i).2.1&&((A6S w i).1.2.2.2&&((strOf (A6S w i).1.2.2.1).toList == (strOf (rd B2 w.2.1 (i:Int)).2.1).toList)))
theorem D6z(w:A5)(h:Sm 1048576 A0b w):B3r w=some ((List.range w.2.1.length).all (en w),()):=by
  have hl:w.2.1.length≤1048576:=(C95 h).1
  refine B2p (B1l M3 A0s w) _ (by simp only [maxLen];omega) (en w) (fun i hi=>?_) (by simp [B1l])
  have h1:((i:Int)<(w.2.1.length:Int)):=by omega
  have h2:(0:Int)≤(i:Int):=by omega
  simp only [B1l,A0 h1,A0 h2,cond_true]
  rw [C0G _ _ (C96 h)]
  show A4 (some (A6S w i)) _=_
  simp only [A4,en,M3,A2Y]
  cases decide ((rd B2 w.2.1 (i:Int)).2.2.1=5)<;>cases (A6S w i).2.1<;>cases (A6S w i).1.2.2.2<;>cases ((strOf (A6S w i).1.2.2.1).toList == (strOf (rd B2 w.2.1 (i:Int)).2.1).toList)<;>simp
def beg(a b:List Int):Bool:=decide (a.length≤b.length)&&(List.range a.length).all fun i=>decide (rd (.int .u8) a (i:Int)=rd (.int .u8) b (i:Int))
theorem D94{x y:Int}(hx:0≤x∧x<256)(hy:0≤y∧y<256)(h:UInt8.ofNat x.toNat=UInt8.ofNat y.toNat):x=y:=by
  have:=congrArg UInt8.toNat h
  simp only [UInt8.toNat_ofNat'] at this
  omega
theorem D3s(a b:List Int)(ha:Byt a)(hb:Byt b)(hc:a.length≤b.length):((strOf ((b.take a.length).drop 0)).toList == (strOf a).toList)=(List.range a.length).all fun i=>decide (rd (.int .u8) a (i:Int)=rd (.int .u8) b (i:Int)):=by
  unfold strOf
  rw [ByteArray.toList_eq,ByteArray.toList_eq,strOfNums_data,strOfNums_data,List.drop_zero,Bool.eq_iff_iff]
  simp only [beq_iff_eq,List.all_eq_true,List.mem_range,decide_eq_true_eq]
  constructor
  · intro e i hi
    rw [B2I hi,B2I (show i<b.length by omega)]
    have:=congrArg (fun l=>l[i]?) e
    simp only [List.getElem?_map] at this
    rw [List.getElem?_take_of_lt hi,List.getElem?_eq_getElem (show i<b.length by omega),List.getElem?_eq_getElem hi] at this
    simp only [Option.map_some,Option.some.injEq] at this
    exact (D94 (hb _ (List.getElem_mem _)) (ha _ (List.getElem_mem _)) this).symm
  · intro e
    have:b.take a.length=a:=by
      apply List.ext_getElem
      · simp;omega
      · intro i h1 h2
        have:=e i h2
        rw [B2I h2,B2I (show i<b.length by omega)] at this
        simp [this]
    rw [this]
theorem C99(a b:List Int)(ha:Byt a)(hb:Byt b):T0 b a=some (beg a b,()):=by
  simp only [T0,A4E,M3,A2Y,beg,A4]
  by_cases hc:a.length≤b.length
  · have g1:(b.length:Int)≥(a.length:Int):=by omega
    have g2:(0:Int)≤(a.length:Int):=by omega
    have g3:(a.length:Int)≤(b.length:Int):=by omega
    simp only [A0 g1,A0 g2,A0 g3,A0 hc,Int.toNat_natCast,cond_true,Bool.true_and]
    rw [D3s a b ha hb hc]
  · rw [A3 (show ¬ (b.length:Int)≥(a.length:Int) by omega),A3 hc]
    rfl
def E0o(w:A5):Prop:=(∀ u∈w.1.1.2.2.2,Byt u.2.2.1)∧∀ c∈w.2.1,Byt c.2.1
theorem D95{w:A5}(h:E0o w)(i:Nat):Byt (A6S w i).1.2.2.1:=by
  unfold A6S C97
  split
  · rename_i hi
    rw [C7 (k:=kUp) (xs:=w.1.1.2.2.2) hi]
    exact h.1 _ (List.getElem_mem hi)
  · intro x hx;cases hx
theorem D96{w:A5}(h:E0o w){i:Nat}(hi:i<w.2.1.length):Byt (rd B2 w.2.1 (i:Int)).2.1:=by
  rw [C7 (k:=B2) (xs:=w.2.1) hi]
  exact h.2 _ (List.getElem_mem hi)
def be(w:A5)(i:Nat):Bool:=!(A6S w i).2.1||(beg (A6S w i).1.2.2.1 (rd B2 w.2.1 (i:Int)).2.1&&decide ((A6S w i).1.2.1=(List.length (rd B2 w.2.1 (i:Int)).2.1:Int)))
theorem D0y(w:A5)(h:Sm 1048576 A0b w)(hb:E0o w):A7m w=some ((List.range w.2.1.length).all (be w),()):=by
  have hl:w.2.1.length≤1048576:=(C95 h).1
  refine B2p (A77 T0 A0s w) _ (by simp only [maxLen];omega) (be w) (fun i hi=>?_) (by simp [A77])
  have h1:((i:Int)<(w.2.1.length:Int)):=by omega
  have h2:(0:Int)≤(i:Int):=by omega
  simp only [A77,A0 h1,A0 h2,cond_true]
  rw [C0G _ _ (C96 h)]
  show A4 (some (A6S w i)) _=_
  simp only [A4,be]
  rw [C99 _ _ (D95 hb i) (D96 hb hi)]
  simp only
  cases (A6S w i).2.1<;>cases beg (A6S w i).1.2.2.1 (rd B2 w.2.1 (i:Int)).2.1<;>cases decide ((A6S w i).1.2.1=(List.length (rd B2 w.2.1 (i:Int)).2.1:Int))<;>simp
theorem E0p{L:Int×Unit→Option ((Int×Unit)⊕(Unit⊕(Bool×Unit)))}{n:Nat}{go:Nat→Bool}(hs:∀ i:Nat,i<n→L ((i:Int),())=bif go i then some (.inl (((i+1:Nat):Int),())) else some (.inr (.inr (false,()))))
    (he:L ((n:Int),())=some (.inr (.inl ()))) (g:Unit→Option (Bool×Unit)) (b:Bool) (hg:g ()=some (b,())):B7 (B9 L (0,())) g=some (decide (O4 go 0 n=n)&&b,()):=by
  have h:=A1v L (fun i=>((i:Int),())) n (fun i=>if i=n then .inl () else .inr (false,())) go (fun i hi=>by
    rw [hs i hi]
    cases go i with
    | true=>rfl
    | false=>simp only [Bool.false_eq_true,if_false,cond_false];rw [if_neg (by omega)]) (by rw [he,if_pos rfl])
  have h':B9 L (0,())=_:=h
  rw [h']
  by_cases hn:O4 go 0 n=n
  · rw [if_pos hn,A0 hn];simp [B7,hg]
  · rw [if_neg hn,A3 hn];simp [B7]
theorem E0q{x y:Nat}(hx:x<9223372036854775808)(hy:y<9223372036854775808):bOr .i64 (x:Int) (y:Int)=((x ||| y:Nat):Int):=by
  have h:x ||| y<2 ^ 63:=Nat.or_lt_two_pow (by omega) (by omega)
  unfold bOr
  rw [BitVec.toNat_or,bits_nat (by simp only [IntKind.bits];omega),bits_nat (by simp only [IntKind.bits];omega)]
  exact C0E (by omega)
def X5(b:List Int)(at_:Nat):Nat→Nat
  | 0=>0
  | j+1=>(X5 b at_ j*256) ||| (b.getD (at_+j) 0).toNat
theorem D0z{b:List Int}(hb:Byt b)(i:Nat):0≤b.getD i 0∧b.getD i 0<256:=by
  by_cases h:i<b.length
  · simp only [List.getD,List.getElem?_eq_getElem h,Option.getD_some]
    exact hb _ (List.getElem_mem h)
  · simp only [List.getD,List.getElem?_eq_none (show b.length≤i by omega),Option.getD_none]
    omega
theorem C9A{b:List Int}(hb:Byt b)(at_:Nat):∀ j,X5 b at_ j<2 ^ (8*j)
  | 0=>by simp [X5]
  | j+1=>by
    have h1:=C9A hb at_ j
    have h2:=D0z hb (at_+j)
    have e:2 ^ (8*(j+1))=2 ^ (8*j)*256:=by rw [show 8*(j+1)=8*j+8 by omega,Nat.pow_add]
    refine Nat.or_lt_two_pow ?_ ?_
    · rw [e];exact Nat.mul_lt_mul_of_pos_right h1 (by omega)
    · have:1≤2 ^ (8*j):=Nat.one_le_two_pow
      rw [e];omega
theorem D10{b:List Int}(hb:Byt b)(at_ j:Nat)(hj:j<7)(x:Int)(hx:x=b.getD (at_+j) 0):bOr .i64 (IntKind.i64.wrap (((X5 b at_ j:Nat):Int)*256)) (IntKind.i64.wrap x)=((X5 b at_ (j+1):Nat):Int):=by
  have h1:=C9A hb at_ j
  have h2:=D0z hb (at_+j)
  have h3:2 ^ (8*j)≤2 ^ 48:=Nat.pow_le_pow_right (by omega) (by omega)
  subst hx
  rw [show ((X5 b at_ j:Nat):Int)*256=((X5 b at_ j*256:Nat):Int) by omega,C0E (by omega),show b.getD (at_+j) 0=(((b.getD (at_+j) 0).toNat:Nat):Int) by omega,C0E (by omega),E0q (by omega) (by omega)]
  simp only [X5,Int.toNat_natCast]
def A5d(b:List Int)(a:Int)(k:Nat):Int×Bool×Unit:=if 0≤a∧a≤(b.length:Int)-k then ((X5 b a.toNat k:Int),true,()) else (0,false,())
theorem D11(b:List Int)(hb:Byt b)(h:b.length≤1048576)(a:Int)(k:Nat)(hk:1≤k∧k≤7):A5M b a (k:Int)=some (A5d b a k):=by
  simp only [A5M,B7J,N2,A4,A5d]
  rw [A0 (show (1:Int)≤(k:Int)∧(k:Int)≤7 by omega),w64 (by omega) (by omega)]
  simp only [Bool.not_true,cond_false]
  by_cases h1:a<0
  · rw [A0 h1,if_neg (by omega)];rfl
  rw [A3 h1]
  by_cases h2:a>(b.length:Int)-k
  · rw [A0 h2,if_neg (by omega)];rfl
  rw [A3 h2,if_pos (by omega)]
  simp only [cond_false,B7]
  have key:=D4 (A4K (k:Int) a b) (fun j=>((X5 b a.toNat j:Int),(j:Int),())) k ((X5 b a.toNat k:Int),()) (fun j hj=>?_) ?_
  · have e:B9 (A4K (k:Int) a b) (0,0,())=_:=key
    rw [e]
  · have g1:(j:Int)<(k:Int):=by omega
    simp only [A4K,A0 g1,cond_true]
    rw [w64 (n:=a+(j:Int)) (by omega) (by omega)]
    have g2:0≤a+(j:Int):=by omega
    have g3:a+(j:Int)<(b.length:Int):=by omega
    rw [A0 g2,A0 g3]
    simp only [cond_true]
    rw [D10 hb a.toNat j (by omega) _ (by
      rw [show a+(j:Int)=((a.toNat+j:Nat):Int) by omega,B2I (by omega)]
      simp [List.getD,show a.toNat+j<b.length by omega]),show (j:Int)+1=((j+1:Nat):Int) by omega,C0E (by omega)]
  · simp [A4K]
theorem B4G(b:List Int)(hb:Byt b)(h:b.length≤1048576)(a:Int)(k:Nat)(hk:1≤k∧k≤7):A7n b a (k:Int)=some (A5d b a k):=by
  simp only [A7n,B7B,L8,A4,A5d]
  rw [A0 (show (1:Int)≤(k:Int)∧(k:Int)≤7 by omega),w64 (n:=(b.length:Int)-(k:Int)) (by omega) (by omega)]
  simp only [Bool.not_true,cond_false]
  by_cases h1:a<0
  · rw [A0 h1,if_neg (by omega)];rfl
  rw [A3 h1]
  by_cases h2:a>(b.length:Int)-k
  · rw [A0 h2,if_neg (by omega)];rfl
  rw [A3 h2,if_pos (by omega)]
  simp only [cond_false,B7]
  rw [w64 (n:=a+(k:Int)) (by omega) (by omega),A0 (show 0≤a by omega),A0 (show a≤a+(k:Int) by omega),A0 (show a+(k:Int)≤(b.length:Int) by omega)]
  simp only [cond_true]
  have hlen:((b.take (a+(k:Int)).toNat).drop a.toNat).length=k:=by simp;omega
  have key:=D4 (A4F b a (k:Int)) (fun j=>((X5 b a.toNat j:Int),(j:Int),())) k ((X5 b a.toNat k:Int),()) (fun j hj=>?_) ?_
  · have e:B9 (A4F b a (k:Int)) (0,0,())=_:=key
    rw [e]
  · have g1:(j:Int)<(k:Int):=by omega
    have g2:(0:Int)≤(j:Int):=by omega
    simp only [A4F]
    rw [w64 (n:=a+(k:Int)) (by omega) (by omega)]
    simp only [hlen,A0 g1,A0 g2,cond_true]
    rw [D10 hb a.toNat j (by omega) _ (by
      rw [B2I (by rw [hlen];exact hj)]
      simp [List.getD,show a.toNat+j<b.length by omega]),show (j:Int)+1=((j+1:Nat):Int) by omega,C0E (by omega)]
  · simp only [A4F]
    rw [w64 (n:=a+(k:Int)) (by omega) (by omega)]
    simp [hlen]
theorem D70{α β:Type}{f:α→Option (α⊕β)}{x:α}{z:β}(h:f x=some (.inr z)):B9 f x=some z:=by rw [A1X,h]
theorem B2K(xs:List Int):(strOf xs).size=xs.length:=strOfNums_size xs
theorem D12(x:Int):0≤C03 .i64 x 255∧C03 .i64 x 255≤255:=by
  unfold C03
  have h:(BitVec.ofInt IntKind.i64.bits x &&& BitVec.ofInt IntKind.i64.bits 255).toNat≤255:=by
    rw [BitVec.toNat_and]
    have:(BitVec.ofInt IntKind.i64.bits (255:Int)).toNat=255:=bits_nat (w:=64) (x:=255) (by omega)
    rw [this]
    exact Nat.and_le_right
  rw [C0E (by omega)]
  omega
def Cur(c:H4):Prop:=List.length c.1≤1048576∧0≤c.2.1∧c.2.1≤1048576
theorem B0d(c:H4)(h:Cur c):∃ r c',A1j c=some (r,c',())∧Cur c'∧0≤r∧r≤255:=by
  obtain ⟨h1,h2,h3⟩:=h
  simp only [A1j,B7H]
  by_cases hi:c.2.1<(List.length c.1:Int)
  · simp only [A0 hi,A0 h2,cond_true]
    refine ⟨_,_,rfl,⟨h1,?_,?_⟩,D12 _⟩
    · simp only;rw [w64 (by omega) (by omega)];omega
    · simp only;rw [w64 (by omega) (by omega)];omega
  · simp only [A3 hi,cond_false]
    exact ⟨_,_,rfl,⟨h1,h2,h3⟩,D12 _⟩
theorem A5e(c:H4)(n:Int)(h:Cur c)(hn:0<n∧n<9223372036854775808):∃ r c',J6 c n=some (r,c',())∧Cur c'∧0≤r∧r<n:=by
  simp only [J6,A8q]
  rw [A3 (show ¬ n≤0 by omega)]
  have hz:(n == 0)=false:=by simp;omega
  simp only [cond_false,hz]
  by_cases h1:n≤256
  · rw [A0 h1]
    obtain ⟨r,c',e,hc,hr⟩:=B0d c h
    simp only [cond_true,e,A4]
    refine ⟨_,_,rfl,hc,?_⟩
    rw [Int.tmod_eq_emod_of_nonneg hr.1]
    exact ⟨Int.emod_nonneg _ (by omega),Int.emod_lt_of_pos _ (by omega)⟩
  · rw [A3 h1]
    obtain ⟨r1,c1,e1,hc1,hr1⟩:=B0d c h
    obtain ⟨r2,c2,e2,hc2,hr2⟩:=B0d c1 hc1
    obtain ⟨r3,c3,e3,hc3,hr3⟩:=B0d c2 hc2
    simp only [cond_false,e1,e2,e3,A4]
    refine ⟨_,_,rfl,hc3,?_⟩
    rw [w64 (n:=r1*65536) (by omega) (by omega),w64 (n:=r2*256) (by omega) (by omega),w64 (n:=r1*65536+r2*256) (by omega) (by omega),w64 (n:=r1*65536+r2*256+r3) (by omega) (by omega)]
    rw [Int.tmod_eq_emod_of_nonneg (by omega)]
    exact ⟨Int.emod_nonneg _ (by omega),Int.emod_lt_of_pos _ (by omega)⟩
theorem D13(c:H4)(xs:List Int)(h:Cur c)(hx:0<xs.length∧xs.length≤1048576):∃ s c',A5T c xs=some (s,c',())∧Cur c'∧s∈xs:=by
  obtain ⟨r,c',e,hc,h0,h1⟩:=A5e c (xs.length:Int) h (by omega)
  simp only [A5T,C0A,e,A4,A0 h0,A0 h1,cond_true]
  refine ⟨_,_,rfl,hc,?_⟩
  obtain ⟨n,rfl⟩:∃ n:Nat,r=(n:Int):=⟨r.toNat,by omega⟩
  rw [B2I (by omega)]
  exact List.getElem_mem _
theorem wrap_u8(x:Int):0≤IntKind.u8.wrap x∧IntKind.u8.wrap x<256:=by
  simp only [IntKind.wrap,IntKind.bits,IntKind.signed]
  simp
  omega
theorem D3t(c:H4)(n:Int)(h:Cur c)(hn:0≤n∧n≤1048576):∃ b c',R4 c n=some (b,c',())∧Cur c'∧(List.length b:Int)=n∧Byt b:=by
  simp only [R4,A5b]
  obtain ⟨z,e,hz⟩:=V5 (A3d A1j n) (fun l=>(n-l.1).toNat) (fun l=>0≤l.1∧l.1≤n∧Cur (l.2.1,l.2.2.1,l.2.2.2.1)∧(List.length l.2.2.2.2.1:Int)=l.1∧Byt l.2.2.2.2.1)
    (fun z=>Cur z.2.1∧(List.length z.1:Int)=n∧Byt z.1) (fun l hl=>by
      obtain ⟨h0,h1,hc,hlen,hb⟩:=hl
      simp only [A3d]
      by_cases hi:l.1<n
      · obtain ⟨r,c',e,hc',hr⟩:=B0d _ hc
        refine .inl ⟨(l.1+1,c'.1,c'.2.1,c'.2.2,l.2.2.2.2.1 ++ [IntKind.u8.wrap r],()),?_,⟨by simp only;omega,by simp only;omega,hc',by simp;omega,?_⟩,by simp only;omega⟩
        · rw [A0 hi,e]
          simp only [cond_true,A4]
          rw [A0 (by simp;omega),A0 (by simp;omega),w64 (by omega) (by omega)]
          rfl
        · intro x hx
          rcases List.mem_append.1 hx with hx | hx
          · exact hb x hx
          · rw [List.mem_singleton.1 hx];exact wrap_u8 _
      · rw [A3 hi]
        exact .inr ⟨_,rfl,hc,by simp only;omega,hb⟩) (0,c.1,c.2.1,c.2.2,[],()) ⟨by simp,hn.1,h,by simp,fun x hx=>by cases hx⟩
  exact ⟨z.1,z.2.1,e,hz⟩
theorem D97(a:List Int)(h:a.length≤1048576):∃ c,B0X a=some (c,())∧Cur c:=by
  simp only [B0X,C06]
  obtain ⟨z,e,_⟩:=V5 (B3y a) (fun l=>((a.length:Int)-l.2.1).toNat) (fun l=>0≤l.2.1) (fun _=>True) (fun l hl=>by
    simp only [B3y]
    by_cases hi:l.2.1<(a.length:Int)
    · by_cases h4:l.2.1<4000
      · rw [A0 hi,A0 h4]
        simp only [cond_true,B7]
        rw [A0 hl,w64 (n:=l.2.1+1) (by omega) (by omega)]
        exact .inl ⟨_,rfl,by simp only;omega,by simp only;omega⟩
      · rw [A0 hi,A3 h4]
        exact .inr ⟨_,rfl,trivial⟩
    · rw [A3 hi]
      exact .inr ⟨_,rfl,trivial⟩) (IntKind.i64.wrap (369369+(a.length:Int)),0,()) (by simp)
  rw [e]
  exact ⟨_,rfl,h,by simp,by simp⟩
def Q1(r:H3):Bool:=
  decide (0≤r.1∧r.1≤10000)&&decide (0≤r.2.1∧r.2.1≤199)&&idB r.2.2.2.1 &&
  (if r.2.2.1=1 then decide (0≤r.2.2.2.2.1∧r.2.2.2.2.1≤1000000000)&&decide ((List.length r.2.2.2.2.2:Int)=0)
   else if r.2.2.1=2 then decide (0≤r.2.2.2.2.1∧r.2.2.2.2.1≤1000000000)&&decide (1≤(List.length r.2.2.2.2.2:Int)∧(List.length r.2.2.2.2.2:Int)≤24)
   else if r.2.2.1=3∨r.2.2.1=4 then decide (r.2.2.2.2.1=0)&&decide ((List.length r.2.2.2.2.2:Int)=0) else false)
theorem D3u(r:H3)(h:r.2.2.2.1.size≤maxLen):B0Z r=some (Q1 r,()):=by
  simp only [B0Z,C08,A8A _ h,N2,A4,Q1]
  cases decide (0≤r.1∧r.1≤10000)
  · rfl
  cases decide (0≤r.2.1∧r.2.1≤199)
  · rfl
  cases idB r.2.2.2.1
  · rfl
  simp only [Bool.not_true,cond_false,B7,Bool.true_and]
  by_cases h1:r.2.2.1=1
  · rw [A0 h1,if_pos h1]
    cases decide (0≤r.2.2.2.2.1∧r.2.2.2.2.1≤1000000000)<;>rfl
  rw [A3 h1,if_neg h1]
  by_cases h2:r.2.2.1=2
  · rw [A0 h2,if_pos h2]
    cases decide (0≤r.2.2.2.2.1∧r.2.2.2.2.1≤1000000000)<;>rfl
  rw [A3 h2,if_neg h2]
  by_cases h3:r.2.2.1=3
  · rw [A0 h3,if_pos (.inl h3)]
    cases decide (r.2.2.2.2.1=0)<;>rfl
  rw [A3 h3]
  by_cases h4:r.2.2.1=4
  · rw [A0 h4,if_pos (.inr h4)]
    cases decide (r.2.2.2.2.1=0)<;>rfl
  rw [A3 h4,if_neg (by omega)]
  rfl
theorem C4O(r:H3)(h:r.2.2.2.1.size≤maxLen):A5I r=some (Q1 r,()):=by
  simp only [A5I,C04,A1c,A8m,B2J _ h,L8,A4,Q1]
  cases decide (0≤r.1∧r.1≤10000)
  · rfl
  cases decide (0≤r.2.1∧r.2.1≤199)
  · rfl
  by_cases hk:1≤r.2.2.1∧r.2.2.1≤4
  · rw [A0 hk]
    cases idB r.2.2.2.1
    · rfl
    simp only [Bool.not_true,cond_false,B7,Bool.true_and]
    by_cases h1:r.2.2.1=1
    · rw [A0 h1,if_pos h1]
      cases decide (0≤r.2.2.2.2.1∧r.2.2.2.2.1≤1000000000)<;>rfl
    rw [A3 h1,if_neg h1]
    by_cases h2:r.2.2.1=2
    · rw [A0 h2,if_pos h2]
      cases decide (0≤r.2.2.2.2.1∧r.2.2.2.2.1≤1000000000)<;>rfl
    rw [A3 h2,if_neg h2,if_pos (by omega)]
    cases decide (r.2.2.2.2.1=0)<;>rfl
  · rw [A3 hk,if_neg (by omega),if_neg (by omega),if_neg (by omega)]
    cases idB r.2.2.2.1<;>rfl
theorem A0M{r:H3}(h:Q1 r=true):0≤r.1∧r.1≤10000∧1≤r.2.2.1∧r.2.2.1≤4∧r.2.2.2.1.size≤8∧0≤r.2.2.2.2.1∧r.2.2.2.2.1≤1000000000∧List.length r.2.2.2.2.2≤24:=by
  simp only [Q1,idB,Bool.and_eq_true,decide_eq_true_eq] at h
  obtain ⟨⟨⟨h1,h2⟩,h3,h4⟩,h5⟩:=h
  split at h5
  · simp only [Bool.and_eq_true,decide_eq_true_eq] at h5;omega
  · split at h5
    · simp only [Bool.and_eq_true,decide_eq_true_eq] at h5;omega
    · split at h5
      · simp only [Bool.and_eq_true,decide_eq_true_eq] at h5;omega
      · cases h5
theorem C9B{a b:List Int}(ha:Byt a)(hb:Byt b):Byt (a++b):=fun x hx=>(List.mem_append.1 hx).elim (ha x) (hb x)
theorem D5v(n:Int)(k:Nat):Byt (big n k):=by
  intro x hx
  obtain ⟨j,_,rfl⟩:=List.mem_map.1 hx
  exact wrap_u8 _
theorem A9E(s:ByteArray):Byt (bytesOf s):=by
  intro x hx
  obtain ⟨b,_,rfl⟩:=List.mem_map.1 hx
  have:=b.toNat_lt
  omega
theorem A08:Byt []:=fun x hx=>by cases hx
theorem A6T{a:List Int}(h:Byt a)(i:Nat):Byt (a.drop i):=fun x hx=>h x (List.mem_of_mem_drop hx)
def B3O(r:H3):List Int:=
  big (A0L r.1) 3++big (A0L r.2.1) 2++big (A0L r.2.2.1) 1++big (A0L (r.2.2.2.1.size:Int)) 1++bytesOf r.2.2.2.1++big (A0L r.2.2.2.2.1) 4++big (A0L (List.length r.2.2.2.2.2:Int)) 1++r.2.2.2.2.2
def E20(b:List Int):Int:=((A6R b ^^^ 4294967295:Nat):Int)
def W8(r:H3):ByteArray:=strOf (B3O r++big (A0L (E20 (B3O r))) 4)
theorem B4H(r:H3):(B3O r).length=12+r.2.2.2.1.size+List.length r.2.2.2.2.2:=by
  simp only [B3O,List.length_append,K0,bytesOf_length]
  omega
theorem C4P(r:H3)(h:Byt r.2.2.2.2.2):Byt (B3O r):=by
  unfold B3O
  repeat' first | apply C9B | apply D5v | apply A9E | exact h
theorem C1V(r:H3)(h1:r.2.2.2.1.size≤10000000)(h2:List.length r.2.2.2.2.2≤10000000)(hb:Byt r.2.2.2.2.2):A3Y r=some (W8 r,()):=by
  have hlen:=B4H r
  simp only [A3Y,B7L]
  rw [show (3:Int)=((3:Nat):Int) from rfl,A1w [] _ 3 (by omega) (by omega) (by simp)]
  simp only [A4,List.nil_append]
  rw [show (2:Int)=((2:Nat):Int) from rfl,A1w _ _ 2 (by omega) (by omega) (by simp [K0])]
  simp only
  rw [show (1:Int)=((1:Nat):Int) from rfl,A1w _ _ 1 (by omega) (by omega) (by simp [K0])]
  simp only
  rw [A1w _ _ 1 (by omega) (by omega) (by simp [K0])]
  simp only
  rw [A0 (by simp [K0];omega)]
  simp only [cond_true]
  rw [show (4:Int)=((4:Nat):Int) from rfl,A1w _ _ 4 (by omega) (by omega) (by simp [K0,bytesOf_length];omega)]
  simp only
  rw [A1w _ _ 1 (by omega) (by omega) (by simp [K0,bytesOf_length];omega)]
  simp only
  rw [A0 (by simp [K0,bytesOf_length];omega),A0 (by simp [K0,bytesOf_length];omega)]
  simp only [cond_true]
  have e:big (A0L r.1) 3++big (A0L r.2.1) 2++big (A0L r.2.2.1) 1++big (A0L (r.2.2.2.1.size:Int)) 1++bytesOf r.2.2.2.1++big (A0L r.2.2.2.2.1) 4++big (A0L (List.length r.2.2.2.2.2:Int)) 1++r.2.2.2.2.2=B3O r:=rfl
  rw [e,C4L _ (C4P r hb) (by rw [hlen];simp only [maxLen];omega)]
  simp only
  rw [A1w _ _ 4 (by omega) (by omega) (by rw [hlen];omega)]
  rfl
theorem C9C(n:Int):big n 1 = [IntKind.u8.wrap n]:=by
  simp [big,C4I]
theorem A4j{n:Int}(h:0≤n):A0L n=n:=by unfold A0L;rw [if_neg (by omega)]
theorem C1W(r:H3)(h1:r.2.2.2.1.size≤maxLen)(hb:Byt r.2.2.2.2.2):A3W r=some (if Q1 r then W8 r else ⟨#[]⟩,()):=by
  simp only [A3W,B7D,C4O r h1]
  cases hr:Q1 r with
  | false=>rfl
  | true=>
    have hbd:=A0M hr
    have hlen:=B4H r
    simp only [A4,Bool.not_true,cond_false]
    rw [show (3:Int)=((3:Nat):Int) from rfl,A9B [] _ 3 (by omega) (by simp)]
    simp only [List.nil_append]
    rw [show (2:Int)=((2:Nat):Int) from rfl,A9B _ _ 2 (by omega) (by simp [K0])]
    simp only
    rw [A0 (by simp [K0]),A0 (by simp [K0])]
    simp only [cond_true]
    rw [A0 (by simp [K0];omega)]
    simp only [cond_true]
    rw [show (4:Int)=((4:Nat):Int) from rfl,A9B _ _ 4 (by omega) (by simp [K0,bytesOf_length];omega)]
    simp only
    rw [A0 (by simp [K0,bytesOf_length];omega),A0 (by simp [K0,bytesOf_length];omega)]
    simp only [cond_true]
    rw [A0 (by simp [K0,bytesOf_length];omega),A0 (by simp [K0,bytesOf_length];omega)]
    simp only [cond_true]
    have e:big (A0L r.1) 3++big (A0L r.2.1) 2 ++ [IntKind.u8.wrap r.2.2.1,IntKind.u8.wrap (r.2.2.2.1.size:Int)]++bytesOf r.2.2.2.1++big (A0L r.2.2.2.2.1) 4 ++ [IntKind.u8.wrap (List.length r.2.2.2.2.2:Int)]++r.2.2.2.2.2=B3O r:=by
      unfold B3O
      rw [C9C,C9C,C9C,A4j (n:=r.2.2.1) (by omega),A4j (n:=(r.2.2.2.1.size:Int)) (by omega),A4j (n:=(List.length r.2.2.2.2.2:Int)) (by omega)]
      simp [List.append_assoc]
    rw [e,C4M _ (C4P r hb) (by rw [hlen];simp only [maxLen];omega)]
    simp only
    rw [A9B _ _ 4 (by omega) (by rw [hlen];omega)]
    rfl
def D7(b:List Int):Nat:=X5 b 6 1
def P3(b:List Int):Nat:=X5 b (11+D7 b) 1
def recAt(b:List Int):H3:=((X5 b 0 3:Int),(X5 b 3 2:Int),(X5 b 5 1:Int),strOf ((b.take (7+D7 b)).drop 7),(X5 b (7+D7 b) 4:Int),(b.take (12+D7 b+P3 b)).drop (12+D7 b))
def D5w:H3×Bool×Unit:=((0,0,0,⟨#[]⟩,0,[]),false,())
def A9F(s:ByteArray):Bool:=decide (12+D7 (bytesOf s)+P3 (bytesOf s)≤s.size)&&Q1 (recAt (bytesOf s))&&((W8 (recAt (bytesOf s))).toList == s.toList)
def D5(s:ByteArray):H3×Bool×Unit:=if A9F s=true then (recAt (bytesOf s),true,()) else D5w
theorem A5f(b:List Int)(a k:Nat)(h:a+k≤b.length):A5d b (a:Int) k=((X5 b a k:Int),true,()):=by
  unfold A5d
  rw [if_pos (by omega),Int.toNat_natCast]
theorem C0I(b:List Int)(a k:Nat)(h:¬ a+k≤b.length):A5d b (a:Int) k=(0,false,()):=by
  unfold A5d
  rw [if_neg (by omega)]
theorem C3R{b:List Int}(hb:Byt b)(a:Nat):X5 b a 1<256:=by
  have:=C9A hb a 1
  omega
theorem C85(b:List Int)(h:12+D7 b+P3 b≤b.length):(recAt b).2.2.2.1.size=D7 b∧List.length (recAt b).2.2.2.2.2=P3 b:=by
  simp only [recAt,B2K,List.length_drop,List.length_take]
  omega
theorem C0J{b:List Int}(hb:Byt b):Byt (recAt b).2.2.2.2.2:=A6T (A2n hb _) _
theorem A6U(s:ByteArray)(hs:s.size≤1048576):L1 s=some (D5 s):=by
  have hbl:=bytesOf_length s
  have hb:=A9E s
  have hh:(bytesOf s).length≤1048576:=by omega
  have hsz:s.size=(bytesOf s).length:=hbl.symm
  simp only [D5,A9F,hsz]
  have hlen:decide ((bytesOf s).length≤9223372036854775807)=true:=A0 (by omega)
  simp only [L1,B7M,hsz,hlen,cond_true]
  clear hlen hsz
  generalize bytesOf s=b at hb hh ⊢
  clear hbl
  have g0:∀ (a:Int) (k:Nat) (k':Int),k' = (k:Int)→1≤k∧k≤7→A5M b a k' = some (A5d b a k):=fun a k k' e hk=>by rw [e];exact D11 b hb hh a k hk
  have q0:=g0 0 3 3 rfl (by omega)
  have q3:=g0 3 2 2 rfl (by omega)
  have q5:=g0 5 1 1 rfl (by omega)
  have q6:=g0 6 1 1 rfl (by omega)
  simp only [q0,q3,q5,q6]
  by_cases c1:7≤b.length
  · have e0:=A5f b 0 3 (by omega)
    have e3:=A5f b 3 2 (by omega)
    have e5:=A5f b 5 1 (by omega)
    have e6:=A5f b 6 1 (by omega)
    simp only [Int.cast_ofNat_Int] at e0 e3 e5 e6
    have hn:=C3R hb 6
    have hN:(X5 b 6 1:Int)=((D7 b:Nat):Int):=rfl
    have hn':D7 b<256:=hn
    simp only [e0,e3,e5,e6,A4,Bool.not_true,cond_false,hN]
    rw [w64 (n:=7+(D7 b:Int)) (by omega) (by omega),w64 (n:=11+(D7 b:Int)) (by omega) (by omega),w64 (n:=12+(D7 b:Int)) (by omega) (by omega)]
    by_cases c2:7+D7 b≤b.length
    · rw [A3 (show ¬ 7+(D7 b:Int)>(b.length:Int) by omega)]
      simp only [cond_false,B7]
      rw [A0 (show 7≤7+(D7 b:Int) by omega),A0 (show 7+(D7 b:Int)≤(b.length:Int) by omega)]
      simp only [cond_true]
      have q7:=g0 (7+(D7 b:Int)) 4 4 rfl (by omega)
      have q11:=g0 (11+(D7 b:Int)) 1 1 rfl (by omega)
      simp only [q7,q11]
      by_cases c3:12+D7 b≤b.length
      · have e7:=A5f b (7+D7 b) 4 (by omega)
        have e11:=A5f b (11+D7 b) 1 (by omega)
        simp only [Int.natCast_add,Int.cast_ofNat_Int] at e7 e11
        have hm:P3 b<256:=C3R hb _
        have hM:(X5 b (11+D7 b) 1:Int)=((P3 b:Nat):Int):=rfl
        simp only [e7,e11,Bool.not_true,cond_false,hM]
        rw [w64 (n:=12+(D7 b:Int)+(P3 b:Int)) (by omega) (by omega)]
        by_cases c4:12+D7 b+P3 b≤b.length
        · rw [A3 (show ¬ 12+(D7 b:Int)+(P3 b:Int)>(b.length:Int) by omega),A0 (show 0≤12+(D7 b:Int) by omega),A0 (show 12+(D7 b:Int)≤12+(D7 b:Int)+(P3 b:Int) by omega),A0 (show 12+(D7 b:Int)+(P3 b:Int)≤(b.length:Int) by omega)]
          simp only [cond_true,cond_false]
          rw [A0 (by simp;omega),A0 (by simp;omega)]
          have t1:(7+(D7 b:Int)).toNat=7+D7 b:=by omega
          have t2:(12+(D7 b:Int)+(P3 b:Int)).toNat=12+D7 b+P3 b:=by omega
          have t3:(12+(D7 b:Int)).toNat=12+D7 b:=by omega
          simp only [cond_true,List.nil_append,t1,t2,t3]
          have hr:(((X5 b 0 3:Nat):Int),((X5 b 3 2:Nat):Int),((X5 b 5 1:Nat):Int),strOf ((b.take (7+D7 b)).drop 7),((X5 b (7+D7 b) 4:Nat):Int),(b.take (12+D7 b+P3 b)).drop (12+D7 b))=recAt b:=rfl
          obtain ⟨l1,l2⟩:=C85 b c4
          rw [hr,D3u _ (by rw [l1];simp only [maxLen];omega),C1V _ (by rw [l1];omega) (by rw [l2];omega) (C0J hb)]
          rw [A0 c4]
          simp only [Bool.true_and]
          cases Q1 (recAt b)
          · rfl
          · cases hp:((W8 (recAt b)).toList == s.toList)
            · rfl
            · rfl
        · rw [A0 (show 12+(D7 b:Int)+(P3 b:Int)>(b.length:Int) by omega),A3 c4]
          rfl
      · have e11:=C0I b (11+D7 b) 1 (by omega)
        simp only [Int.natCast_add,Int.cast_ofNat_Int] at e11
        simp only [e11]
        rw [A3 (show ¬ 12+D7 b+P3 b≤b.length by omega)]
        cases (A5d b (7+(D7 b:Int)) 4).2.1<;>rfl
    · rw [A0 (show 7+(D7 b:Int)>(b.length:Int) by omega),A3 (show ¬ 12+D7 b+P3 b≤b.length by omega)]
      rfl
  · have e6:=C0I b 6 1 (by omega)
    simp only [Int.cast_ofNat_Int] at e6
    rw [A3 (show ¬ 12+D7 b+P3 b≤b.length by omega)]
    simp only [e6,A4]
    cases (A5d b 0 3).2.1<;>cases (A5d b 3 2).2.1<;>cases (A5d b 5 1).2.1<;>rfl
theorem A10{b:List Int}(hb:Byt b)(hh:b.length≤1048576)(a k:Nat)(k':Int)(e:k' = (k:Int))(hk:1≤k∧k≤7)(h:a+k≤b.length):D6 (b,(a:Int),false) k' = some ((X5 b a k:Int),(b,((a+k:Nat):Int),false),()):=by
  subst e
  simp only [D6,Q6,B4G b hb hh _ k hk,A5f b a k h,A4,B7,Bool.not_true,cond_false]
  rw [w64 (by omega) (by omega)]
  rfl
theorem A7X{b:List Int}(hb:Byt b)(hh:b.length≤1048576)(a k:Nat)(k':Int)(e:k' = (k:Int))(hk:1≤k∧k≤7)(h:¬ a+k≤b.length):D6 (b,(a:Int),false) k' = some (0,(b,(a:Int),true),()):=by
  subst e
  simp only [D6,Q6,B4G b hb hh _ k hk,C0I b a k h,A4,B7,Bool.not_false,cond_false,cond_true]
theorem E0r{b:List Int}(hb:Byt b)(hh:b.length≤1048576)(a:Int)(k:Nat)(k':Int)(e:k' = (k:Int))(hk:1≤k∧k≤7):D6 (b,a,true) k' = some (0,(b,a,true),()):=by
  subst e
  simp only [D6,Q6,B4G b hb hh _ k hk,A4,B7,cond_true]
theorem D98(b:List Int)(a n:Int):H8 (b,a,true) n=some ([],(b,a,true),()):=by
  simp only [H8,U2,cond_true,B7]
theorem C0K{b:List Int}(hh:b.length≤1048576)(a n:Nat)(h:a+n≤b.length):H8 (b,(a:Int),false) (n:Int)=some ((b.take (a+n)).drop a,(b,((a+n:Nat):Int),false),()):=by
  simp only [H8,U2,cond_false]
  rw [w64 (n:=(b.length:Int)-(a:Int)) (by omega) (by omega),A3 (by omega),w64 (n:=(a:Int)+(n:Int)) (by omega) (by omega),w64 (n:=(a:Int)+(n:Int)-(n:Int)) (by omega) (by omega)]
  simp only [cond_false,B7]
  rw [A0 (by omega),A0 (by omega),A0 (by omega)]
  simp only [cond_true]
  rw [A1C _ (by simp;omega),show ((a:Int)+(n:Int)).toNat=a+n by omega,show ((a:Int)+(n:Int)-(n:Int)).toNat=a by omega]
  rfl
theorem C4Q{b:List Int}(hh:b.length≤1048576)(a n:Nat)(ha:a≤b.length)(h:¬ a+n≤b.length):H8 (b,(a:Int),false) (n:Int)=some ([],(b,(a:Int),true),()):=by
  simp only [H8,U2,cond_false]
  rw [w64 (n:=(b.length:Int)-(a:Int)) (by omega) (by omega),A0 (by omega)]
  rfl
theorem B4I(s:ByteArray)(hs:s.size≤1048576):A0c s=some (D5 s):=by
  have hbl:=bytesOf_length s
  have hb:=A9E s
  have hh:(bytesOf s).length≤1048576:=by omega
  have hsz:s.size=(bytesOf s).length:=hbl.symm
  simp only [D5,A9F,hsz]
  have hlen:decide ((bytesOf s).length≤9223372036854775807)=true:=A0 (by omega)
  simp only [A0c,B7E,hsz,hlen,cond_true]
  clear hlen hsz
  generalize bytesOf s=b at hb hh ⊢
  clear hbl
  have nb:∀ (a:Int) (k:Nat) (k':Int),k' = (k:Int)→1≤k∧k≤7→D6 (b,a,true) k' = some (0,(b,a,true),()):=fun a k k' e hk=>E0r hb hh a k k' e hk
  have nb1:∀ a:Int,D6 (b,a,true) 1=some (0,(b,a,true),()):=fun a=>nb a 1 1 rfl (by omega)
  have nb2:∀ a:Int,D6 (b,a,true) 2=some (0,(b,a,true),()):=fun a=>nb a 2 2 rfl (by omega)
  have nb4:∀ a:Int,D6 (b,a,true) 4=some (0,(b,a,true),()):=fun a=>nb a 4 4 rfl (by omega)
  have tb:=D98 b
  have z0:((0:Int),false)=(((0:Nat):Int),false):=rfl
  rw [z0]
  by_cases c4:12+D7 b+P3 b≤b.length
  · have hn':D7 b<256:=C3R hb _
    have hm':P3 b<256:=C3R hb _
    have hN:(X5 b 6 1:Int)=((D7 b:Nat):Int):=rfl
    have hM:(X5 b (11+D7 b) 1:Int)=((P3 b:Nat):Int):=rfl
    rw [A10 hb hh 0 3 3 rfl (by omega) (by omega)]
    simp only [A4]
    rw [A10 hb hh (0+3) 2 2 rfl (by omega) (by omega)]
    simp only
    rw [A10 hb hh (0+3+2) 1 1 rfl (by omega) (by omega)]
    simp only
    rw [A10 hb hh (0+3+2+1) 1 1 rfl (by omega) (by omega)]
    simp only [Nat.zero_add,Nat.reduceAdd,hN]
    rw [C0K hh 7 (D7 b) (by omega)]
    simp only
    rw [A10 hb hh (7+D7 b) 4 4 rfl (by omega) (by omega)]
    simp only
    rw [A10 hb hh (7+D7 b+4) 1 1 rfl (by omega) (by omega)]
    simp only
    rw [show 7+D7 b+4=11+D7 b by omega,hM,show 11+D7 b+1=12+D7 b by omega,C0K hh (12+D7 b) (P3 b) (by omega)]
    simp only [cond_false]
    have hr:(((X5 b 0 3:Nat):Int),((X5 b 3 2:Nat):Int),((X5 b 5 1:Nat):Int),strOf ((b.take (7+D7 b)).drop 7),((X5 b (7+D7 b) 4:Nat):Int),(b.take (12+D7 b+P3 b)).drop (12+D7 b))=recAt b:=rfl
    obtain ⟨l1,l2⟩:=C85 b c4
    rw [hr,C4O _ (by rw [l1];simp only [maxLen];omega),C1W _ (by rw [l1];simp only [maxLen];omega) (C0J hb)]
    rw [A0 c4]
    simp only [Bool.true_and]
    cases Q1 (recAt b)
    · rfl
    · cases hp:((W8 (recAt b)).toList == s.toList)
      · simp [hp];rfl
      · simp [hp]
  · rw [A3 c4]
    have fin:(if (false&&Q1 (recAt b)&&((W8 (recAt b)).toList == s.toList))=true then (recAt b,true,()) else D5w)=D5w:=by simp
    rw [fin]
    rcases Nat.lt_or_ge b.length (0+3) with d3 | d3
    · rw [A7X hb hh 0 3 3 rfl (by omega) (by omega)]
      simp only [A4,nb1,nb2,nb4,tb]
      rfl
    rw [A10 hb hh 0 3 3 rfl (by omega) d3]
    simp only [A4]
    rcases Nat.lt_or_ge b.length (0+3+2) with d5 | d5
    · rw [A7X hb hh (0+3) 2 2 rfl (by omega) (by omega)]
      simp only [nb1,nb2,nb4,tb]
      rfl
    rw [A10 hb hh (0+3) 2 2 rfl (by omega) d5]
    simp only
    rcases Nat.lt_or_ge b.length (0+3+2+1) with d6 | d6
    · rw [A7X hb hh (0+3+2) 1 1 rfl (by omega) (by omega)]
      simp only [nb1,nb2,nb4,tb]
      rfl
    rw [A10 hb hh (0+3+2) 1 1 rfl (by omega) d6]
    simp only
    rcases Nat.lt_or_ge b.length (0+3+2+1+1) with d7 | d7
    · rw [A7X hb hh (0+3+2+1) 1 1 rfl (by omega) (by omega)]
      simp only [nb1,nb2,nb4,tb]
      rfl
    rw [A10 hb hh (0+3+2+1) 1 1 rfl (by omega) d7]
    have hN:(X5 b 6 1:Int)=((D7 b:Nat):Int):=rfl
    have hM:(X5 b (11+D7 b) 1:Int)=((P3 b:Nat):Int):=rfl
    simp only [Nat.zero_add,Nat.reduceAdd,hN]
    rcases Nat.lt_or_ge b.length (7+D7 b) with e7 | e7
    · rw [C4Q hh 7 (D7 b) (by omega) (by omega)]
      simp only [nb1,nb2,nb4,tb]
      rfl
    rw [C0K hh 7 (D7 b) e7]
    simp only
    rcases Nat.lt_or_ge b.length (7+D7 b+4) with e11 | e11
    · rw [A7X hb hh (7+D7 b) 4 4 rfl (by omega) (by omega)]
      simp only [nb1,nb2,nb4,tb]
      rfl
    rw [A10 hb hh (7+D7 b) 4 4 rfl (by omega) e11]
    simp only
    rcases Nat.lt_or_ge b.length (7+D7 b+4+1) with e12 | e12
    · rw [A7X hb hh (7+D7 b+4) 1 1 rfl (by omega) (by omega)]
      simp only [nb1,nb2,nb4,tb]
      rfl
    rw [A10 hb hh (7+D7 b+4) 1 1 rfl (by omega) e12]
    simp only
    rw [show 7+D7 b+4=11+D7 b by omega,hM,show 11+D7 b+1=12+D7 b by omega,C4Q hh (12+D7 b) (P3 b) (by omega) c4]
    rfl
theorem A3p:∀ x:List UInt8,Op.bytesLess x x=false
  | []=>rfl
  | a::x=>by
    have h:¬ a<a:=UInt8.lt_irrefl a
    simp [Op.bytesLess,A3p x,h]
theorem B8Q:∀ {x y z:List UInt8},Op.bytesLess x y=true→Op.bytesLess y z=true→Op.bytesLess x z=true
  | _,[],_,h,_=>by cases ‹List UInt8›<;>simp [Op.bytesLess] at h
  | _,_::_,[],_,h=>by simp [Op.bytesLess] at h
  | [],_::_,_::_,_,_=>rfl
  | a::x,b::y,c::z,h1,h2=>by
    simp only [Op.bytesLess,Bool.or_eq_true,Bool.and_eq_true,decide_eq_true_eq,beq_iff_eq] at h1 h2 ⊢
    rcases h1 with h1 | ⟨rfl,h1⟩
    · rcases h2 with h2 | ⟨rfl,h2⟩
      · exact .inl (UInt8.lt_trans h1 h2)
      · exact .inl h1
    · rcases h2 with h2 | ⟨rfl,h2⟩
      · exact .inl h2
      · exact .inr ⟨rfl,B8Q h1 h2⟩
theorem D14:∀ {x y:List UInt8},Op.bytesLess x y=false→Op.bytesLess y x=false→x=y
  | [],[],_,_=>rfl
  | [],_::_,h,_=>by simp [Op.bytesLess] at h
  | _::_,[],_,h=>by simp [Op.bytesLess] at h
  | a::x,b::y,h1,h2=>by
    simp only [Op.bytesLess,Bool.or_eq_false_iff,decide_eq_false_iff_not,Bool.and_eq_false_iff,beq_eq_false_iff_ne] at h1 h2
    have hab:a=b:=by
      apply UInt8.le_antisymm
      · exact UInt8.not_lt.1 h2.1
      · exact UInt8.not_lt.1 h1.1
    subst hab
    exact congrArg (a::·) (D14 (by simpa using h1.2) (by simpa using h2.2))
theorem D99{x y:List UInt8}(h:Op.bytesLess x y=true):Op.bytesLess y x=false:=by
  cases e:Op.bytesLess y x with
  | false=>rfl
  | true=>have:=B8Q h e;rw [A3p] at this;cases this
def Ord(us:List TUp):Prop:=us.Pairwise fun a b=>Op.bytesLess a.1.toList b.1.toList=true
theorem C9D{us:List TUp}(h:Ord us){i j:Nat}(hij:i<j)(hj:j<us.length):Op.bytesLess (us[i]'(by omega)).1.toList us[j].1.toList=true:=List.pairwise_iff_getElem.1 h i j (by omega) hj hij
def B4(us:List TUp)(id:ByteArray):Nat:=O4 (fun i=>Op.bytesLess (rd kUp us (i:Int)).1.toList id.toList) 0 us.length
def H1(us:List TUp)(id:ByteArray):Bool:=decide (B4 us id<us.length)&&((rd kUp us (B4 us id:Int)).1.toList == id.toList)
theorem A6V(go:Nat→Bool):∀ k i j,i≤j→j<O4 go i k→go j=true
  | 0,i,j,h1,h2=>by simp only [O4] at h2;omega
  | k+1,i,j,h1,h2=>by
    simp only [O4] at h2
    split at h2
    · rename_i hg
      by_cases e:j=i
      · rw [e];exact hg
      · exact A6V go k (i+1) j (by omega) h2
    · omega
theorem A9G(go:Nat→Bool)(n p:Nat)(hp:p≤n)(h1:∀ j,j<p→go j=true)(h2:p<n→go p=false):O4 go 0 n=p:=by
  have hl:=C0C go n 0
  rcases Nat.lt_trichotomy (O4 go 0 n) p with h | h | h
  · have:=A4i go n 0 (by omega)
    rw [h1 _ h] at this;cases this
  · exact h
  · have:=A6V go n 0 p (by omega) h
    rw [h2 (by omega)] at this;cases this
theorem A6W(us:List TUp)(id:ByteArray):B4 us id≤us.length:=by have:=C0C (fun i=>Op.bytesLess (rd kUp us (i:Int)).1.toList id.toList) us.length 0;unfold B4;omega
theorem B4J{us:List TUp}{id:ByteArray}{j:Nat}(hj:j<B4 us id):Op.bytesLess (us[j]'(by have:=A6W us id;omega)).1.toList id.toList=true:=by
  have:=A6V _ us.length 0 j (by omega) hj
  rwa [C7 (k:=kUp) (xs:=us) (by have:=A6W us id;omega)] at this
theorem B8R{us:List TUp}{id:ByteArray}(h:B4 us id<us.length):Op.bytesLess us[B4 us id].1.toList id.toList=false:=by
  have:=A4i (fun i=>Op.bytesLess (rd kUp us (i:Int)).1.toList id.toList) us.length 0 (by unfold B4 at h;omega)
  have h2:Op.bytesLess (rd kUp us (B4 us id:Int)).1.toList id.toList=false:=this
  rwa [C7 (k:=kUp) (xs:=us) h] at h2
theorem D9A{us:List TUp}(ho:Ord us){id:ByteArray}{j:Nat}(hj:B4 us id≤j)(hl:j<us.length):Op.bytesLess us[j].1.toList id.toList=false:=by
  rcases Nat.eq_or_lt_of_le hj with e | h
  · subst e;exact B8R hl
  · cases e:Op.bytesLess us[j].1.toList id.toList with
    | false=>rfl
    | true=>
      have:=B8Q (C9D ho h hl) e
      rw [B8R (by omega)] at this
      cases this
theorem J0{us:List TUp}{id:ByteArray}:H1 us id=true↔∃ h:B4 us id<us.length,us[B4 us id].1.toList=id.toList:=by
  unfold H1
  constructor
  · intro h
    simp only [Bool.and_eq_true,decide_eq_true_eq,beq_iff_eq] at h
    refine ⟨h.1,?_⟩
    have h2:=h.2
    rwa [C7 (k:=kUp) (xs:=us) h.1] at h2
  · rintro ⟨h,e⟩
    simp only [Bool.and_eq_true,decide_eq_true_eq,beq_iff_eq]
    refine ⟨h,?_⟩
    rw [C7 (k:=kUp) (xs:=us) h]
    exact e
theorem B8S{us:List TUp}(ho:Ord us){id:ByteArray}(hn:H1 us id=false){j:Nat}(hj:B4 us id≤j)(hl:j<us.length):Op.bytesLess id.toList us[j].1.toList=true:=by
  cases e:Op.bytesLess id.toList us[j].1.toList with
  | true=>rfl
  | false=>
    have h1:=D14 (D9A ho hj hl) e
    exfalso
    rcases Nat.eq_or_lt_of_le hj with e2 | h
    · subst e2
      have:=J0.2 ⟨hl,h1⟩
      rw [hn] at this;cases this
    · have h2:=C9D ho h hl
      rw [h1,B8R (by omega)] at h2
      cases h2
theorem C4R{us:List TUp}(ho:Ord us){id:ByteArray}(h:H1 us id=true):B8P us id=B4 us id:=by
  obtain ⟨hl,e⟩:=J0.1 h
  refine A9G _ us.length _ (A6W us id) (fun j hj=>?_) (fun _=>?_)
  · rw [C7 (k:=kUp) (xs:=us) (by omega)]
    have h1:=B4J hj
    cases e2:((us[j]'(by omega)).1.toList == id.toList) with
    | false=>rfl
    | true=>
      rw [eq_of_beq e2,A3p] at h1
      cases h1
  · rw [C7 (k:=kUp) (xs:=us) hl,e]
    simp
theorem C4S{us:List TUp}(ho:Ord us){id:ByteArray}(h:H1 us id=false):B8P us id=us.length:=by
  refine A9G _ us.length _ (Nat.le_refl _) (fun j hj=>?_) (fun h=>by omega)
  rw [C7 (k:=kUp) (xs:=us) hj]
  cases e2:(us[j].1.toList == id.toList) with
  | false=>rfl
  | true=>
    exfalso
    have e3:=eq_of_beq e2
    by_cases hp:j<B4 us id
    · have h1:=B4J hp
      rw [e3,A3p] at h1
      cases h1
    · have h1:=B8S ho h (show B4 us id≤j by omega) hj
      rw [e3,A3p] at h1
      cases h1
theorem C86(us:List TUp)(id:ByteArray)(h:us.length≤maxLen):A1g us id=some ((B4 us id:Int),H1 us id,()):=by
  simp only [A1g,B8I]
  have e:=A1v (A7p us id) (fun i=>((i:Int),())) us.length (fun i=>((i:Int),())) (fun i=>Op.bytesLess (rd kUp us (i:Int)).1.toList id.toList) (fun i hi=>?_) ?_
  · have e':B9 (A7p us id) (0,())=some ((B4 us id:Int),()):=e
    rw [e']
    simp only [A4]
    have hle:=A6W us id
    unfold H1
    by_cases hl:B4 us id<us.length
    · rw [A0 (show (B4 us id:Int)<(us.length:Int) by omega),A0 (show (0:Int)≤(B4 us id:Int) by omega),A0 hl]
      simp
    · rw [A3 (show ¬ (B4 us id:Int)<(us.length:Int) by omega),A3 hl]
      simp
  · have h1:((i:Int)<(us.length:Int)):=by omega
    have h2:(0:Int)≤(i:Int):=by omega
    simp only [A7p,A0 h1,A0 h2,cond_true]
    rw [w64 (by omega) (by simp only [maxLen] at h;omega)]
    cases Op.bytesLess (rd kUp us (i:Int)).1.toList id.toList<;>simp
  · simp [A7p]
theorem B7W(us:List TUp)(h:us.length≤1048576)(hd:∀ u∈us,List.length u.2.2.1≤2000000000):L0 us=some (us,()):=by
  simp only [L0,A4J]
  have key:=D4 (A2D us) (fun i=>((i:Int),us.take i,())) us.length (us,()) (fun i hi=>?_) ?_
  · simpa using key
  · have h1:((i:Int)<(us.length:Int)):=by omega
    have h2:(0:Int)≤(i:Int):=by omega
    have hu:List.length (rd kUp us (i:Int)).2.2.1≤2000000000:=by
      rw [C7 (k:=kUp) (xs:=us) hi]
      exact hd _ (List.getElem_mem hi)
    have e:((rd kUp us (i:Int)).1,(rd kUp us (i:Int)).2.1,[]++(rd kUp us (i:Int)).2.2.1,(rd kUp us (i:Int)).2.2.2)=us[i]:=by
      rw [C7 (k:=kUp) (xs:=us) hi]
      rfl
    simp only [A2D,A0 h1,A0 h2,cond_true,e]
    rw [A0 (by simp;omega),A0 (by simp;omega),A0 (by simp;omega),A0 (by simp;omega),w64 (by omega) (by omega)]
    simp only [cond_true]
    rw [List.take_succ_eq_append_getElem hi]
    rfl
  · simp [A2D]
theorem D3v(us:List TUp)(u:TUp)(ho:Ord us)(h:us.length≤1048576)(hd:∀ u∈us,List.length u.2.2.1≤2000000000) :
    ∃ k,k≤us.length∧O2 us u=some (us.take k++u::us.drop k,())∧(H1 us u.1=false→k=B4 us u.1):=by
  simp only [O2,A0A,B7W us h hd,A4]
  rw [A0 (by simp;omega),A0 (by simp;omega)]
  simp only [cond_true]
  have hst:IntKind.i64.wrap (((us ++ [u]).length:Int)-1)=(us.length:Int):=by
    rw [w64 (by simp only [List.length_append,List.length_singleton];omega) (by simp only [List.length_append,List.length_singleton];omega)]
    simp
  rw [hst]
  obtain ⟨z,e,k,hz1,hz2,hz3⟩:=V5 (X6 u) (fun l=>l.1.toNat)
    (fun l=>∃ (k:Nat) (c:TUp),l.1=(k:Int)∧k≤us.length∧l.2.1=us.take k++c::us.drop k∧(H1 us u.1=false→B4 us u.1≤k))
    (fun z=>∃ k:Nat,k≤us.length∧(H1 us u.1=false→k=B4 us u.1)∧∃ c,z=((k:Int),us.take k++c::us.drop k,())) (fun l hl=>by
      obtain ⟨l1,l2,l3⟩:=l
      obtain ⟨k,c,h1,h2,h3,h4⟩:=hl
      simp only at h1 h3
      subst h1;subst h3
      simp only [X6]
      by_cases hk:k=0
      · subst hk
        refine .inr ⟨_,by rw [A3 (by omega)];rfl,0,by omega,fun q=>?_,c,rfl⟩
        have:=h4 q;omega
      · obtain ⟨k,rfl⟩:∃ k',k=k'+1:=⟨k-1,by omega⟩
        have hlen:(us.take (k+1)++c::us.drop (k+1)).length=us.length+1:=by simp;omega
        have ew:IntKind.i64.wrap (((k+1:Nat):Int)-1)=(k:Int):=by rw [w64 (by omega) (by omega)];omega
        have hget:rd (.pair .str (.pair (.int .i64) (.pair (.rs 5 (.int .u8)) .bool))) (us.take (k+1)++c::us.drop (k+1)) (k:Int)=us[k]'(by omega):=by
          rw [C7 (k:=.pair .str (.pair (.int .i64) (.pair (.rs 5 (.int .u8)) .bool))) (xs:=us.take (k+1)++c::us.drop (k+1)) (by rw [hlen];omega)]
          rw [List.getElem_append_left (by simp;omega),List.getElem_take]
        rw [A0 (show ((k+1:Nat):Int)>0 by omega),ew,hlen,A0 (show (0:Int)≤(k:Int) by omega),A0 (show (k:Int)<((us.length+1:Nat):Int) by omega),hget]
        simp only [cond_true]
        have hlen2:(k:Int)+1=((k+1:Nat):Int):=by omega
        cases hc:(!(Op.bytesLess (us[k]'(by omega)).1.toList u.1.toList||((us[k]'(by omega)).1.toList == u.1.toList))) with
        | false=>
          refine Or.inr ⟨(((k+1:Nat):Int),us.take (k+1)++c::us.drop (k+1),()),rfl,k+1,h2,fun q=>?_,c,rfl⟩
          have h5:=h4 q
          by_cases hkp:B4 us u.1≤k
          · have h6:=B8S ho q hkp (by omega)
            simp only [Bool.not_eq_false',Bool.or_eq_true,beq_iff_eq] at hc
            rcases hc with hc | hc
            · rw [D99 h6] at hc;cases hc
            · rw [hc,A3p] at h6;cases h6
          · omega
        | true=>
          refine Or.inl ⟨((k:Int),us.take k++(us[k]'(by omega))::us.drop k,()),?_,⟨k,us[k]'(by omega),rfl,by omega,rfl,fun q=>?_⟩,by simp only;omega⟩
          · simp only [cond_true,B7]
            rw [A0 (show (0:Int)≤((k+1:Nat):Int) by omega),A0 (show ((k+1:Nat):Int)<((us.length+1:Nat):Int) by omega)]
            simp only [cond_true,A4,Int.toNat_natCast]
            have e1:(us.take (k+1)++c::us.drop (k+1)).set (k+1) (us[k]'(by omega))=us.take k++(us[k]'(by omega))::us.drop k:=by
              rw [List.set_append_right _ _ (by simp;omega)]
              rw [show (us.take (k+1)).length=k+1 by simp;omega,Nat.sub_self,List.set_cons_zero,List.take_succ_eq_append_getElem (by omega),List.append_assoc,List.drop_eq_getElem_cons (i:=k) (by omega)]
              rfl
            rw [e1]
          · have h5:=h4 q
            by_cases hkp:k<B4 us u.1
            · have h6:=B4J hkp
              rw [h6] at hc
              simp at hc
            · omega) ((us.length:Int),us ++ [u],()) ⟨us.length,u,rfl,Nat.le_refl _,by simp,fun _=>A6W us u.1⟩
  obtain ⟨c,rfl⟩:=hz3
  rw [e]
  simp only
  have hlen:(us.take k++c::us.drop k).length=us.length+1:=by simp;omega
  rw [A0 (by omega),A0 (by rw [hlen];omega)]
  simp only [cond_true,Int.toNat_natCast]
  refine ⟨k,hz1,?_,hz2⟩
  rw [List.set_append_right _ _ (by simp;omega),show (us.take k).length=k by simp;omega,Nat.sub_self,List.set_cons_zero]
def B4K(r:H3):Prop:=Q1 r=true∧Byt r.2.2.2.2.2
def UpG(u:TUp):Prop:=(List.length u.2.2.1:Int)≤u.2.1∧u.2.1≤1000000000∧u.1.size≤8∧Byt u.2.2.1
def Ups(us:List TUp):Prop:=Ord us∧us.length≤10∧∀ u∈us,UpG u
theorem A9H:Ups []:=⟨List.Pairwise.nil,by simp,fun u hu=>by cases hu⟩
theorem A9I{us:List TUp}(h:Ups us):∀ u∈us,List.length u.2.2.1≤2000000000:=fun u hu=>by have h1:=(h.2.2 u hu).1;have h2:=(h.2.2 u hu).2.1;omega
def K7(us:List TUp)(r:H3):Option (List TUp):=
  let p:=B4 us r.2.2.2.1
  let u:=rd kUp us (p:Int)
  if r.2.2.1=1 then (if H1 us r.2.2.2.1=true∨10≤us.length then none else some (us.take p++(r.2.2.2.1,r.2.2.2.2.1,[],false)::us.drop p))
  else if H1 us r.2.2.2.1=false then none
  else if r.2.2.1=2 then (if u.2.2.2=true∨r.2.2.2.2.1≠(List.length u.2.2.1:Int)∨(List.length u.2.2.1:Int)+(List.length r.2.2.2.2.2:Int)>u.2.1 then none else some (us.set p (u.1,u.2.1,u.2.2.1++r.2.2.2.2.2,u.2.2.2)))
  else if r.2.2.1=3 then (if u.2.2.2=true∨(List.length u.2.2.1:Int)≠u.2.1 then none else some (us.set p (u.1,u.2.1,u.2.2.1,true)))
  else if r.2.2.1=4 then some (us.take p++us.drop (p+1))
  else none
def B2q(us:List TUp)(r:H3):List TUp×Bool×Unit:=match K7 us r with
  | some us'=>(us',true,())
  | none=>([],false,())
theorem C87(us:List TUp)(r:H3)(h:Ups us)(h2:List.length r.2.2.2.2.2≤1048576):A6I us r=some (B2q us r):=by
  have hl:=h.2.1
  have hp:=A6W us r.2.2.2.1
  simp only [A6I,C4C,C86 us _ (show us.length≤maxLen by simp only [maxLen];omega),A4,B2q,K7]
  by_cases k1:r.2.2.1=1
  · rw [A0 k1,if_pos k1]
    simp only [cond_true]
    cases hh:H1 us r.2.2.2.1 with
    | true=>simp [B7]
    | false=>
      by_cases h10:10≤us.length
      · rw [A0 (show (us.length:Int)≥10 by omega),if_pos (.inr h10)]
        rfl
      · rw [A3 (show ¬ (us.length:Int)≥10 by omega),if_neg (by simp;omega)]
        simp only [cond_false,B7,K4,D5t]
        rw [A0 (by omega),A0 (by omega),A0 (by simp),A0 (by simp;omega)]
        simp [A4]
  rw [A3 k1,if_neg k1]
  simp only [cond_false]
  cases hh:H1 us r.2.2.2.1 with
  | false=>simp
  | true=>
    obtain ⟨hlt,hid⟩:=J0.1 hh
    have hu:(List.length us[B4 us r.2.2.2.1].2.2.1:Int)≤us[B4 us r.2.2.2.1].2.1∧us[B4 us r.2.2.2.1].2.1≤1000000000:=⟨(h.2.2 _ (List.getElem_mem hlt)).1,(h.2.2 _ (List.getElem_mem hlt)).2.1⟩
    have hrd:rd kUp us (B4 us r.2.2.2.1:Int)=us[B4 us r.2.2.2.1]:=C7 (k:=kUp) (xs:=us) hlt
    simp only [Bool.not_true,cond_false,Bool.true_eq_false,if_false]
    rw [A0 (by omega),A0 (by omega)]
    simp only [cond_true,Int.toNat_natCast,hrd]
    generalize us[B4 us r.2.2.2.1]=u at hu hid ⊢
    by_cases k2:r.2.2.1=2
    · rw [A0 k2,if_pos k2]
      simp only [cond_true]
      cases hd:u.2.2.2 with
      | true=>simp [B7]
      | false=>
        by_cases hn:r.2.2.2.2.1=(List.length u.2.2.1:Int)
        · rw [A0 hn,w64 (by omega) (by omega)]
          by_cases hw:(List.length u.2.2.1:Int)+(List.length r.2.2.2.2.2:Int)>u.2.1
          · rw [A0 hw,if_pos (.inr (.inr hw))]
            rfl
          · rw [A3 hw,if_neg (by simp [hn];omega)]
            simp only [Bool.not_true,cond_false,B7]
            rw [A0 (by omega),A0 (by omega)]
            rfl
        · rw [A3 hn,if_pos (.inr (.inl hn))]
          rfl
    rw [A3 k2,if_neg k2]
    by_cases k3:r.2.2.1=3
    · rw [A0 k3,if_pos k3]
      simp only [cond_true,cond_false]
      cases hd:u.2.2.2 with
      | true=>simp
      | false=>
        by_cases hn:(List.length u.2.2.1:Int)=u.2.1
        · rw [A0 hn,if_neg (by simp [hn])]
          rfl
        · rw [A3 hn,if_pos (.inr hn)]
          rfl
    rw [A3 k3,if_neg k3]
    by_cases k4:r.2.2.1=4
    · rw [A0 k4,if_pos k4,w64 (n:=(B4 us r.2.2.2.1:Int)+1) (by omega) (by omega)]
      simp only [cond_true,cond_false,K6,B2o]
      rw [A0 (by omega),A0 (by omega),A0 (by omega)]
      simp only [cond_true,Int.toNat_natCast]
      rw [show ((B4 us r.2.2.2.1:Int)+1).toNat=B4 us r.2.2.2.1+1 by omega]
    rw [A3 k4,if_neg k4]
    rfl
theorem D15(us:List TUp)(r:H3)(h:Ups us)(h2:List.length r.2.2.2.2.2≤1048576):∃ x,O3 us r=some (x,(B2q us r).2.1,())∧((B2q us r).2.1=true→x=(B2q us r).1):=by
  have hl:=h.2.1
  have hp:=A6W us r.2.2.2.1
  have hat:=D0x us r.2.2.2.1 (show us.length≤maxLen by simp only [maxLen];omega)
  have hcp:=B7W us (by omega) (A9I h)
  obtain ⟨k,hk,hmk,hmk2⟩:=D3v us (r.2.2.2.1,r.2.2.2.2.1,[],false) h.1 (by omega) (A9I h)
  simp only [O3,A5O,hat,hcp,hmk,A4,B2q,K7]
  by_cases k1:r.2.2.1=1
  · rw [A0 k1,if_pos k1]
    simp only [cond_true]
    cases hh:H1 us r.2.2.2.1 with
    | true=>
      obtain ⟨hlt,hid⟩:=J0.1 hh
      rw [C4R h.1 hh,if_pos hlt,A3 (by omega)]
      simp
    | false=>
      have hk2:=hmk2 hh
      simp only at hk2
      rw [C4S h.1 hh,if_neg (Nat.lt_irrefl _),A0 (by omega)]
      simp only [cond_true]
      by_cases h10:10≤us.length
      · rw [A3 (by omega),if_pos (.inr h10)]
        simp
      · rw [A0 (by omega),if_neg (by simp;omega),hk2]
        simp
  rw [A3 k1,if_neg k1]
  simp only [cond_false]
  cases hh:H1 us r.2.2.2.1 with
  | false=>
    rw [C4S h.1 hh,if_neg (Nat.lt_irrefl _),A0 (by omega)]
    simp
  | true=>
    obtain ⟨hlt,hid⟩:=J0.1 hh
    have hu:(List.length us[B4 us r.2.2.2.1].2.2.1:Int)≤us[B4 us r.2.2.2.1].2.1∧us[B4 us r.2.2.2.1].2.1≤1000000000:=⟨(h.2.2 _ (List.getElem_mem hlt)).1,(h.2.2 _ (List.getElem_mem hlt)).2.1⟩
    have hrd:rd kUp us (B4 us r.2.2.2.1:Int)=us[B4 us r.2.2.2.1]:=C7 (k:=kUp) (xs:=us) hlt
    rw [C4R h.1 hh,if_pos hlt,A3 (by omega)]
    simp only [cond_false,Bool.true_eq_false,if_false]
    rw [A0 (by omega),A0 (by omega)]
    simp only [cond_true,Int.toNat_natCast,hrd]
    generalize us[B4 us r.2.2.2.1]=u at hu hid ⊢
    by_cases k2:r.2.2.1=2
    · rw [A0 k2,if_pos k2]
      simp only [cond_true]
      cases hd:u.2.2.2 with
      | true=>simp [B7]
      | false=>
        by_cases hn:r.2.2.2.2.1=(List.length u.2.2.1:Int)
        · rw [A0 hn,hn,w64 (by omega) (by omega)]
          by_cases hw:(List.length u.2.2.1:Int)+(List.length r.2.2.2.2.2:Int)>u.2.1
          · rw [A0 hw,if_pos (.inr (.inr hw))]
            exact ⟨_,rfl,fun e=>by cases e⟩
          · rw [A3 hw,if_neg (by simp;omega)]
            simp only [Bool.not_true,cond_false,B7]
            rw [A0 (by omega),A0 (by omega)]
            exact ⟨_,rfl,fun _=>rfl⟩
        · rw [A3 hn,if_pos (.inr (.inl hn))]
          exact ⟨_,rfl,fun e=>by cases e⟩
    rw [A3 k2,if_neg k2]
    by_cases k3:r.2.2.1=3
    · rw [A0 k3,if_pos k3]
      simp only [cond_true,cond_false]
      cases hd:u.2.2.2 with
      | true=>simp
      | false=>
        by_cases hn:(List.length u.2.2.1:Int)=u.2.1
        · rw [A0 hn,if_neg (by simp [hn])]
          exact ⟨_,rfl,fun _=>rfl⟩
        · rw [A3 hn,if_pos (.inr hn)]
          exact ⟨_,rfl,fun e=>by cases e⟩
    rw [A3 k3,if_neg k3]
    by_cases k4:r.2.2.1=4
    · rw [A0 k4,if_pos k4,w64 (n:=(B4 us r.2.2.2.1:Int)+1) (by omega) (by omega)]
      simp only [cond_true,cond_false]
      rw [A0 (by omega),A0 (by omega),A0 (by omega),A0 (by omega)]
      simp only [cond_true]
      rw [show ((B4 us r.2.2.2.1:Int)+1).toNat=B4 us r.2.2.2.1+1 by omega,A0 (by omega)]
      simp only [cond_true,List.take_length]
      exact ⟨_,rfl,fun _=>rfl⟩
    rw [A3 k4,if_neg k4]
    exact ⟨_,rfl,fun e=>by cases e⟩
theorem D5x{us:List TUp}(h:Ord us)(p:Nat)(hp:p<us.length)(u:TUp)(hu:u.1=us[p].1):Ord (us.set p u):=by
  refine List.pairwise_iff_getElem.2 fun i j hi hj hij=>?_
  simp only [List.length_set] at hi hj
  have hk:∀ q (hq:q<us.length),((us.set p u)[q]'(by simpa using hq)).1=us[q].1:=fun q hq=>by
    rw [List.getElem_set]
    split
    · rename_i e;subst e;exact hu
    · rfl
  rw [hk i hi,hk j hj]
  exact C9D h hij hj
theorem B4L{us us':List TUp}{r:H3}(h:Ups us)(hr':B4K r)(e:K7 us r=some us'):Ups us':=by
  have hr:=hr'.1
  have hp:=A6W us r.2.2.2.1
  have hb:=A0M hr
  simp only [K7] at e
  split at e
  · split at e
    · cases e
    rename_i hc
    injection e with e
    subst e
    have hnh:H1 us r.2.2.2.1=false:=by cases q:H1 us r.2.2.2.1;rfl;exact absurd (.inl q) hc
    refine ⟨?_,by simp;omega,fun u hu=>?_⟩
    · show List.Pairwise _ _
      rw [List.pairwise_append]
      refine ⟨h.1.sublist (List.take_sublist _ _),List.pairwise_cons.2 ⟨fun b hb=>?_,h.1.sublist (List.drop_sublist _ _)⟩,fun a ha b hb=>?_⟩
      · obtain ⟨j,hj,rfl⟩:=List.getElem_of_mem hb
        rw [List.getElem_drop]
        exact B8S h.1 hnh (by omega) _
      · obtain ⟨j,hj,rfl⟩:=List.getElem_of_mem ha
        rw [List.length_take] at hj
        rw [List.getElem_take]
        have h1:=B4J (us:=us) (id:=r.2.2.2.1) (j:=j) (by omega)
        rcases List.mem_cons.1 hb with rfl | hb
        · exact h1
        · obtain ⟨q,hq,rfl⟩:=List.getElem_of_mem hb
          rw [List.getElem_drop]
          rw [List.length_drop] at hq
          exact B8Q h1 (B8S h.1 hnh (by omega) (by omega))
    · rcases List.mem_append.1 hu with hu | hu
      · exact h.2.2 u (List.mem_of_mem_take hu)
      · rcases List.mem_cons.1 hu with rfl | hu
        · exact ⟨by simp only [List.length_nil];omega,by simp only;omega,hb.2.2.2.2.1,A08⟩
        · exact h.2.2 u (List.mem_of_mem_drop hu)
  split at e
  · cases e
  rename_i _ hh
  have hh:H1 us r.2.2.2.1=true:=by cases q:H1 us r.2.2.2.1;exact absurd q hh;rfl
  obtain ⟨hlt,hid⟩:=J0.1 hh
  have hrd:rd kUp us (B4 us r.2.2.2.1:Int)=us[B4 us r.2.2.2.1]:=C7 (k:=kUp) (xs:=us) hlt
  have hu0:=h.2.2 _ (List.getElem_mem hlt)
  simp only [hrd] at e
  split at e
  · split at e
    · cases e
    rename_i hc
    injection e with e
    subst e
    refine ⟨D5x h.1 _ hlt _ rfl,by simp;exact h.2.1,fun u hu=>?_⟩
    rcases List.mem_or_eq_of_mem_set hu with hu | rfl
    · exact h.2.2 u hu
    · refine ⟨?_,hu0.2.1,hu0.2.2.1,C9B hu0.2.2.2 hr'.2⟩
      simp only [List.length_append]
      have:¬ ((List.length us[B4 us r.2.2.2.1].2.2.1:Int)+(List.length r.2.2.2.2.2:Int)>us[B4 us r.2.2.2.1].2.1):=fun q=>hc (.inr (.inr q))
      omega
  split at e
  · split at e
    · cases e
    injection e with e
    subst e
    refine ⟨D5x h.1 _ hlt _ rfl,by simp;exact h.2.1,fun u hu=>?_⟩
    rcases List.mem_or_eq_of_mem_set hu with hu | rfl
    · exact h.2.2 u hu
    · exact hu0
  split at e
  · injection e with e
    subst e
    refine ⟨?_,by have:=h.2.1;simp only [List.length_append,List.length_take,List.length_drop];omega,fun u hu=>?_⟩
    · show List.Pairwise _ _
      rw [List.pairwise_append]
      refine ⟨h.1.sublist (List.take_sublist _ _),h.1.sublist (List.drop_sublist _ _),fun a ha b hb=>?_⟩
      obtain ⟨j,hj,rfl⟩:=List.getElem_of_mem ha
      obtain ⟨q,hq,rfl⟩:=List.getElem_of_mem hb
      rw [List.length_take] at hj
      rw [List.length_drop] at hq
      rw [List.getElem_take,List.getElem_drop]
      exact C9D h.1 (by omega) (by omega)
    · rcases List.mem_append.1 hu with hu | hu
      · exact h.2.2 u (List.mem_of_mem_take hu)
      · exact h.2.2 u (List.mem_of_mem_drop hu)
  · cases e
def I0:List TUp→List H3→Option (List TUp)
  | us,[]=>some us
  | us,r::l=>match K7 us r with
    | some us'=>I0 us' l
    | none=>none
def Q7(l:List H3):List TUp×Bool×Unit:=match I0 [] l with
  | some us=>(us,true,())
  | none=>([],false,())
theorem A6X:∀ {l:List H3} {us us':List TUp},Ups us→(∀ r∈l,B4K r)→I0 us l=some us'→Ups us'
  | [],us,us',h,_,e=>by simp only [I0,Option.some.injEq] at e;subst e;exact h
  | r::l,us,us',h,hr,e=>by
    simp only [I0] at e
    split at e
    · rename_i us1 e1
      exact A6X (B4L h (hr r (by simp)) e1) (fun x hx=>hr x (by simp [hx])) e
    · cases e
theorem C88{α:Type}(f:α→Option (α⊕((List TUp×Unit)⊕(List TUp×Bool×Unit))))(s:Nat→List TUp→α)(l:List H3)(hr:∀ r∈l,B4K r)
    (hs:∀ (i:Nat) (hi:i<l.length) (us:List TUp),Ups us→f (s i us)=match K7 us l[i] with
      | some us'=>some (.inl (s (i+1) us'))
      | none=>some (.inr (.inr ([],false,()))))
    (he:∀ us,f (s l.length us)=some (.inr (.inl (us,())))):B7 (B9 f (s 0 [])) (fun m=>some (m.1,true,()))=some (Q7 l):=by
  have key:∀ k i us,i+k=l.length→Ups us→B7 (B9 f (s i us)) (fun m=>some (m.1,true,()))=some (match I0 us (l.drop i) with
      | some us'=>(us',true,())
      | none=>([],false,())):=by
    intro k
    induction k with
    | zero=>
      intro i us hi hu
      obtain rfl:i=l.length:=by omega
      rw [A1X,he]
      simp [I0,B7]
    | succ k ih=>
      intro i us hi hu
      have hlt:i<l.length:=by omega
      rw [A1X,hs i hlt us hu,List.drop_eq_getElem_cons hlt]
      simp only [I0]
      cases e:K7 us l[i] with
      | none=>rfl
      | some us'=>exact ih (i+1) us' (by omega) (B4L hu (hr _ (List.getElem_mem hlt)) e)
  exact key l.length 0 [] (by omega) A9H
theorem B68(l:List H3)(hl:l.length≤maxLen)(hr:∀ r∈l,B4K r):A0e l=some (Q7 l):=by
  simp only [A0e,B1r]
  refine C88 (A4H A6I l) (fun i us=>((i:Int),us,())) l hr (fun i hi us hu=>?_) (fun us=>by simp [A4H])
  have h1:((i:Int)<(l.length:Int)):=by omega
  have h2:(0:Int)≤(i:Int):=by omega
  have hb:=A0M (hr _ (List.getElem_mem hi)).1
  simp only [A4H,A0 h1,A0 h2,cond_true]
  rw [C7 (k:=A76) (xs:=l) hi,C87 us _ hu (by omega),w64 (by omega) (by simp only [maxLen] at hl;omega)]
  simp only [A4,B2q]
  cases K7 us l[i]<;>rfl
theorem A2p(l:List H3)(hl:l.length≤maxLen)(hr:∀ r∈l,B4K r):N5 l=some (Q7 l):=by
  simp only [N5,A3Z]
  refine C88 (Y3 O3 l) (fun i us=>(us,(i:Int),())) l hr (fun i hi us hu=>?_) (fun us=>by simp [Y3])
  have h1:((i:Int)<(l.length:Int)):=by omega
  have h2:(0:Int)≤(i:Int):=by omega
  have hb:=A0M (hr _ (List.getElem_mem hi)).1
  obtain ⟨x,hx,hx2⟩:=D15 us l[i] hu (by omega)
  simp only [Y3,A0 h1,A0 h2,cond_true]
  rw [C7 (k:=A76) (xs:=l) hi,hx,w64 (by omega) (by simp only [maxLen] at hl;omega)]
  simp only [A4,B2q] at hx2 ⊢
  cases e:K7 us l[i] with
  | none=>rfl
  | some us'=>
    rw [e] at hx2
    rw [hx2 rfl]
    rfl
def A6Y(l:List ByteArray):Prop:=l.length≤1048576∧∀ s∈l,s.size≤1048576
theorem A68{l:List ByteArray}(h:A6Y l){i:Nat}(hi:i<l.length):(rd .str l (i:Int)).size≤1048576:=by
  rw [A5c hi]
  exact h.2 _ (List.getElem_mem hi)
theorem C1X{s:ByteArray}(h:(D5 s).2.1=true):B4K (D5 s).1:=by
  unfold D5 at h ⊢
  split at h
  · rename_i hg
    rw [if_pos hg]
    simp only [A9F,Bool.and_eq_true] at hg
    exact ⟨hg.1.2,C0J (A9E s)⟩
  · cases h
theorem D71(d:E9)(h:A6Y d.1)(l:Int×Int×List H3×Unit)(h0:0≤l.2.1):A4G A0c d l=S5 L1 d l:=by
  simp only [A4G,S5]
  by_cases hi:l.2.1<(d.1.length:Int)
  · obtain ⟨i,hn⟩:∃ i:Nat,l.2.1=(i:Int):=⟨l.2.1.toNat,by omega⟩
    rw [hn] at hi ⊢
    rw [A6U _ (A68 h (by omega)),B4I _ (A68 h (by omega))]
  · rw [A3 hi]
    rfl
theorem D5y(d:E9)(h:A6Y d.1):∃ l,Y2 d=some (l,())∧A0d d=some (l,())∧l.length≤d.1.length∧∀ r∈l,B4K r:=by
  have hl:=h.1
  obtain ⟨z,e,hz1,hz2⟩:=V5 (S5 L1 d) (fun l=>((d.1.length:Int)-l.2.1).toNat) (fun l=>0≤l.2.1∧(List.length l.2.2.1:Int)=l.2.1∧l.2.1≤(d.1.length:Int)∧∀ r∈l.2.2.1,B4K r)
    (fun z=>List.length z.1≤d.1.length∧∀ r∈z.1,B4K r) (fun l hl=>by
      obtain ⟨h0,h1,h2,h3⟩:=hl
      simp only [S5]
      by_cases hi:l.2.1<(d.1.length:Int)
      · obtain ⟨i,hn⟩:∃ i:Nat,l.2.1=(i:Int):=⟨l.2.1.toNat,by omega⟩
        rw [A0 hi,A0 h0]
        simp only [cond_true]
        rw [hn] at hi h0 h1 h2 ⊢
        rw [A6U _ (A68 h (by omega))]
        simp only [A4]
        have hg:=@C1X (rd .str d.1 (i:Int))
        generalize D5 (rd .str d.1 (i:Int))=g at hg ⊢
        have fin:List.length l.2.2.1≤d.1.length∧∀ r∈l.2.2.1,B4K r:=⟨by omega,h3⟩
        cases hk:g.2.1 with
        | false=>exact .inr ⟨_,rfl,fin⟩
        | true=>
          simp only [Bool.not_true,cond_false]
          by_cases e1:g.1.2.1=(i:Int)
          · rw [A0 e1]
            by_cases e2:g.1.1<l.1
            · rw [A0 e2];exact .inr ⟨_,rfl,fin⟩
            · rw [A3 e2]
              simp only [Bool.not_true,cond_false]
              rw [A0 (by simp;omega),A0 (by simp;omega),w64 (by omega) (by omega)]
              refine .inl ⟨_,rfl,⟨by simp only;omega,by simp;omega,by simp only;omega,fun r hr=>?_⟩,by simp only;omega⟩
              rcases List.mem_append.1 hr with hr | hr
              · exact h3 r hr
              · rw [List.mem_singleton.1 hr];exact hg hk
          · rw [A3 e1];exact .inr ⟨_,rfl,fin⟩
      · rw [A3 hi]
        exact .inr ⟨_,rfl,by simp only;omega,h3⟩) (0,0,[],()) ⟨by simp,by simp,by simp,fun r hr=>by cases hr⟩
  refine ⟨z.1,e,?_,hz1,hz2⟩
  simp only [A0d,B1q]
  rw [A9A (g:=S5 L1 d) (fun l=>0≤l.2.1) (fun l h0=>D71 d h l h0) (fun l y h0 e=>?_) (by simp)]
  · exact e
  · simp only [A4G] at e
    by_cases hi:l.2.1<(d.1.length:Int)
    · obtain ⟨i,hn⟩:∃ i:Nat,l.2.1=(i:Int):=⟨l.2.1.toNat,by omega⟩
      rw [A0 hi,A0 h0] at e
      simp only [cond_true] at e
      rw [hn] at hi h0 e
      rw [B4I _ (A68 h (by omega))] at e
      simp only [A4] at e
      rw [w64 (n:=(i:Int)+1) (by omega) (by omega)] at e
      generalize D5 (rd .str d.1 (i:Int))=g at e
      cases hk:g.2.1<;>simp only [hk,Bool.not_true,Bool.not_false,cond_true,cond_false] at e
      · cases e
      · revert e
        cases decide (g.1.2.1=(i:Int))<;>cases decide (g.1.1<l.1)<;>simp only [Bool.not_true,Bool.not_false,cond_true,cond_false]
        · intro e;cases e
        · intro e;cases e
        · cases decide (List.length l.2.2.1+List.length [g.1]≤9223372036854775807)<;>cases decide ((List.length l.2.2.1+List.length [g.1])*72≤140737488355328)<;>intro e
          · cases e
          · cases e
          · cases e
          · simp only [cond_true] at e
            injection e with e;injection e with e;subst e
            simp only;omega
        · intro e;cases e
    · rw [A3 hi] at e
      cases e
theorem C0L:A1e=T8:=rfl
theorem B4M(d:E9)(h:d.1.length≤1048576):∃ b,T8 d=some (b,())∧(b=true→d.1.length=d.2.length∧d.1.length≤200):=by
  simp only [T8,B1x]
  by_cases h1:(d.1.length:Int)=(d.2.length:Int)
  · rw [A0 h1]
    by_cases h2:(d.1.length:Int)>200
    · rw [A0 h2]
      exact ⟨_,rfl,fun e=>by cases e⟩
    · rw [A3 h2]
      simp only [Bool.not_true,cond_false,B7]
      refine ⟨_,B2p (A0f d) d.1.length (by simp only [maxLen];omega) (fun i=>!decide (((rd .str d.1 (i:Int)).size:Int)>64)&&!decide (((rd .str d.2 (i:Int)).size:Int)>64)) (fun i hi=>?_) (by simp [A0f]),fun _=>by omega⟩
      have g1:((i:Int)<(d.1.length:Int)):=by omega
      have g2:(0:Int)≤(i:Int):=by omega
      have g3:((i:Int)<(d.2.length:Int)):=by omega
      simp only [A0f,A0 g1,A0 g2,A0 g3,cond_true]
      cases decide (((rd .str d.1 (i:Int)).size:Int)>64)<;>cases decide (((rd .str d.2 (i:Int)).size:Int)>64)<;>rfl
  · rw [A3 h1]
    exact ⟨_,rfl,fun e=>by cases e⟩
def A69(a b:TUp):Bool:=(a.1.toList == b.1.toList)&&decide (a.2.1=b.2.1)&&(a.2.2.2 == b.2.2.2)&&((strOf a.2.2.1).toList == (strOf b.2.2.1).toList)
def A11(a b:List TUp):Bool:=decide (a.length=b.length)&&(List.range a.length).all fun i=>A69 (rd kUp a (i:Int)) (rd kUp b (i:Int))
theorem D16(a b:TUp):A7s a b=some (A69 a b,()):=by
  simp only [A7s,B7F,M3,A2Y,A4,A69]
  cases (a.1.toList == b.1.toList)<;>cases decide (a.2.1=b.2.1)<;>cases (a.2.2.2 == b.2.2.2)<;>rfl
theorem D72(a b:List TUp)(h:a.length≤maxLen):C1 a b ()=some (A11 a b,()):=by
  simp only [C1,E7,A11]
  by_cases hl:a.length=b.length
  · rw [A0 (show (a.length:Int)=(b.length:Int) by omega),A0 hl]
    simp only [Bool.not_true,cond_false,Bool.true_and]
    refine B2p _ a.length h (fun i=>A69 (rd kUp a (i:Int)) (rd kUp b (i:Int))) (fun i hi=>?_) (by simp [E2])
    have g1:((i:Int)<(a.length:Int)):=by omega
    have g2:(0:Int)≤(i:Int):=by omega
    have g3:((i:Int)<(b.length:Int)):=by omega
    simp only [E2,A0 g1,A0 g2,A0 g3,cond_true,D16,A4]
    cases A69 (rd kUp a (i:Int)) (rd kUp b (i:Int))<;>rfl
  · rw [A3 (show ¬ (a.length:Int)=(b.length:Int) by omega),A3 hl]
    rfl
theorem C89(a b:List TUp)(h:a.length≤maxLen):A1l a b=some (A11 a b,()):=by
  simp only [A1l,A7w,A11]
  by_cases hl:a.length=b.length
  · rw [A0 (show (a.length:Int)=(b.length:Int) by omega),A0 hl]
    simp only [Bool.not_true,cond_false,Bool.true_and]
    refine B2p _ a.length h (fun i=>A69 (rd kUp a (i:Int)) (rd kUp b (i:Int))) (fun i hi=>?_) (by simp [A5P])
    have g1:((i:Int)<(a.length:Int)):=by omega
    have g2:(0:Int)≤(i:Int):=by omega
    have g3:((i:Int)<(b.length:Int)):=by omega
    simp only [A5P,A0 g1,A0 g2,A0 g3,cond_true,A69]
    cases ((rd kUp a (i:Int)).1.toList == (rd kUp b (i:Int)).1.toList)<;>cases decide ((rd kUp a (i:Int)).2.1=(rd kUp b (i:Int)).2.1)<;>cases ((rd kUp a (i:Int)).2.2.2 == (rd kUp b (i:Int)).2.2.2)<;>cases ((strOf (rd kUp a (i:Int)).2.2.1).toList == (strOf (rd kUp b (i:Int)).2.2.1).toList)<;>rfl
  · rw [A3 (show ¬ (a.length:Int)=(b.length:Int) by omega),A3 hl]
    rfl
def A2q(e:Int)(s:ByteArray):Bool:=(D5 s).2.1&&decide ((D5 s).1.1≥e)
def A3q(t:Int)(s:ByteArray):Int:=bif (D5 s).2.1 then (bif decide ((D5 s).1.1>t) then (D5 s).1.1 else t) else t
def A2U(l:List ByteArray):Int:=l.foldl A3q (-1)
theorem B5Y(e:Int):∀ (l:List ByteArray) (t:Int),decide (l.foldl A3q t<e)=(decide (t<e)&&l.all fun s=>!A2q e s)
  | [],t=>(Bool.and_true _).symm
  | s::l,t=>by
    rw [List.foldl_cons,B5Y e l,List.all_cons]
    unfold A3q A2q
    cases (D5 s).2.1 with
    | false=>simp
    | true=>
      simp only [cond_true,Bool.true_and]
      by_cases h1:(D5 s).1.1>t
      · rw [A0 h1]
        by_cases h2:(D5 s).1.1≥e
        · rw [A0 h2]
          simp only [cond_true]
          rw [A3 (show ¬ (D5 s).1.1<e by omega)]
          simp
        · rw [A3 h2]
          simp only [cond_true]
          rw [A0 (show (D5 s).1.1<e by omega),A0 (show t<e by omega)]
          simp
      · rw [A3 h1]
        simp only [cond_false]
        by_cases h3:t<e
        · rw [A0 h3,A3 (show ¬ (D5 s).1.1≥e by omega)]
          simp
        · rw [A3 h3]
          simp
theorem B8T(l:List ByteArray)(h:A6Y l):A1h l=some (A2U l,()):=by
  have hl:=h.1
  simp only [A1h,B3s]
  have key:=D4 (A5r A0c l) (fun i=>((l.take i).foldl A3q (-1),(i:Int),())) l.length (A2U l,()) (fun i hi=>?_) ?_
  · simpa using key
  · have g1:((i:Int)<(l.length:Int)):=by omega
    have g2:(0:Int)≤(i:Int):=by omega
    simp only [A5r,A0 g1,A0 g2,cond_true]
    rw [B4I _ (A68 h hi),w64 (by omega) (by omega)]
    simp only [A4]
    have e:(l.take (i+1)).foldl A3q (-1)=A3q ((l.take i).foldl A3q (-1)) (rd .str l (i:Int)):=by
      rw [List.take_succ_eq_append_getElem hi,List.foldl_append,A5c hi]
      rfl
    rw [e]
    unfold A3q
    cases (D5 (rd .str l (i:Int))).2.1<;>rfl
  · simp [A5r,A2U]
theorem C4T(go:Nat→Bool)(n:Nat):decide (O4 go 0 n=n)=(List.range n).all go:=by
  rw [Bool.eq_iff_iff]
  simp only [decide_eq_true_eq,List.all_eq_true,List.mem_range]
  constructor
  · intro h j hj
    exact A6V go n 0 j (by omega) (by omega)
  · intro h
    exact A9G go n n (Nat.le_refl _) h (fun h=>by omega)
theorem C8A(st:A7)(h:A6Y st.1.1)(n:Nat)(hn:n≤st.1.1.length):B9 (A1A L1 st) ((n:Int),())=some ((st.1.1.drop n).all fun s=>!A2q st.2.1 s,()):=by
  have hl:=h.1
  have key:=A1v (A1A L1 st) (fun j=>(((n+j:Nat):Int),())) (st.1.1.length-n) (fun j=>(decide (j=st.1.1.length-n),())) (fun j=>!A2q st.2.1 (rd .str st.1.1 ((n+j:Nat):Int))) (fun j hj=>?_) ?_
  · have e:B9 (A1A L1 st) ((n:Int),())=_:=key
    rw [e,C4T]
    congr 2
    rw [Bool.eq_iff_iff]
    simp only [List.all_eq_true,List.mem_range]
    constructor
    · intro h2 s hs
      obtain ⟨j,hj,rfl⟩:=List.getElem_of_mem hs
      rw [List.length_drop] at hj
      have:=h2 j hj
      rw [A5c (by omega)] at this
      rw [List.getElem_drop]
      exact this
    · intro h2 j hj
      rw [A5c (by omega)]
      refine h2 _ ?_
      rw [List.mem_iff_getElem]
      exact ⟨j,by rw [List.length_drop];omega,by rw [List.getElem_drop]⟩
  · have g1:(((n+j:Nat):Int)<(st.1.1.length:Int)):=by omega
    have g2:(0:Int)≤((n+j:Nat):Int):=by omega
    simp only [A1A,A0 g1,A0 g2,cond_true]
    rw [A6U _ (A68 h (by omega)),w64 (by omega) (by omega)]
    simp only [A4,A2q]
    rw [A3 (show ¬ j=st.1.1.length-n by omega)]
    have e2:n+(j+1)=(n+j)+1:=by omega
    simp only [e2,Int.natCast_succ]
    cases (D5 (rd .str st.1.1 ((n+j:Nat):Int))).2.1<;>cases decide ((D5 (rd .str st.1.1 ((n+j:Nat):Int))).1.1≥st.2.1)<;>rfl
  · have g1:¬ (((n+(st.1.1.length-n):Nat):Int)<(st.1.1.length:Int)):=by omega
    simp only [A1A,A3 g1,cond_false]
    simp
def C4U(st:A7):Prop:=0≤st.2.1∧st.2.1≤10000∧st.1.1.length=st.1.2.length∧st.1.1.length≤200∧(0≤st.2.2.1∧st.2.2.1≤(st.1.1.length:Int))∧∃ us,Ups us∧A11 us st.2.2.2=true
theorem C4V(st:A7)(h:A6Y st.1.1):∃ b,F7 st=some (b,())∧A1i st=some (b,())∧(b=true→C4U st):=by
  have hl:=h.1
  obtain ⟨bd,hd,hdt⟩:=B4M st.1 hl
  obtain ⟨l,hs,hi,hll,hrg⟩:=D5y st.1 h
  have hfs:=A2p l (by simp only [maxLen];omega) hrg
  have hfi:=B68 l (by simp only [maxLen];omega) hrg
  have hups:(Q7 l).2.1=true→Ups (Q7 l).1:=by
    intro e
    unfold Q7 at e ⊢
    split
    · rename_i us' e1
      exact A6X A9H hrg e1
    · rename_i e1
      rw [e1] at e;cases e
  simp only [F7,A8w,A1i,B3t,C0L,hd,hs,hi,hfs,hfi,A1c,A8m,N2,L8,A4]
  cases bd with
  | false=>
    by_cases he:0≤st.2.1∧st.2.1≤10000
    · rw [A0 he]
      exact ⟨_,rfl,rfl,fun e=>by cases e⟩
    · rw [A3 he]
      exact ⟨_,rfl,rfl,fun e=>by cases e⟩
  | true=>
    cases he':decide (0≤st.2.1∧st.2.1≤10000) with
    | false=>exact ⟨_,rfl,rfl,fun e=>by cases e⟩
    | true=>
      have he:=of_decide_eq_true he'
      have hd2:=hdt rfl
      simp only [Bool.not_true,cond_false,B7]
      generalize hf:Q7 l=fr at hups
      cases hk:fr.2.1 with
      | false=>exact ⟨_,rfl,rfl,fun e=>by cases e⟩
      | true=>
        have hu:=hups hk
        have hul:=hu.2.1
        rw [C89 _ _ (show fr.1.length≤maxLen by simp only [maxLen];omega),D72 _ _ (show fr.1.length≤maxLen by simp only [maxLen];omega)]
        simp only [Bool.not_true,cond_false]
        cases hn':decide (st.2.2.1=(List.length l:Int)) with
        | false=>
          cases A11 fr.1 st.2.2.2<;>exact ⟨_,rfl,rfl,fun e=>by cases e⟩
        | true=>
          have hn:=of_decide_eq_true hn'
          cases hsm:A11 fr.1 st.2.2.2 with
          | false=>exact ⟨_,rfl,rfl,fun e=>by cases e⟩
          | true=>
            have hg:C4U st:=⟨he.1,he.2,hd2.1,hd2.2,by omega,fr.1,hu,hsm⟩
            simp only [Bool.not_true,cond_false]
            rw [hn,C8A st h l.length hll,A0 (show (0:Int)≤(List.length l:Int) by omega),A0 (show (List.length l:Int)≤(st.1.1.length:Int) by omega),Int.toNat_natCast,List.take_length]
            simp only [cond_true]
            have hdr:A6Y (st.1.1.drop l.length):=⟨by rw [List.length_drop];omega,fun s hs=>h.2 s (List.mem_of_mem_drop hs)⟩
            rw [B8T _ hdr]
            have htop:decide (st.2.1>A2U (st.1.1.drop l.length))=((st.1.1.drop l.length).all fun s=>!A2q st.2.1 s):=by
              have:=B5Y st.2.1 (st.1.1.drop l.length) (-1)
              rw [A0 (show (-1:Int)<st.2.1 by omega),Bool.true_and] at this
              exact this
            simp only [htop]
            by_cases hl0:(List.length l:Int)>0
            · rw [A0 hl0,w64 (n:=(List.length l:Int)-1) (by omega) (by omega),A0 (show (0:Int)≤(List.length l:Int)-1 by omega),A0 (show (List.length l:Int)-1<(List.length l:Int) by omega)]
              simp only [cond_true]
              have hlt:decide (st.2.1<(rd A76 l ((List.length l:Int)-1)).1)=decide ((rd A76 l ((List.length l:Int)-1)).1>st.2.1):=rfl
              rw [hlt]
              cases decide ((rd A76 l ((List.length l:Int)-1)).1>st.2.1) with
              | true=>exact ⟨_,rfl,rfl,fun e=>by cases e⟩
              | false=>exact ⟨_,rfl,rfl,fun _=>hg⟩
            · rw [A3 hl0]
              exact ⟨_,rfl,rfl,fun _=>hg⟩
theorem D17(x:D0):B3u V8 x=M5 R2 x:=by
  have e:V8=R2:=by funext r;rw [B4F,A9D]
  rw [e]
  rfl
theorem E0s(x:D0)(h:x.2.length≤1048576):∃ z,B9 (M5 R2 x) (0,())=some z∧(z=.inl ()∨z=.inr (false,())):=by
  have key:=A1v (M5 R2 x) (fun i=>((i:Int),())) x.2.length (fun i=>if i<x.2.length then .inr (false,()) else .inl ()) (fun i=>T4 (rd A9 x.2 (i:Int)).2) (fun i hi=>?_) ?_
  · refine ⟨_,key,?_⟩
    split
    · exact .inr rfl
    · exact .inl rfl
  · have g1:((i:Int)<(x.2.length:Int)):=by omega
    have g2:(0:Int)≤(i:Int):=by omega
    simp only [M5,A0 g1,A0 g2,cond_true,A9D,A4,if_pos hi]
    rw [w64 (by omega) (by omega)]
    cases T4 (rd A9 x.2 (i:Int)).2<;>rfl
  · simp [M5]
theorem D18(x:D0)(h:A6Y x.1.1.1)(h2:x.2.length≤1048576):∃ b,A0j x=some (b,())∧A4I x=some (b,())∧(b=true→F7 x.1=some (true,())∧C4U x.1∧x.2.length≤200):=by
  obtain ⟨z,hz,hz2⟩:=E0s x h2
  obtain ⟨b,hs,hi,hg⟩:=C4V x.1 h
  simp only [A0j,A7G,A4I,B1s,D17,hz,hs,hi]
  rcases hz2 with rfl | rfl
  · by_cases hl:(x.2.length:Int)≤200
    · rw [A0 hl]
      exact ⟨b,rfl,rfl,fun e=>⟨by rw [e],hg e,by omega⟩⟩
    · rw [A3 hl]
      exact ⟨_,rfl,rfl,fun e=>by cases e⟩
  · exact ⟨_,rfl,rfl,fun e=>by cases e⟩
theorem E21{k:K}{b:List k.T}{i:Nat}(h:i<b.length)(u:k.T):rd k (b.set i u) (i:Int)=u:=by
  rw [C7 (xs:=b.set i u) (by simpa using h)]
  simp
theorem C0M(a:List ByteArray)(h:a.length≤1048576):F9 a=some (a,()):=by
  simp only [F9,T9]
  have e:(bif decide (([]:List ByteArray).length+a.length≤9223372036854775807) then bif decide ((([]:List ByteArray).length+a.length)*16≤140737488355328) then some (([]++a),()) else none else none)=some (a,()):=by
    rw [A0 (by simp;omega),A0 (by simp;omega)]
    simp
  rw [e]
  cases a with
  | nil=>simp [B4D]
  | cons x xs=>simp
theorem C8B(a:List B8)(h:a.length≤1048576):D8 a=some (a,()):=by
  simp only [D8,N6]
  have e:(bif decide (([]:List B8).length+a.length≤9223372036854775807) then bif decide ((([]:List B8).length+a.length)*24≤140737488355328) then some (([]++a),()) else none else none)=some (a,()):=by
    rw [A0 (by simp;omega),A0 (by simp;omega)]
    simp
  rw [e]
  cases a with
  | nil=>simp [B4D]
  | cons x xs=>simp
def A3r(d:E9):Prop:=A6Y d.1∧A6Y d.2
def A8B(s:A7):Prop:=A3r s.1∧List.length s.2.2.2≤1048576∧∀ u∈s.2.2.2,List.length u.2.2.1≤2000000000
def D9B(s:D0):Prop:=A8B s.1∧List.length s.2≤1048576
theorem B00(d:E9)(h:A3r d):U5 d=some (d,()):=by
  simp only [U5,B29,C0M _ h.1.1,C0M _ h.2.1,A4]
theorem A02(d:E9)(h:A3r d):V0 d=some (d,()):=by
  have h1:=h.1.1
  have h2:=h.2.1
  simp only [V0,B40]
  rw [A0 (by simp;omega),A0 (by simp;omega),A0 (by simp;omega),A0 (by simp;omega)]
  simp
theorem D19(u:TUp)(h:List.length u.2.2.1≤2000000000):T7 u=some (u,()):=by
  simp only [T7,B1j,A1C _ (show List.length u.2.2.1≤140737488355328 by omega),A4]
theorem C4W(s:A7)(h:A8B s):A2i s=some (s,()):=by
  simp only [A2i,A9u,B00 _ h.1,A4]
  have hl:=h.2.1
  have key:=D4 (A3N T7 s) (fun i=>((i:Int),s.2.1,s.2.2.1,s.1.1,s.1.2,s.2.2.2.take i,())) s.2.2.2.length (s,()) (fun i hi=>?_) ?_
  · simpa using key
  · have g1:((i:Int)<(s.2.2.2.length:Int)):=by omega
    have g2:(0:Int)≤(i:Int):=by omega
    simp only [A3N,A0 g1,A0 g2,cond_true]
    rw [C7 (k:=kUp) (xs:=s.2.2.2) hi,D19 _ (h.2.2 _ (List.getElem_mem hi))]
    simp only [A4]
    rw [A0 (by simp;omega),A0 (by simp;omega),w64 (by omega) (by omega),List.take_succ_eq_append_getElem hi]
    rfl
  · simp [A3N]
theorem A1y(s:A7)(h:A8B s):L9 s=some (s,()):=by
  simp only [L9,A8u,A02 _ h.1,B7W _ h.2.1 h.2.2,A4]
theorem C2V(s:D0)(h:D9B s):A1q s=some (s,()):=by
  simp only [A1q,A82,C4W _ h.1,C8B _ h.2,A4]
theorem C2W(s:D0)(h:D9B s):A6O s=some (s,()):=by
  have h2:=h.2
  simp only [A6O,B48,A1y _ h.1,A4]
  rw [A0 (by simp;omega),A0 (by simp;omega)]
  simp
theorem D3w(d:E9)(h:A3r d):A2j d=some ((d.1,d.1),()):=by
  simp only [A2j,A9w,C0M _ h.1.1,A4]
theorem C4X(d:E9)(h:A3r d):A2c d=some ((d.1,d.1),()):=by
  have h1:=h.1.1
  simp only [A2c,A9q]
  rw [A0 (by simp;omega),A0 (by simp;omega)]
  simp
theorem A6A(d:E9)(h:A6Y d.1):A4P d=some (A2U d.1,()):=by
  have hl:=h.1
  simp only [A4P,B23]
  have key:=D4 (A4O L1 d) (fun i=>((d.1.take i).foldl A3q (-1),(i:Int),())) d.1.length (A2U d.1,()) (fun i hi=>?_) ?_
  · simpa using key
  · have g1:((i:Int)<(d.1.length:Int)):=by omega
    have g2:(0:Int)≤(i:Int):=by omega
    simp only [A4O,A0 g1,A0 g2,cond_true]
    rw [A6U _ (A68 h hi),w64 (by omega) (by omega)]
    simp only [A4]
    have e:(d.1.take (i+1)).foldl A3q (-1)=A3q ((d.1.take i).foldl A3q (-1)) (rd .str d.1 (i:Int)):=by
      rw [List.take_succ_eq_append_getElem hi,List.foldl_append,A5c hi]
      rfl
    rw [e]
    generalize (d.1.take i).foldl A3q (-1)=t
    unfold A3q
    cases (D5 (rd .str d.1 (i:Int))).2.1
    · rfl
    · cases decide ((D5 (rd .str d.1 (i:Int))).1.1>t)<;>rfl
  · simp [A4O,A2U]
theorem C6l(d:E9)(h:A6Y d.1):A4g d=some (A2U d.1,()):=by
  simp only [A4g,B2C,B8T _ h,A4]
theorem C9E(s:ByteArray):(D5 s).1.1≤10000:=by
  unfold D5
  split
  · rename_i h
    simp only [A9F,Bool.and_eq_true] at h
    exact (A0M h.1.2).2.1
  · simp [D5w]
theorem C3S(l:List ByteArray):-1≤A2U l∧A2U l≤10000:=by
  unfold A2U
  have:∀ (l:List ByteArray) (t:Int),-1≤t∧t≤10000→-1≤l.foldl A3q t∧l.foldl A3q t≤10000:=by
    intro l
    induction l with
    | nil=>exact fun t h=>h
    | cons s l ih=>
      intro t h
      refine ih _ ?_
      have h2:=C9E s
      unfold A3q
      cases (D5 s).2.1 with
      | false=>exact h
      | true=>
        by_cases h3:(D5 s).1.1>t
        · rw [A0 h3];simp only [cond_true];omega
        · rw [A3 h3];exact h
  exact this l (-1) (by omega)
theorem B8U{l:List ByteArray}(h:A6Y l)(i:Nat){s:ByteArray}(hs:s.size≤1048576):A6Y (l.set i s):=⟨by rw [List.length_set];exact h.1,fun x hx=>(List.mem_or_eq_of_mem_set hx).elim (h.2 x) (fun e=>by rw [e];exact hs)⟩
theorem E0t(d:E9)(k:List Bool)(h:A3r d):∃ d',A0i d k=some (d',())∧A2N d k=some (d',())∧A3r d':=by
  obtain ⟨b,hb,hb2⟩:=B4M d h.1.1
  have hl:=h.1.1
  simp only [A0i,A7E,A2N,B2D,A02 d h,B00 d h,C0L,hb,A4]
  cases b with
  | false=>exact ⟨d,rfl,rfl,h⟩
  | true=>
    have hlen:=(hb2 rfl).1
    simp only [Bool.not_true,cond_false]
    have step:∀ l:Int×List ByteArray×List ByteArray×Unit,0≤l.1∧l.2.1.length=d.1.length∧l.2.2.1.length=d.1.length∧A6Y l.2.1∧A6Y l.2.2.1→
        (∃ y:Int×List ByteArray×List ByteArray×Unit,J3 k l=some (.inl y)∧(0≤y.1∧y.2.1.length=d.1.length∧y.2.2.1.length=d.1.length∧A6Y y.2.1∧A6Y y.2.2.1)∧((d.1.length:Int)-y.1).toNat<((d.1.length:Int)-l.1).toNat)∨
        ∃ z,J3 k l=some (.inr z)∧A3r z.1:=by
      intro l ⟨h0,h1,h2,h3,h4⟩
      simp only [J3,h1,h2]
      by_cases hi:l.1<(d.1.length:Int)
      · obtain ⟨i,hn⟩:∃ i:Nat,l.1=(i:Int):=⟨l.1.toNat,by omega⟩
        rw [hn] at hi h0 ⊢
        have s1:=A68 h3 (i:=i) (by omega)
        have s2:=A68 h4 (i:=i) (by omega)
        rw [A0 hi,A0 h0,w64 (by omega) (by omega)]
        simp only [cond_true,Int.toNat_natCast]
        refine .inl ?_
        by_cases hk:(i:Int)<(k.length:Int)
        · rw [A0 hk]
          simp only [cond_true,A4]
          cases rd .bool k (i:Int) with
          | true=>exact ⟨_,rfl,⟨by simp only;omega,h1,by simp [h2],h3,B8U h4 i s1⟩,by simp only;omega⟩
          | false=>exact ⟨_,rfl,⟨by simp only;omega,by simp [h1],h2,B8U h3 i s2,h4⟩,by simp only;omega⟩
        · rw [A3 hk]
          simp only [cond_false,A4]
          exact ⟨_,rfl,⟨by simp only;omega,by simp [h1],h2,B8U h3 i s2,h4⟩,by simp only;omega⟩
      · rw [A3 hi]
        exact .inr ⟨_,rfl,h3,h4⟩
    have h0:0≤(0:Int)∧d.1.length=d.1.length∧d.2.length=d.1.length∧A6Y d.1∧A6Y d.2:=⟨by omega,rfl,hlen.symm,h.1,h.2⟩
    obtain ⟨z,e,hz⟩:=V5 (J3 k) (fun l=>((d.1.length:Int)-l.1).toNat) _ (fun z=>A3r z.1) step (0,d.1,d.2,()) h0
    refine ⟨z.1,e,?_,hz⟩
    rw [A9A (g:=J3 k) (fun l=>0≤l.1∧l.2.1.length=d.1.length∧l.2.2.1.length=d.1.length∧A6Y l.2.1∧A6Y l.2.2.1) (fun l hl=>?_) (fun l y hl ey=>?_) h0]
    · exact e
    · simp only [A4h,J3,hl.2.1]
    · have e3:A4h (d,()) k l=J3 k l:=by simp only [A4h,J3,hl.2.1]
      rw [e3] at ey
      rcases step l hl with ⟨y',e1,e2,_⟩ | ⟨z',e1,_⟩
      · rw [e1] at ey;injection ey with ey;injection ey with ey;subst ey;exact e2
      · rw [e1] at ey;injection ey with ey;cases ey
theorem E0u(d:E9)(h:A3r d):∃ st b,D9 d=some (st,b,())∧Z9 d=some (st,b,())∧A3r st.1∧Ups st.2.2.2:=by
  have hl:=h.1.1
  obtain ⟨bd,hd,hdt⟩:=B4M d hl
  obtain ⟨l,hs,hi,hll,hrg⟩:=D5y d h.1
  have hfs:=A2p l (by simp only [maxLen];omega) hrg
  have hfi:=B68 l (by simp only [maxLen];omega) hrg
  have htop:=C3S d.1
  have h00:A3r ([],[]):=⟨⟨by simp,fun s hs=>by cases hs⟩,⟨by simp,fun s hs=>by cases hs⟩⟩
  have hups:(Q7 l).2.1=true→Ups (Q7 l).1:=by
    intro e
    unfold Q7 at e ⊢
    split
    · rename_i us' e1
      exact A6X A9H hrg e1
    · rename_i e1
      rw [e1] at e;cases e
  simp only [D9,P6,Z9,A9y,C0L,hd,hs,hi,hfs,hfi,A6A d h.1,C6l d h.1,A02 d h,B00 d h,A4]
  cases bd with
  | false=>exact ⟨_,_,rfl,rfl,h00,A9H⟩
  | true=>
    simp only [Bool.not_true,cond_false]
    generalize Q7 l=fr at hups
    cases hk:fr.2.1 with
    | false=>exact ⟨_,_,rfl,rfl,h00,A9H⟩
    | true=>
      rw [w64 (n:=A2U d.1+1) (by omega) (by omega)]
      cases decide (A2U d.1+1>10000) with
      | true=>exact ⟨_,_,rfl,rfl,h00,A9H⟩
      | false=>exact ⟨_,_,rfl,rfl,h,hups hk⟩
def B2L(op:Int):Int:=if op=1 then 1000000000 else if op=3 then 1000000000 else if op=4 then 4294967295 else 0
def A1F(r:A2A):Bool:=decide (1≤r.1∧r.1≤6)&&idB r.2.1&&decide (0≤r.2.2∧r.2.2≤B2L r.1)
theorem C4Y(r:A2A)(h:r.2.1.size≤maxLen):A5U r=some (A1F r,()):=by
  simp only [A5U,C0B,N2,A8A _ h,A4,A1F,A92,B46,B2L]
  cases decide (1≤r.1∧r.1≤6)
  · rfl
  cases idB r.2.1
  · rfl
  simp only [Bool.not_true,cond_false,B7,Bool.true_and]
  have hz:decide (0≤r.2.2∧r.2.2≤0)=decide (r.2.2=0):=by
    by_cases h0:r.2.2=0
    · rw [A0 h0,A0 (by omega)]
    · rw [A3 h0,A3 (by omega)]
  by_cases h1:r.1=1
  · simp [h1]
  by_cases h3:r.1=3
  · simp [h3]
  by_cases h4:r.1=4
  · simp [h4]
  simp [h1,h3,h4]
  rw [Bool.eq_iff_iff]
  simp
  omega
theorem C4Z(r:A2A)(h:r.2.1.size≤maxLen):A3n r=some (A1F r,()):=by
  simp only [A3n,C05,L8,B2J _ h,A4,A1F,A3J,A6j,B2L]
  by_cases h1:r.1=1
  · simp [h1];cases idB r.2.1<;>simp
  by_cases h3:r.1=3
  · simp [h3];cases idB r.2.1<;>simp
  by_cases h4:r.1=4
  · simp [h4];cases idB r.2.1<;>simp
  simp only [A3 h1,A3 h3,A3 h4,if_neg h1,if_neg h3,if_neg h4,cond_false]
  cases decide (1≤r.1∧r.1≤6)<;>cases idB r.2.1<;>simp
def C8C(n:Nat)(h:B8):Bool:=T4 h.2&&decide (0≤h.1∧h.1≤(n:Int)-1)
def A1G(n:Nat)(l:List B8):Bool:=(List.range l.length).all fun i=>C8C n (rd A9 l (i:Int))
theorem B8V(w:A5)(l:List B8)(h:l.length≤maxLen)(hc:w.2.1.length≤1048576):A80 w l=some (A1G w.2.1.length l,()):=by
  simp only [A80,B7R,A1G]
  refine B2p _ l.length h (fun i=>C8C w.2.1.length (rd A9 l (i:Int))) (fun i hi=>?_) (by simp [B24])
  have g1:((i:Int)<(l.length:Int)):=by omega
  have g2:(0:Int)≤(i:Int):=by omega
  simp only [B24,A0 g1,A0 g2,cond_true,N2,A9D,A4,C8C]
  rw [w64 (n:=(w.2.1.length:Int)-1) (by omega) (by omega)]
  cases decide (0≤(rd A9 l (i:Int)).1∧(rd A9 l (i:Int)).1≤(w.2.1.length:Int)-1)<;>cases T4 (rd A9 l (i:Int)).2<;>rfl
theorem D1A(w:A5)(l:List B8)(h:l.length≤maxLen)(hc:w.2.1.length≤1048576):A7t w l=some (A1G w.2.1.length l,()):=by
  simp only [A7t,B7G,A1G]
  refine B2p _ l.length h (fun i=>C8C w.2.1.length (rd A9 l (i:Int))) (fun i hi=>?_) (by simp [B1u])
  have g1:((i:Int)<(l.length:Int)):=by omega
  have g2:(0:Int)≤(i:Int):=by omega
  simp only [B1u,A0 g1,A0 g2,cond_true,L8,B4F,A4,C8C]
  rw [w64 (n:=(w.2.1.length:Int)-1) (by omega) (by omega)]
  cases decide (0≤(rd A9 l (i:Int)).1∧(rd A9 l (i:Int)).1≤(w.2.1.length:Int)-1)<;>cases T4 (rd A9 l (i:Int)).2<;>rfl
def D73(w:A5):Prop:=w.2.1.length≤1048576∧∀ c∈w.2.1,c.1.size≤maxLen
theorem D1B(w:A5)(h:D73 w)(i:Nat)(hi:i<w.2.1.length):∃ z,B9 (L6 ((i:Int),()) w) (0,())=some z∧(z=.inl ((i:Int)+1,())∨z=.inr (.inr (false,()))):=by
  have hl:=h.1
  refine V5 (L6 ((i:Int),()) w) (fun l=>((i:Int)-l.1).toNat) (fun l=>0≤l.1) (fun z=>z=.inl ((i:Int)+1,())∨z=.inr (.inr (false,()))) (fun l h0=>?_) (0,()) (by simp)
  simp only [L6]
  by_cases hj:l.1<(i:Int)
  · rw [A0 hj,A0 h0,A0 (show l.1<(w.2.1.length:Int) by omega),A0 (show (0:Int)≤(i:Int) by omega),A0 (show (i:Int)<(w.2.1.length:Int) by omega)]
    simp only [cond_true]
    rw [w64 (n:=l.1+1) (by omega) (by omega)]
    cases ((rd B2 w.2.1 l.1).1.toList == (rd B2 w.2.1 (i:Int)).1.toList)
    · exact .inl ⟨_,rfl,by simp only;omega,by simp only;omega⟩
    · exact .inr ⟨_,rfl,.inr rfl⟩
  · rw [A3 hj,w64 (n:=(i:Int)+1) (by omega) (by omega)]
    exact .inr ⟨_,rfl,.inl rfl⟩
theorem D1C(w:A5)(h:D73 w)(i:Nat)(hi:i<w.2.1.length):B9 (A3G w ((i:Int),())) (0,())=B9 (L6 ((i:Int),()) w) (0,()):=by
  have hl:=h.1
  have hlen:((w.2.1.take i).drop 0).length=i:=by simp;omega
  refine A9A (fun l=>0≤l.1) (fun l h0=>?_) (fun l y h0 e=>?_) (by simp)
  · simp only [A3G,L6,Int.toNat_natCast,hlen]
    by_cases hj:l.1<(i:Int)
    · obtain ⟨j,hn⟩:∃ j:Nat,l.1=(j:Int):=⟨l.1.toNat,by omega⟩
      rw [hn] at hj h0 ⊢
      rw [A0 hj,A0 h0,A0 (show (j:Int)<(w.2.1.length:Int) by omega),A0 (show (0:Int)≤(i:Int) by omega),A0 (show (i:Int)<(w.2.1.length:Int) by omega)]
      simp only [cond_true]
      have e:rd B2 ((w.2.1.take i).drop 0) (j:Int)=rd B2 w.2.1 (j:Int):=by
        rw [C7 (k:=B2) (xs:=(w.2.1.take i).drop 0) (by rw [hlen];omega),C7 (k:=B2) (xs:=w.2.1) (by omega)]
        simp
      rw [e]
    · rw [A3 hj]
      rfl
  · simp only [A3G,Int.toNat_natCast,hlen] at e
    by_cases hj:l.1<(i:Int)
    · rw [A0 hj,A0 h0] at e
      simp only [cond_true] at e
      rw [w64 (n:=l.1+1) (by omega) (by omega)] at e
      revert e
      cases ((rd B2 ((w.2.1.take i).drop 0) l.1).1.toList == (rd B2 w.2.1 (i:Int)).1.toList)
      · intro e
        simp only [cond_false] at e
        injection e with e;injection e with e;subst e
        simp only;omega
      · intro e
        simp only [cond_true] at e
        injection e with e;cases e
    · rw [A3 hj] at e
      simp only [cond_false] at e
      injection e with e;cases e
theorem B8W(w:A5)(h:D73 w)(l:Int×Unit)(h0:0≤l.1) :
    A3H L5 w l=G8 G0 w l∧((∃ y,G8 G0 w l=some (.inl y)∧y.1=l.1+1∧l.1<(w.2.1.length:Int))∨G8 G0 w l=some (.inr (.inl ()))∨G8 G0 w l=some (.inr (.inr (false,())))):=by
  have hl:=h.1
  simp only [A3H,G8]
  by_cases hi:l.1<(w.2.1.length:Int)
  · obtain ⟨i,hn⟩:∃ i:Nat,l.1=(i:Int):=⟨l.1.toNat,by omega⟩
    obtain ⟨l1,u⟩:=l
    simp only at hn hi h0
    subst hn
    have hi':i<w.2.1.length:=by omega
    have hsz:(rd B2 w.2.1 (i:Int)).1.size≤maxLen:=by
      rw [C7 (k:=B2) (xs:=w.2.1) hi']
      exact h.2 _ (List.getElem_mem hi')
    simp only
    rw [A0 hi,A0 h0,A67 _ hsz,A2l _ hsz,A0 (show (i:Int)≤(w.2.1.length:Int) by omega),D1C w h i hi']
    simp only [cond_true,A4]
    cases G3 (rd B2 w.2.1 (i:Int)) with
    | false=>exact ⟨trivial,.inr (.inr rfl)⟩
    | true=>
      obtain ⟨z,e,hz⟩:=D1B w h i hi'
      simp only [Bool.not_true,cond_false]
      refine ⟨trivial,?_⟩
      rw [e]
      rcases hz with rfl | rfl
      · exact .inl ⟨_,rfl,rfl,hi⟩
      · exact .inr (.inr rfl)
  · rw [A3 hi]
    exact ⟨rfl,.inr (.inl rfl)⟩
theorem D3x(w:A5)(h:D73 w):∃ b,W0 w=some (b,())∧A2a w=some (b,())∧(b=true→w.2.1.length≤6∧w.2.2.1.length=w.2.1.length∧w.2.2.2.2.2.length=w.2.1.length):=by
  have hl:=h.1
  have e1:B9 (A3H L5 w) (0,())=B9 (G8 G0 w) (0,()):=by
    refine A9A (fun l=>0≤l.1) (fun l h0=>(B8W w h l h0).1) (fun l y h0 e=>?_) (by simp)
    rw [(B8W w h l h0).1] at e
    rcases (B8W w h l h0).2 with ⟨y',e2,e3,_⟩ | e2 | e2
    · rw [e2] at e;injection e with e;injection e with e;subst e;omega
    · rw [e2] at e;injection e with e;cases e
    · rw [e2] at e;injection e with e;cases e
  obtain ⟨z,e2,hz⟩:=V5 (G8 G0 w) (fun l=>((w.2.1.length:Int)-l.1).toNat) (fun l=>0≤l.1) (fun z=>z=.inl ()∨z=.inr (false,())) (fun l h0=>by
    rcases (B8W w h l h0).2 with ⟨y',e2,e3,e4⟩ | e2 | e2
    · exact .inl ⟨y',e2,by omega,by omega⟩
    · exact .inr ⟨_,e2,.inl rfl⟩
    · exact .inr ⟨_,e2,.inr rfl⟩) (0,()) (by simp)
  simp only [W0,A4R,A2a,A9o,e1,e2]
  rcases hz with rfl | rfl
  · simp only [B7]
    by_cases h1:(w.2.1.length:Int)≤6
    · rw [A0 h1]
      by_cases h2:(w.2.2.1.length:Int)=(w.2.1.length:Int)
      · rw [A0 h2]
        refine ⟨_,rfl,rfl,fun e=>?_⟩
        have e3:=of_decide_eq_true e
        omega
      · rw [A3 h2]
        exact ⟨_,rfl,rfl,fun e=>by cases e⟩
    · rw [A3 h1]
      exact ⟨_,rfl,rfl,fun e=>by cases e⟩
  · exact ⟨_,rfl,rfl,fun e=>by cases e⟩
def D1D(n:Nat)(a:I2):Bool:=A1F a.2.1&&decide (0≤a.1∧a.1≤(n:Int)-1)
def E22(w:A5):Prop:=A6Y w.1.1.1.1∧w.1.2.length≤1048576∧D73 w∧(w.2.2.2.1.length≤1048576∧∀ a∈w.2.2.2.1,a.2.1.2.1.size≤maxLen)∧w.2.2.2.2.1.length≤1048576
theorem C4a(w:A5)(h:E22 w):∃ b,Y4 w=some (b,())∧U9 w=some (b,()):=by
  obtain ⟨h1,h2,h3,⟨h4,h4'⟩,h5⟩:=h
  have hc:=h3.1
  obtain ⟨bs,es,ei,_⟩:=D18 w.1 h1 h2
  obtain ⟨bc,cs,ci,_⟩:=D3x w h3
  have ht:=B8V w w.2.2.2.2.1 (by simp only [maxLen];omega) hc
  have ht':=D1A w w.2.2.2.2.1 (by simp only [maxLen];omega) hc
  have hh:=B8V w w.1.2 (by simp only [maxLen];omega) hc
  have hh':=D1A w w.1.2 (by simp only [maxLen];omega) hc
  have hloop:=B2p (Z5 A5U E1 w) w.2.2.2.1.length (by simp only [maxLen];omega) (fun i=>D1D w.2.1.length (rd F0 w.2.2.2.1 (i:Int))) (fun i hi=>by
    have g1:((i:Int)<(w.2.2.2.1.length:Int)):=by omega
    have g2:(0:Int)≤(i:Int):=by omega
    have hsz:(rd F0 w.2.2.2.1 (i:Int)).2.1.2.1.size≤maxLen:=by
      rw [C7 (k:=F0) (xs:=w.2.2.2.1) hi]
      exact h4' _ (List.getElem_mem hi)
    simp only [Z5,A0 g1,A0 g2,cond_true,N2,C4Y _ hsz,A4,D1D]
    rw [w64 (n:=(w.2.1.length:Int)-1) (by omega) (by omega)]
    cases decide (0≤(rd F0 w.2.2.2.1 (i:Int)).1∧(rd F0 w.2.2.2.1 (i:Int)).1≤(w.2.1.length:Int)-1)<;>cases A1F (rd F0 w.2.2.2.1 (i:Int)).2.1<;>rfl) (by simp [Z5])
  have istep:∀ i:Nat,i<w.2.2.2.1.length→A5t A3n C6 w ((i:Int),())=bif D1D w.2.1.length (rd F0 w.2.2.2.1 (i:Int)) then some (.inl (((i+1:Nat):Int),())) else some (.inr (.inr (false,()))):=fun i hi=>by
    have g1:((i:Int)<(w.2.2.2.1.length:Int)):=by omega
    have g2:(0:Int)≤(i:Int):=by omega
    have hsz:(rd F0 w.2.2.2.1 (i:Int)).2.1.2.1.size≤maxLen:=by
      rw [C7 (k:=F0) (xs:=w.2.2.2.1) hi]
      exact h4' _ (List.getElem_mem hi)
    have e1:((i+1:Nat):Int)=(i:Int)+1:=by omega
    simp only [A5t,A0 g1,A0 g2,cond_true,L8,C4Z _ hsz,A4,D1D,e1]
    rw [w64 (n:=(w.2.1.length:Int)-1) (by omega) (by omega),w64 (n:=(i:Int)+1) (by omega) (by omega)]
    cases decide (0≤(rd F0 w.2.2.2.1 (i:Int)).1∧(rd F0 w.2.2.2.1 (i:Int)).1≤(w.2.1.length:Int)-1)<;>cases A1F (rd F0 w.2.2.2.1 (i:Int)).2.1<;>rfl
  simp only [Y4,A94,U9,B3v,es,ei,cs,ci,ht,ht',hh,hh',hloop,A4]
  have hirest:(bif A1G w.2.1.length w.2.2.2.2.1 then bif A1G w.2.1.length w.1.2 then some (bs,()) else some (false,()) else some (false,()))=some (A1G w.2.1.length w.2.2.2.2.1&&A1G w.2.1.length w.1.2&&bs,()):=by
    cases A1G w.2.1.length w.2.2.2.2.1<;>cases A1G w.2.1.length w.1.2<;>rfl
  have hi:=E0p istep (by simp [A5t]) (fun _=>(bif A1G w.2.1.length w.2.2.2.2.1 then bif A1G w.2.1.length w.1.2 then some (bs,()) else some (false,()) else some (false,()))) _ hirest
  rw [C4T] at hi
  generalize ((List.range w.2.2.2.1.length).all fun i=>D1D w.2.1.length (rd F0 w.2.2.2.1 (i:Int)))=ba at hi ⊢
  cases bc with
  | false=>
    cases bs<;>exact ⟨_,rfl,rfl⟩
  | true=>
    simp only [Bool.not_true,cond_false]
    cases decide ((w.2.2.2.1.length:Int)>60) with
    | true=>cases bs<;>exact ⟨_,rfl,rfl⟩
    | false=>
      cases decide ((w.2.2.2.2.1.length:Int)>60) with
      | true=>cases bs<;>exact ⟨_,rfl,rfl⟩
      | false=>
        simp only [cond_false]
        have e0:∀ g:Unit→Option (Bool×Unit),B7 (some (.inl ():Unit⊕(Bool×Unit))) g=g ():=fun g=>rfl
        simp only [e0]
        refine ⟨_,?_,hi⟩
        cases bs<;>cases A1G w.2.1.length w.2.2.2.2.1<;>cases A1G w.2.1.length w.1.2<;>simp [B7]
theorem D74{a b:List Int}(ha:Byt a)(hb:Byt b)(h:(strOf a).toList=(strOf b).toList):a=b:=by
  rw [ByteArray.toList_eq,ByteArray.toList_eq] at h
  have h2:(a.map fun n=>UInt8.ofNat n.toNat)=b.map fun n=>UInt8.ofNat n.toNat:=h
  have hl:a.length=b.length:=by simpa using congrArg List.length h2
  refine List.ext_getElem hl fun i h1 h3=>?_
  have h4:=congrArg (fun l=>l[i]?) h2
  simp only [List.getElem?_map,List.getElem?_eq_getElem h1,List.getElem?_eq_getElem h3,Option.map_some,Option.some.injEq] at h4
  exact D94 (ha _ (List.getElem_mem h1)) (hb _ (List.getElem_mem h3)) h4
theorem B8X{a b:ByteArray}(h:a.toList=b.toList):a=b:=by
  rw [ByteArray.toList_eq,ByteArray.toList_eq] at h
  obtain ⟨⟨a⟩⟩:=a
  obtain ⟨⟨b⟩⟩:=b
  have h:a=b:=h
  rw [h]
theorem D75{a b:TUp}(ha:Byt a.2.2.1)(hb:Byt b.2.2.1)(h:A69 a b=true):a=b:=by
  simp only [A69,Bool.and_eq_true,beq_iff_eq,decide_eq_true_eq] at h
  obtain ⟨⟨⟨h1,h2⟩,h3⟩,h4⟩:=h
  obtain ⟨a1,a2,a3,a4⟩:=a
  obtain ⟨b1,b2,b3,b4⟩:=b
  simp only at h1 h2 h3 h4 ha hb
  rw [B8X h1,h2,h3,D74 ha hb h4]
theorem D3y{a b:List TUp}(ha:∀ u∈a,Byt u.2.2.1)(hb:∀ u∈b,Byt u.2.2.1)(h:A11 a b=true):a=b:=by
  simp only [A11,Bool.and_eq_true,decide_eq_true_eq,List.all_eq_true,List.mem_range] at h
  refine List.ext_getElem h.1 fun i h1 h3=>?_
  have h4:=h.2 i h1
  rw [C7 (k:=kUp) (xs:=a) h1,C7 (k:=kUp) (xs:=b) h3] at h4
  exact D75 (ha _ (List.getElem_mem h1)) (hb _ (List.getElem_mem h3)) h4
def wrote(st:A7)(r:H3)(us:List TUp):A7:=((st.1.1.set st.2.2.1.toNat (W8 r),st.1.2),st.2.1,st.2.2.1+1,us)
theorem B2M(st:A7)(a b kind:Int)(id:ByteArray)(n:Int)(data:List Int)(hU:Ups st.2.2.2)(hr:Q1 (st.2.1,st.2.2.1,kind,id,n,data)=true)(hb:Byt data)(h0:0≤st.2.2.1)(h1:st.2.2.1<(st.1.1.length:Int))(hl:st.1.1.length≤1048576)
    (us:List TUp) (hf:K7 st.2.2.2 (st.2.1,st.2.2.1,kind,id,n,data)=some us):F3 st (a,b,kind,id,n,data)=some (wrote st (st.2.1,st.2.2.1,kind,id,n,data) us,()):=by
  have hbd:=A0M hr
  simp only at hbd
  simp only [F3,A4M]
  rw [C1V (st.2.1,st.2.2.1,kind,id,n,data) (by simp only;omega) (by simp only;omega) hb,A0 h0,A0 h1]
  simp only [A4,cond_true]
  obtain ⟨x,hx,hx2⟩:=D15 st.2.2.2 (st.2.1,st.2.2.1,kind,id,n,data) hU (by simp only;omega)
  have hI:B2q st.2.2.2 (st.2.1,st.2.2.1,kind,id,n,data)=(us,true,()):=by unfold B2q;rw [hf]
  rw [hI] at hx hx2
  rw [hx,hx2 rfl,w64 (by omega) (by omega)]
  rfl
theorem B2N(st:A7)(kind:Int)(id:ByteArray)(n:Int)(data:List Int)(hU:Ups st.2.2.2)(hr:Q1 (st.2.1,st.2.2.1,kind,id,n,data)=true)(hb:Byt data)(h0:0≤st.2.2.1)(h1:st.2.2.1<(st.1.1.length:Int))(hl:st.1.1.length≤1048576)
    (us:List TUp) (hf:K7 st.2.2.2 (st.2.1,st.2.2.1,kind,id,n,data)=some us):C8 st kind id n data=some (wrote st (st.2.1,st.2.2.1,kind,id,n,data) us,()):=by
  have hbd:=A0M hr
  simp only at hbd
  simp only [C8,A1E]
  rw [C1W (st.2.1,st.2.2.1,kind,id,n,data) (by simp only [maxLen];omega) hb,if_pos hr,A0 h0,A0 h1]
  simp only [A4,cond_true]
  have hI:B2q st.2.2.2 (st.2.1,st.2.2.1,kind,id,n,data)=(us,true,()):=by unfold B2q;rw [hf]
  rw [C87 st.2.2.2 (st.2.1,st.2.2.1,kind,id,n,data) hU (by simp only;omega),hI,w64 (by omega) (by omega)]
  rfl
theorem D1E{r:H3}(h:Q1 r=true):(W8 r).size≤1000:=by
  have hb:=A0M h
  unfold W8
  rw [B2K,List.length_append,B4H,K0]
  omega
theorem D3z{st:A7}(h:A3r st.1){r:H3}(hr:Q1 r=true)(us:List TUp):A3r (wrote st r us).1:=⟨B8U h.1 _ (by have:=D1E hr;omega),h.2⟩
theorem A7Y(us:List TUp)(id:ByteArray)(h:us.length≤maxLen):G1 us id=some (if H1 us id=true then (B4 us id:Int) else -1):=by
  simp only [G1,C86 us id h,A4]
  cases H1 us id<;>rfl
theorem B8Y(us:List TUp)(id:ByteArray)(h:Ups us):P5 us id=some (if H1 us id=true then (B4 us id:Int) else -1,()):=by
  have hl:=h.2.1
  rw [D0x us id (by simp only [maxLen];omega)]
  cases hh:H1 us id with
  | true=>
    obtain ⟨hlt,_⟩:=J0.1 hh
    rw [C4R h.1 hh,if_pos hlt,if_pos rfl]
  | false=>rw [C4S h.1 hh,if_neg (Nat.lt_irrefl _),if_neg (by simp)]
theorem D1F{id:ByteArray}(h:idB id=true):id.size≤8:=by
  simp only [idB,Bool.and_eq_true,decide_eq_true_eq] at h
  omega
theorem B5Z(st:A7)(h0:0≤st.2.2.1)(h1:st.2.2.1≤(st.1.1.length:Int))(hl:st.1.1.length≤1048576):L3 st=some ((st.1.1.length:Int)-st.2.2.1,st,()):=by
  simp only [L3,A85]
  rw [w64 (by omega) (by omega)]
theorem B5a(st:A7)(h0:0≤st.2.2.1)(h1:st.2.2.1≤(st.1.1.length:Int))(hl:st.1.1.length≤1048576):S6 st=some ((st.1.1.length:Int)-st.2.2.1,()):=by
  simp only [S6,B41]
  rw [w64 (by omega) (by omega)]
def E6(n:Int):E9:=if 0≤n∧n≤200 then (List.replicate n.toNat ⟨#[]⟩,List.replicate n.toNat ⟨#[]⟩) else ([],[])
theorem D1G(n:Int):List.length (E6 n).1≤200∧List.length (E6 n).2≤200:=by
  unfold E6
  split
  · simp;omega
  · simp
theorem C9F(n:Int):A6N n=some (E6 n,()):=by
  simp only [A6N,B47,E6]
  by_cases h:0≤n∧n≤200
  · rw [if_pos h]
    have key:=D4 (A2f n) (fun i=>((i:Int),List.replicate i ⟨#[]⟩,List.replicate i ⟨#[]⟩,())) n.toNat ((List.replicate n.toNat ⟨#[]⟩,List.replicate n.toNat ⟨#[]⟩),()) (fun i hi=>?_) ?_
    · exact key
    · have h1:(i:Int)<n:=by omega
      simp only [A2f,A0 h1,A0 h.2,cond_true,B7]
      rw [A0 (by simp;omega),A0 (by simp;omega)]
      simp only [cond_true]
      rw [w64 (by omega) (by omega),List.replicate_succ']
      rfl
    · have h1:¬ ((n.toNat:Int)<n):=by omega
      simp only [A2f,A3 h1,cond_false,B7]
  · rw [if_neg h]
    refine D70 ?_
    simp only [A2f]
    by_cases h1:(0:Int)<n
    · rw [A0 h1,A3 (show ¬ n≤200 by omega)];rfl
    · rw [A3 h1];rfl
def A1D(n:Int):D0:=((E6 n,0,0,[]),[])
theorem C4b(n:Int):A2g n=some (A1D n,()):=by
  simp only [A2g,A9t,A7I,B26,C9F,A4,A1D]
theorem bO{α β:Type}(x:α)(f:α→Option β):A4 (some x) f=f x:=rfl
theorem D76(c:H4)(n:Int)(h:Cur c)(hn:0<n∧n<9223372036854775808):∃ b c',A5L c n=some (b,c',())∧Cur c':=by
  obtain ⟨r,c',e,hc,_⟩:=A5e c n h hn
  simp only [A5L,B7I,e,A4]
  exact ⟨_,_,rfl,hc⟩
theorem D77{us:List TUp}{id:ByteArray}(hh:H1 us id=true)(u:TUp)(hu:u.1=(rd kUp us (B4 us id:Int)).1):H1 (us.set (B4 us id) u) id=true∧B4 (us.set (B4 us id) u) id=B4 us id∧rd kUp (us.set (B4 us id) u) (B4 us id:Int)=u:=by
  obtain ⟨hlt,hid⟩:=J0.1 hh
  rw [C7 (k:=kUp) (xs:=us) hlt] at hu
  have hk:∀ q (hq:q<us.length),((us.set (B4 us id) u)[q]'(by simpa using hq)).1=us[q].1:=fun q hq=>by
    rw [List.getElem_set]
    split
    · rename_i e;subst e;exact hu
    · rfl
  have hrd:rd kUp (us.set (B4 us id) u) (B4 us id:Int)=u:=E21 (k:=kUp) hlt u
  have e1:B4 (us.set (B4 us id) u) id=B4 us id:=by
    refine A9G _ (us.set (B4 us id) u).length _ (by simp;omega) (fun j hj=>?_) (fun _=>?_)
    · rw [C7 (k:=kUp) (xs:=us.set (B4 us id) u) (by simp;omega),hk j (by omega)]
      exact B4J hj
    · rw [hrd,hu]
      exact B8R hlt
  refine ⟨?_,e1,hrd⟩
  unfold H1
  rw [e1,hrd,hu,hid]
  simp
  omega
theorem D5z{l:List ByteArray}{s:ByteArray}(hs:s∈l)(hk:(D5 s).2.1=true):(D5 s).1.1≤A2U l:=by
  have h:=B5Y (D5 s).1.1 l (-1)
  by_cases hx:(D5 s).1.1≤A2U l
  · exact hx
  · exfalso
    have h1:decide (l.foldl A3q (-1)<(D5 s).1.1)=true:=decide_eq_true (by have:A2U l=l.foldl A3q (-1):=rfl;omega)
    rw [h1] at h
    have h2:=(Bool.and_eq_true _ _▸h.symm:_∧_).2
    have h3:=List.all_eq_true.1 h2 s hs
    simp only [A2q,hk,Bool.true_and] at h3
    rw [A0 (by omega)] at h3
    cases h3
def A3s(d:E9):Bool:=decide (d.1.length=d.2.length∧d.1.length≤200)&&((List.range d.1.length).all fun i=>!decide (((rd .str d.1 (i:Int)).size:Int)>64)&&!decide (((rd .str d.2 (i:Int)).size:Int)>64))
theorem A6Z(d:E9):T8 d=some (A3s d,()):=by
  simp only [T8,B1x,A3s]
  by_cases h1:(d.1.length:Int)=(d.2.length:Int)
  · rw [A0 h1]
    by_cases h2:(d.1.length:Int)>200
    · rw [A0 h2,A3 (show ¬ (d.1.length=d.2.length∧d.1.length≤200) by omega)]
      rfl
    · rw [A3 h2,A0 (show d.1.length=d.2.length∧d.1.length≤200 by omega)]
      simp only [Bool.not_true,cond_false,B7,Bool.true_and]
      refine B2p (A0f d) d.1.length (by simp only [maxLen];omega) (fun i=>!decide (((rd .str d.1 (i:Int)).size:Int)>64)&&!decide (((rd .str d.2 (i:Int)).size:Int)>64)) (fun i hi=>?_) (by simp [A0f])
      have g1:((i:Int)<(d.1.length:Int)):=by omega
      have g2:(0:Int)≤(i:Int):=by omega
      have g3:((i:Int)<(d.2.length:Int)):=by omega
      simp only [A0f,A0 g1,A0 g2,A0 g3,cond_true]
      cases decide (((rd .str d.1 (i:Int)).size:Int)>64)<;>cases decide (((rd .str d.2 (i:Int)).size:Int)>64)<;>rfl
  · rw [A3 h1,A3 (show ¬ (d.1.length=d.2.length∧d.1.length≤200) by omega)]
    rfl
theorem D78{d:E9}(h:A3s d=true):A3s (d.1,d.1)=true:=by
  simp only [A3s,Bool.and_eq_true] at h ⊢
  refine ⟨decide_eq_true ⟨trivial,(of_decide_eq_true h.1).2⟩,List.all_eq_true.2 fun i hi=>?_⟩
  have:=List.all_eq_true.1 h.2 i hi
  simp only [Bool.and_eq_true] at this ⊢
  exact ⟨this.1,this.1⟩
theorem B69(us:List TUp):A11 us us=true:=by
  simp only [A11,Bool.and_eq_true]
  refine ⟨decide_eq_true trivial,List.all_eq_true.2 fun i hi=>?_⟩
  simp [A69]
theorem C4c(a:List Int)(h:a.length≤maxLen):A19 a a=some (true,()):=by
  simp only [A19,A9p,decide_true,Bool.not_true,cond_false]
  have e:=B2p (A3K a a) a.length h (fun _=>true) (fun i hi=>by
    have g1:((i:Int)<(a.length:Int)):=by omega
    have g2:(0:Int)≤(i:Int):=by omega
    simp only [A3K,A0 g1,A0 g2,cond_true,decide_true,Bool.not_true,cond_false]) (by simp [A3K])
  rw [e]
  simp
theorem C9G(us:List TUp)(h:Ups us):A6J us us=some (true,()):=by
  have hul:=h.2.1
  simp only [A6J,B3x,decide_true,Bool.not_true,cond_false]
  have e:=B2p (A5u A19 us us) us.length (by simp only [maxLen];omega) (fun _=>true) (fun i hi=>by
    have g1:((i:Int)<(us.length:Int)):=by omega
    have g2:(0:Int)≤(i:Int):=by omega
    have hdl:=A9I h _ (List.getElem_mem hi)
    have hb:=C4c us[i].2.2.1 (by simp only [maxLen];omega)
    simp only [A5u,A0 g1,A0 g2,cond_true,C7 (k:=kUp) (xs:=us) hi,beq_self_eq_true,decide_true,Bool.not_true,cond_false]
    rw [hb]
    rfl) (by simp [A5u])
  rw [e]
  simp
def B8Z(us:List TUp)(id:ByteArray)(ch:List Int):List TUp:=
  us.set (B4 us id) ((rd kUp us (B4 us id:Int)).1,(rd kUp us (B4 us id:Int)).2.1,(rd kUp us (B4 us id:Int)).2.2.1++ch,(rd kUp us (B4 us id:Int)).2.2.2)
def D40(st:A7)(id:ByteArray)(n:Int)(ch:List Int):A7:=wrote st (st.2.1,st.2.2.1,2,id,n,ch) (B8Z st.2.2.2 id ch)
def putAt(st:A7)(id:ByteArray)(off:Int)(dat:List Int):Nat→A7
  | 0=>st
  | j+1=>D40 (putAt st id off dat j) id (off+((j*24:Nat):Int)) (L7 24 dat j)
def nPc(dat:List Int):Nat:=(dat.length+24-1) / 24
structure D41 (st:A7) (id:ByteArray) (off:Int) (dat:List Int):Prop where
  idok:idB id=true
  ep:0≤st.2.1∧st.2.1≤10000
  nx:0≤st.2.2.1∧st.2.2.1+(nPc dat:Int)≤(st.1.1.length:Int)
  len:st.1.1.length≤200
  dk:A3r st.1
  up:Ups st.2.2.2
  has:H1 st.2.2.2 id=true
  nd:(rd kUp st.2.2.2 (B4 st.2.2.2 id:Int)).2.2.2=false
  at':off=(List.length (rd kUp st.2.2.2 (B4 st.2.2.2 id:Int)).2.2.1:Int)
  fits:off+(dat.length:Int)≤(rd kUp st.2.2.2 (B4 st.2.2.2 id:Int)).2.1
  byt:Byt dat
  lo:1≤dat.length
structure E0v (st:A7) (id:ByteArray) (off:Int) (dat:List Int) (j:Nat) (s:A7):Prop where
  ep:s.2.1=st.2.1
  nx:s.2.2.1=st.2.2.1+(j:Int)
  len:s.1.1.length=st.1.1.length
  dk:A3r s.1
  up:Ups s.2.2.2
  has:H1 s.2.2.2 id=true
  ix:B4 s.2.2.2 id=B4 st.2.2.2 id
  val:rd kUp s.2.2.2 (B4 s.2.2.2 id:Int)=((rd kUp st.2.2.2 (B4 st.2.2.2 id:Int)).1,(rd kUp st.2.2.2 (B4 st.2.2.2 id:Int)).2.1,(rd kUp st.2.2.2 (B4 st.2.2.2 id:Int)).2.2.1++dat.take (j*24),false)
theorem B7X(dat:List Int)(j:Nat)(h:j*24<dat.length):1≤(L7 24 dat j).length∧(L7 24 dat j).length≤24∧(L7 24 dat j).length=min (j*24+24) dat.length-j*24:=by
  have e:(L7 24 dat j).length=min (j*24+24) dat.length-j*24:=by unfold L7;rw [List.length_drop,List.length_take]
  rw [e]
  refine ⟨by omega,by omega,rfl⟩
theorem D1H(dat:List Int)(j:Nat):dat.take (j*24)++L7 24 dat j=dat.take ((j+1)*24):=by
  have h:=List.take_append_drop (j*24) (dat.take (j*24+24))
  rw [List.take_take,Nat.min_eq_left (by omega)] at h
  rw [show (j+1)*24=j*24+24 by omega]
  exact h
theorem B4N{dat:List Int}{j:Nat}:j<nPc dat↔j*24<dat.length:=by
  unfold nPc
  omega
theorem B4O{st:A7}{id:ByteArray}{off:Int}{dat:List Int}(hc:D41 st id off dat){j:Nat}{s:A7}(h:E0v st id off dat j s)(hj:j<nPc dat) :
    Q1 (s.2.1,s.2.2.1,2,id,off+((j*24:Nat):Int),L7 24 dat j)=true∧K7 s.2.2.2 (s.2.1,s.2.2.1,2,id,off+((j*24:Nat):Int),L7 24 dat j)=some (B8Z s.2.2.2 id (L7 24 dat j))∧
      E0v st id off dat (j+1) (D40 s id (off+((j*24:Nat):Int)) (L7 24 dat j)):=by
  obtain ⟨p1,p2,p3⟩:=B7X dat j (B4N.1 hj)
  have hj2:=B4N.1 hj
  have hlen0:(List.length (dat.take (j*24)):Int)=((j*24:Nat):Int):=by rw [List.length_take];omega
  obtain ⟨hlt,_⟩:=J0.1 hc.has
  have hu:=hc.up.2.2 _ (List.getElem_mem hlt)
  rw [← C7 (k:=kUp) hlt] at hu
  have hu1:=hu.1
  have hu2:=hu.2.1
  have hat:=hc.at'
  have hft:=hc.fits
  have hn1:=hc.nx.1
  have hn2:=hc.nx.2
  have hl:=hc.len
  have hnx:=h.nx
  have hbp:Byt (L7 24 dat j):=A6T (A2n hc.byt _) _
  have hr:Q1 (s.2.1,s.2.2.1,2,id,off+((j*24:Nat):Int),L7 24 dat j)=true:=by
    simp only [Q1,hc.idok,h.ep]
    rw [A0 hc.ep,A0 (show 0≤s.2.2.1∧s.2.2.1≤199 by omega),if_neg (by omega),if_pos trivial,A0 (show 0≤off+((j*24:Nat):Int)∧off+((j*24:Nat):Int)≤1000000000 by omega),A0 (show 1≤(List.length (L7 24 dat j):Int)∧(List.length (L7 24 dat j):Int)≤24 by omega)]
    rfl
  have hf:K7 s.2.2.2 (s.2.1,s.2.2.1,2,id,off+((j*24:Nat):Int),L7 24 dat j)=some (B8Z s.2.2.2 id (L7 24 dat j)):=by
    have e1:(List.length (rd kUp s.2.2.2 (B4 s.2.2.2 id:Int)).2.2.1:Int)=off+((j*24:Nat):Int):=by
      rw [h.val];simp only [List.length_append];omega
    have e2:(rd kUp s.2.2.2 (B4 s.2.2.2 id:Int)).2.2.2=false:=by rw [h.val]
    have e3:@Eq Int (rd kUp s.2.2.2 (B4 s.2.2.2 id:Int)).2.1 (rd kUp st.2.2.2 (B4 st.2.2.2 id:Int)).2.1:=by rw [h.val]
    simp only [K7,h.has,e2,B8Z]
    rw [if_neg (by omega),if_neg (by simp),if_pos trivial,if_neg (fun hx=>by
      rcases hx with hx | hx | hx
      · cases hx
      · exact hx e1.symm
      · have hx2:(List.length (rd kUp s.2.2.2 (B4 s.2.2.2 id:Int)).2.2.1:Int)+(List.length (L7 24 dat j):Int)>(rd kUp st.2.2.2 (B4 st.2.2.2 id:Int)).2.1:=by rw [← e3];exact hx
        omega)]
  have hus:=B4L h.up ⟨hr,hbp⟩ hf
  obtain ⟨k1,k2,k3⟩:=D77 h.has ((rd kUp s.2.2.2 (B4 s.2.2.2 id:Int)).1,(rd kUp s.2.2.2 (B4 s.2.2.2 id:Int)).2.1,(rd kUp s.2.2.2 (B4 s.2.2.2 id:Int)).2.2.1++L7 24 dat j,(rd kUp s.2.2.2 (B4 s.2.2.2 id:Int)).2.2.2) rfl
  refine ⟨hr,hf,h.ep,?_,?_,D3z h.dk hr _,hus,k1,k2.trans h.ix,?_⟩
  · show s.2.2.1+1=st.2.2.1+((j+1:Nat):Int)
    omega
  · show (s.1.1.set _ _).length=_
    rw [List.length_set];exact h.len
  · show rd kUp (s.2.2.2.set (B4 s.2.2.2 id) _) ((B4 (s.2.2.2.set (B4 s.2.2.2 id) _) id:Nat):Int)=_
    rw [k2,k3,h.val]
    simp only [List.append_assoc,D1H]
theorem D9C{st:A7}{id:ByteArray}{off:Int}{dat:List Int}(hc:D41 st id off dat):E0v st id off dat 0 st:=
  ⟨rfl,by simp,rfl,hc.dk,hc.up,hc.has,rfl,by
    have e2:(rd kUp st.2.2.2 (B4 st.2.2.2 id:Int)).2.2.2=false:=hc.nd
    rw [Nat.zero_mul,List.take_zero,List.append_nil,← e2]⟩
theorem B5b{st:A7}{id:ByteArray}{off:Int}{dat:List Int}(hc:D41 st id off dat):∀ j,j≤nPc dat→E0v st id off dat j (putAt st id off dat j)
  | 0,_=>D9C hc
  | j+1,hj=>(B4O hc (B5b hc j (by omega)) (by omega)).2.2
theorem C4d{st:A7}{id:ByteArray}{off:Int}{dat:List Int}(hc:D41 st id off dat):∀ (k j:Nat),j+k=nPc dat→∀ o:Int,(j<nPc dat→o=off+((j*24:Nat):Int))→
    ∃ o',B61 (A1J C8 id) ((pieces 24 dat).drop j) (o,(putAt st id off dat j).2.1,(putAt st id off dat j).2.2.1,(putAt st id off dat j).1.1,(putAt st id off dat j).1.2,(putAt st id off dat j).2.2.2,()) =
      some (o',(putAt st id off dat (nPc dat)).2.1,(putAt st id off dat (nPc dat)).2.2.1,(putAt st id off dat (nPc dat)).1.1,(putAt st id off dat (nPc dat)).1.2,(putAt st id off dat (nPc dat)).2.2.2,())
  | 0,j,hj,o,_=>by
    rw [Nat.add_zero] at hj
    subst hj
    have:(pieces 24 dat).length=nPc dat:=by simp [pieces,nPc]
    rw [← this,List.drop_length]
    exact ⟨o,rfl⟩
  | k+1,j,hj,o,ho=>by
    have hlt:j<nPc dat:=by omega
    have hlen:(pieces 24 dat).length=nPc dat:=by simp [pieces,nPc]
    have hdrop:(pieces 24 dat).drop j=L7 24 dat j::(pieces 24 dat).drop (j+1):=by
      rw [List.drop_eq_getElem_cons (by omega)];simp [pieces]
    have ho:=ho hlt
    have hI:=B5b hc j (by omega)
    obtain ⟨hr,hf,hn⟩:=B4O hc hI hlt
    have hl:=hc.len
    have hn1:=hc.nx.1
    have hn2:=hc.nx.2
    have hnx:=hI.nx
    have hle:=hI.len
    obtain ⟨hlt',_⟩:=J0.1 hc.has
    have hu:=hc.up.2.2 _ (List.getElem_mem hlt')
    rw [← C7 (k:=kUp) hlt'] at hu
    have hu2:=hu.2.1
    have hat:=hc.at'
    have hft:=hc.fits
    obtain ⟨p1,p2,p3⟩:=B7X dat j (B4N.1 hlt)
    have hj2:=B4N.1 hlt
    have hw:=B2N (putAt st id off dat j) 2 id (off+((j*24:Nat):Int)) (L7 24 dat j) hI.up hr (A6T (A2n hc.byt _) _) (by omega) (by omega) (by omega) _ hf
    rw [hdrop]
    simp only [B61,A1J]
    have hw':C8 (((putAt st id off dat j).1.1,(putAt st id off dat j).1.2),((putAt st id off dat j).2.1,((putAt st id off dat j).2.2.1,(putAt st id off dat j).2.2.2))) 2 id o (L7 24 dat j)=some (putAt st id off dat (j+1),()):=by
      rw [ho];exact hw
    rw [hw',w64 (by omega) (by omega)]
    simp only [A4]
    exact C4d hc k (j+1) (by omega) _ (fun hl2=>by have:=B4N.1 hl2;omega)
theorem D42{st:A7}{id:ByteArray}{off:Int}{dat:List Int}(hc:D41 st id off dat)(h400:dat.length≤400) :
    B9 (A1H F3 dat id off) (0,st.2.1,st.2.2.1,st.2.2.2,st.1.1,st.1.2,()) =
      some ((putAt st id off dat (nPc dat)).2.1,(putAt st id off dat (nPc dat)).2.2.1,(putAt st id off dat (nPc dat)).2.2.2,(putAt st id off dat (nPc dat)).1.1,(putAt st id off dat (nPc dat)).1.2,()):=by
  obtain ⟨z,e,hz⟩:=V5 (A1H F3 dat id off) (fun l=>((dat.length:Int)+24-l.1).toNat)
    (fun l=>∃ j:Nat,j≤nPc dat∧l=(((j*24:Nat):Int),(putAt st id off dat j).2.1,(putAt st id off dat j).2.2.1,(putAt st id off dat j).2.2.2,(putAt st id off dat j).1.1,(putAt st id off dat j).1.2,()))
    (fun z=>z=((putAt st id off dat (nPc dat)).2.1,(putAt st id off dat (nPc dat)).2.2.1,(putAt st id off dat (nPc dat)).2.2.2,(putAt st id off dat (nPc dat)).1.1,(putAt st id off dat (nPc dat)).1.2,())) (fun l hl=>by
      obtain ⟨j,hj,rfl⟩:=hl
      have hI:=B5b hc j hj
      have hl:=hc.len
      have hn1:=hc.nx.1
      have hn2:=hc.nx.2
      have hnx:=hI.nx
      have hle:=hI.len
      obtain ⟨hlt',_⟩:=J0.1 hc.has
      have hu:=hc.up.2.2 _ (List.getElem_mem hlt')
      rw [← C7 (k:=kUp) hlt'] at hu
      have hu2:=hu.2.1
      have hat:=hc.at'
      have hft:=hc.fits
      simp only [A1H]
      by_cases hi:j<nPc dat
      · have hj2:=B4N.1 hi
        obtain ⟨hr,hf,hn⟩:=B4O hc hI hi
        obtain ⟨p1,p2,p3⟩:=B7X dat j hj2
        rw [A0 (show ((j*24:Nat):Int)<(dat.length:Int) by omega),w64 (n:=((j*24:Nat):Int)+24) (by omega) (by omega)]
        obtain ⟨to,hto,hto2⟩:∃ to:Int,(bif decide (((j*24:Nat):Int)+24>(dat.length:Int)) then some ((dat.length:Int),()) else some (((j*24:Nat):Int)+24,()))=some (to,())∧(to.toNat=min (j*24+24) dat.length∧0≤to):=by
          by_cases hcc:((j*24:Nat):Int)+24>(dat.length:Int)
          · rw [A0 hcc];exact ⟨_,rfl,by omega,by omega⟩
          · rw [A3 hcc];exact ⟨_,rfl,by omega,by omega⟩
        simp only [cond_true,hto,bO]
        have hpc:(dat.take to.toNat).drop ((j*24:Nat):Int).toNat=L7 24 dat j:=by
          rw [hto2.1,Int.toNat_natCast,L7,List.take_eq_take_iff.2 (show min (min (j*24+24) dat.length) dat.length=min (j*24+24) dat.length by omega)]
        rw [hpc,A0 (show 0≤((j*24:Nat):Int) by omega),A0 (show ((j*24:Nat):Int)≤to by omega),A0 (show to≤(dat.length:Int) by omega),A0 (by simp;omega),A0 (by simp;omega),w64 (n:=off+((j*24:Nat):Int)) (by omega) (by omega)]
        simp only [cond_true,List.nil_append]
        have hw:=B2M (putAt st id off dat j) 0 0 2 id (off+((j*24:Nat):Int)) (L7 24 dat j) hI.up hr (A6T (A2n hc.byt _) _) (by omega) (by omega) (by omega) _ hf
        have hw':F3 (((putAt st id off dat j).1.1,(putAt st id off dat j).1.2),((putAt st id off dat j).2.1,((putAt st id off dat j).2.2.1,(putAt st id off dat j).2.2.2))) (0,(0,(2,(id,(off+((j*24:Nat):Int),L7 24 dat j)))))=some (putAt st id off dat (j+1),()):=hw
        rw [hw']
        simp only [bO]
        refine .inl ⟨_,rfl,⟨j+1,by omega,?_⟩,by simp only;omega⟩
        rw [show ((j*24:Nat):Int)+24=(((j+1)*24:Nat):Int) by omega]
      · have:j=nPc dat:=by omega
        subst this
        have:¬ nPc dat*24<dat.length:=fun h=>hi (B4N.2 h)
        rw [A3 (show ¬ ((nPc dat*24:Nat):Int)<(dat.length:Int) by omega)]
        exact .inr ⟨_,rfl,rfl⟩) (0,st.2.1,st.2.2.1,st.2.2.2,st.1.1,st.1.2,()) ⟨0,by omega,rfl⟩
  rw [e,hz]
def A4k(st:A7)(id:ByteArray)(off:Int)(dat:List Int):A7×Int:=
  if idB id=true∧1≤dat.length∧dat.length≤400 then
    (if H1 st.2.2.2 id=true then
      (if (rd kUp st.2.2.2 (B4 st.2.2.2 id:Int)).2.2.2=true∨off≠(List.length (rd kUp st.2.2.2 (B4 st.2.2.2 id:Int)).2.2.1:Int)∨off+(dat.length:Int)>(rd kUp st.2.2.2 (B4 st.2.2.2 id:Int)).2.1 then (st,4)
       else if (st.1.1.length:Int)-st.2.2.1<(nPc dat:Int) then (st,5) else (putAt st id off dat (nPc dat),0))
     else (st,2))
  else (st,1)
theorem D9D(dat:List Int)(h:dat.length≤400):(IntKind.i64.wrap ((IntKind.i64.wrap ((IntKind.i64.wrap ((dat.length:Int)+24))-1)).tdiv 24))=(nPc dat:Int):=by
  have htd:((dat.length:Int)+24-1).tdiv 24=(nPc dat:Int):=by
    rw [Int.tdiv_eq_ediv_of_nonneg (by omega)]
    unfold nPc
    omega
  rw [w64 (n:=(dat.length:Int)+24) (by omega) (by omega),w64 (n:=(dat.length:Int)+24-1) (by omega) (by omega),htd,w64 (by unfold nPc;omega) (by unfold nPc;omega)]
structure Rt (st:A7):Prop where
  g:C4U st
  up:Ups st.2.2.2
  dk:A3r st.1
theorem B5c{st:A7}{id:ByteArray}{off:Int}{dat:List Int}(h:Rt st)(hb:Byt dat)(h1:idB id=true)(h2:1≤dat.length∧dat.length≤400)(h3:H1 st.2.2.2 id=true)
    (h4:¬ ((rd kUp st.2.2.2 (B4 st.2.2.2 id:Int)).2.2.2=true∨off≠(List.length (rd kUp st.2.2.2 (B4 st.2.2.2 id:Int)).2.2.1:Int)∨off+(dat.length:Int)>(rd kUp st.2.2.2 (B4 st.2.2.2 id:Int)).2.1))
    (h5:¬ (st.1.1.length:Int)-st.2.2.1<(nPc dat:Int)):D41 st id off dat:=by
  obtain ⟨g1,g2,g3,g4,⟨g5,g6⟩,_⟩:=h.g
  rw [not_or,not_or] at h4
  refine ⟨h1,⟨g1,g2⟩,⟨g5,by omega⟩,g4,h.dk,h.up,h3,by simpa using h4.1,Decidable.not_not.1 h4.2.1,by have h6:=h4.2.2;exact Int.not_lt.1 h6,hb,h2.1⟩
theorem D43(st:A7)(id:ByteArray)(off:Int)(dat:List Int)(hid:id.size≤maxLen)(h:Rt st)(hb:Byt dat)(hd:dat.length≤1048576)(ho:-9223372036854775808≤off∧off≤9223372036854775807) :
    A0v st id off dat=some ((A4k st id off dat).2,(A4k st id off dat).1,()):=by
  obtain ⟨g1,g2,g3,g4,⟨g5,g6⟩,_⟩:=h.g
  have hU:=h.up
  have hl:st.1.1.length≤1048576:=by omega
  have hul:=hU.2.1
  simp only [A0v,A6l,B2J id hid,L8,bO,A4k]
  cases hidb:idB id with
  | false=>simp [B7]
  | true=>
    simp only [Bool.not_true,cond_false,true_and]
    by_cases hlen:1≤(dat.length:Int)∧(dat.length:Int)≤400
    · rw [A0 hlen,if_pos (show 1≤dat.length∧dat.length≤400 by omega)]
      simp only [Bool.not_true,cond_false,B7]
      rw [A7Y st.2.2.2 id (by simp only [maxLen];omega),B5Z st g5 g6 hl,D9D dat (by omega)]
      cases hh:H1 st.2.2.2 id with
      | false=>
        simp only [Bool.false_eq_true,if_false,bO]
        rw [A0 (show (-1:Int)<0 by omega)]
        rfl
      | true=>
        obtain ⟨hlt,hid2⟩:=J0.1 hh
        have hu:=hU.2.2 _ (List.getElem_mem hlt)
        rw [← C7 (k:=kUp) hlt] at hu
        have hu1:=hu.1
        have hu2:=hu.2.1
        simp only [if_true,bO]
        rw [A3 (show ¬ (B4 st.2.2.2 id:Int)<0 by omega)]
        simp only [cond_false]
        cases hdn:(rd kUp st.2.2.2 (B4 st.2.2.2 id:Int)).2.2.2 with
        | true=>simp [bO]
        | false=>
          simp only [cond_false]
          cases ho':decide (off=(List.length (rd kUp st.2.2.2 (B4 st.2.2.2 id:Int)).2.2.1:Int)) with
          | false=>
            have ho:=of_decide_eq_false ho'
            rw [if_pos (.inr (.inl ho))]
            rfl
          | true=>
            have ho:=of_decide_eq_true ho'
            simp only [Bool.not_true,cond_false,bO]
            rw [w64 (n:=off+(dat.length:Int)) (by omega) (by omega)]
            by_cases hw:off+(dat.length:Int)>(rd kUp st.2.2.2 (B4 st.2.2.2 id:Int)).2.1
            · rw [A0 hw,if_pos (.inr (.inr hw))]
              rfl
            · have hno:¬ ((rd kUp st.2.2.2 (B4 st.2.2.2 id:Int)).2.2.2=true∨off≠(List.length (rd kUp st.2.2.2 (B4 st.2.2.2 id:Int)).2.2.1:Int)∨off+(dat.length:Int)>(rd kUp st.2.2.2 (B4 st.2.2.2 id:Int)).2.1):=by
                rw [hdn];rintro (hx | hx | hx)
                · cases hx
                · exact hx ho
                · exact hw hx
              have hno':=hno
              rw [hdn] at hno'
              rw [A3 hw,if_neg hno']
              simp only [cond_false,bO]
              by_cases hleft:(st.1.1.length:Int)-st.2.2.1<(nPc dat:Int)
              · rw [A0 hleft,if_pos hleft]
                rfl
              · rw [A3 hleft,if_neg hleft,A0 (show dat.length≤1152921504606846976 by omega)]
                simp only [cond_false,cond_true]
                have hc:=B5c h hb hidb ⟨by omega,by omega⟩ hh hno hleft
                obtain ⟨o',e⟩:=C4d hc (nPc dat) 0 (by omega) off (fun _=>by simp)
                rw [List.drop_zero] at e
                have e':B61 (A1J C8 id) (pieces 24 dat) (off,st.2.1,st.2.2.1,st.1.1,st.1.2,st.2.2.2,())=_:=e
                rw [e']
                rfl
    · rw [A3 hlen,if_neg (show ¬ (1≤dat.length∧dat.length≤400) by omega)]
      rfl
theorem D44(st:A7)(id:ByteArray)(off:Int)(dat:List Int)(hid:id.size≤maxLen)(h:Rt st)(hS:A8B st)(hok:F7 st=some (true,()))(hb:Byt dat)(hd:dat.length≤1048576)(ho:-9223372036854775808≤off∧off≤9223372036854775807) :
    A0t st id off dat=some ((A4k st id off dat).1,(A4k st id off dat).2,()):=by
  obtain ⟨g1,g2,g3,g4,⟨g5,g6⟩,_⟩:=h.g
  have hU:=h.up
  have hl:st.1.1.length≤1048576:=by omega
  simp only [A0t,A6k,A1y st hS,hok,A8A id hid,N2,bO,A4k]
  cases hidb:idB id with
  | false=>simp [B7]
  | true=>
    simp only [Bool.not_true,cond_false,true_and]
    by_cases hlen:1≤(dat.length:Int)∧(dat.length:Int)≤400
    · rw [A0 hlen,if_pos (show 1≤dat.length∧dat.length≤400 by omega)]
      simp only [Bool.not_true,cond_false,B7]
      rw [B8Y st.2.2.2 id hU,B5a st g5 g6 hl,D9D dat (by omega)]
      cases hh:H1 st.2.2.2 id with
      | false=>
        simp only [Bool.false_eq_true,if_false,bO]
        rw [A0 (show (-1:Int)<0 by omega)]
        rfl
      | true=>
        obtain ⟨hlt,hid2⟩:=J0.1 hh
        have hu:=hU.2.2 _ (List.getElem_mem hlt)
        rw [← C7 (k:=kUp) hlt] at hu
        have hu1:=hu.1
        have hu2:=hu.2.1
        simp only [if_true,bO]
        rw [A3 (show ¬ (B4 st.2.2.2 id:Int)<0 by omega),A0 (show (0:Int)≤(B4 st.2.2.2 id:Int) by omega),A0 (show (B4 st.2.2.2 id:Int)<(st.2.2.2.length:Int) by omega)]
        simp only [cond_true,cond_false]
        cases hdn:(rd kUp st.2.2.2 (B4 st.2.2.2 id:Int)).2.2.2 with
        | true=>simp [bO]
        | false=>
          simp only [cond_false]
          cases ho':decide (off=(List.length (rd kUp st.2.2.2 (B4 st.2.2.2 id:Int)).2.2.1:Int)) with
          | false=>
            have ho:=of_decide_eq_false ho'
            rw [if_pos (.inr (.inl ho))]
            rfl
          | true=>
            have ho:=of_decide_eq_true ho'
            simp only [Bool.not_true,cond_false,bO]
            rw [w64 (n:=off+(dat.length:Int)) (by omega) (by omega)]
            by_cases hw:off+(dat.length:Int)>(rd kUp st.2.2.2 (B4 st.2.2.2 id:Int)).2.1
            · rw [A0 hw,if_pos (.inr (.inr hw))]
              rfl
            · have hno:¬ ((rd kUp st.2.2.2 (B4 st.2.2.2 id:Int)).2.2.2=true∨off≠(List.length (rd kUp st.2.2.2 (B4 st.2.2.2 id:Int)).2.2.1:Int)∨off+(dat.length:Int)>(rd kUp st.2.2.2 (B4 st.2.2.2 id:Int)).2.1):=by
                rw [hdn];rintro (hx | hx | hx)
                · cases hx
                · exact hx ho
                · exact hw hx
              have hno':=hno
              rw [hdn] at hno'
              rw [A3 hw,if_neg hno']
              simp only [cond_false,bO]
              by_cases hleft:(st.1.1.length:Int)-st.2.2.1<(nPc dat:Int)
              · rw [A0 hleft,if_pos hleft]
                rfl
              · rw [A3 hleft,if_neg hleft]
                simp only [cond_false]
                have hc:=B5c h hb hidb ⟨by omega,by omega⟩ hh hno hleft
                rw [D42 hc (by omega)]
                rfl
    · rw [A3 hlen,if_neg (show ¬ (1≤dat.length∧dat.length≤400) by omega)]
      rfl
theorem D1I{st:A7}{id:ByteArray}{off:Int}{dat:List Int}(h:Rt st)(hb:Byt dat):Ups (A4k st id off dat).1.2.2.2∧A3r (A4k st id off dat).1.1:=by
  unfold A4k
  split
  · rename_i h1
    split
    · rename_i h3
      split
      · exact ⟨h.up,h.dk⟩
      · rename_i h4
        split
        · exact ⟨h.up,h.dk⟩
        · rename_i h5
          have:=B5b (B5c h hb h1.1 h1.2 h3 h4 h5) _ (Nat.le_refl _)
          exact ⟨this.up,this.dk⟩
    · exact ⟨h.up,h.dk⟩
  · exact ⟨h.up,h.dk⟩
theorem D45{s:A7}(hd:A3r s.1)(hu:Ups s.2.2.2):A8B s:=⟨hd,by have:=hu.2.1;omega,A9I hu⟩
def A2Q(st:A7)(id:ByteArray)(want:Int):A7×Int:=
  if idB id=true∧0≤want∧want≤1000000 then
    (if H1 st.2.2.2 id=true then (st,3)
     else if (st.1.1.length:Int)-st.2.2.1<1∨10≤st.2.2.2.length then (st,5)
     else (wrote st (st.2.1,st.2.2.1,1,id,want,[]) (st.2.2.2.take (B4 st.2.2.2 id)++(id,want,[],false)::st.2.2.2.drop (B4 st.2.2.2 id)),0))
  else (st,1)
def A1z(st:A7)(id:ByteArray)(sum:Int):A7×Int:=
  if idB id=true then
    (if H1 st.2.2.2 id=true then
      (if (List.length (rd kUp st.2.2.2 (B4 st.2.2.2 id:Int)).2.2.1:Int)<(rd kUp st.2.2.2 (B4 st.2.2.2 id:Int)).2.1 then (st,4)
       else if sum≠((A6R (rd kUp st.2.2.2 (B4 st.2.2.2 id:Int)).2.2.1 ^^^ 4294967295:Nat):Int) then (st,6)
       else if (rd kUp st.2.2.2 (B4 st.2.2.2 id:Int)).2.2.2=true then (st,0)
       else if (st.1.1.length:Int)-st.2.2.1<1 then (st,5)
       else (wrote st (st.2.1,st.2.2.1,3,id,0,[]) (st.2.2.2.set (B4 st.2.2.2 id) ((rd kUp st.2.2.2 (B4 st.2.2.2 id:Int)).1,(rd kUp st.2.2.2 (B4 st.2.2.2 id:Int)).2.1,(rd kUp st.2.2.2 (B4 st.2.2.2 id:Int)).2.2.1,true)),0))
     else (st,2))
  else (st,1)
def A58(st:A7)(id:ByteArray):A7×Int:=
  if idB id=true then
    (if H1 st.2.2.2 id=true then
      (if (st.1.1.length:Int)-st.2.2.1<1 then (st,5)
       else (wrote st (st.2.1,st.2.2.1,4,id,0,[]) (st.2.2.2.take (B4 st.2.2.2 id)++st.2.2.2.drop (B4 st.2.2.2 id+1)),0))
     else (st,2))
  else (st,1)
theorem A8C{st:A7}(h:C4U st)(k n:Int)(id:ByteArray)(hid:idB id=true)(hl:¬ (st.1.1.length:Int)-st.2.2.1<1)(hk:k=1∧0≤n∧n≤1000000000∨(k=3∨k=4)∧n=0):Q1 (st.2.1,st.2.2.1,k,id,n,[])=true:=by
  obtain ⟨g1,g2,g3,g4,⟨g5,g6⟩,_⟩:=h
  simp only [Q1,hid,List.length_nil]
  rw [A0 (show 0≤st.2.1∧st.2.1≤10000 by omega),A0 (show 0≤st.2.2.1∧st.2.2.1≤199 by omega)]
  rcases hk with ⟨rfl,h0,h1⟩ | ⟨rfl | rfl,rfl⟩
  · rw [if_pos rfl,A0 (show 0≤n∧n≤1000000000 from ⟨h0,h1⟩)];rfl
  · rfl
  · rfl
theorem B5d{st:A7}{id:ByteArray}{want:Int}(h1:¬ H1 st.2.2.2 id=true)(h2:¬ 10≤st.2.2.2.length):K7 st.2.2.2 (st.2.1,st.2.2.1,1,id,want,[])=some (st.2.2.2.take (B4 st.2.2.2 id)++(id,want,[],false)::st.2.2.2.drop (B4 st.2.2.2 id)):=by
  simp only [K7,if_true]
  rw [if_neg (fun h=>h.elim h1 h2)]
theorem B5e{st:A7}{id:ByteArray}(hU:Ups st.2.2.2)(h1:H1 st.2.2.2 id=true)(h2:¬ (List.length (rd kUp st.2.2.2 (B4 st.2.2.2 id:Int)).2.2.1:Int)<(rd kUp st.2.2.2 (B4 st.2.2.2 id:Int)).2.1)(h3:¬ (rd kUp st.2.2.2 (B4 st.2.2.2 id:Int)).2.2.2=true) :
    K7 st.2.2.2 (st.2.1,st.2.2.1,3,id,0,[])=some (st.2.2.2.set (B4 st.2.2.2 id) ((rd kUp st.2.2.2 (B4 st.2.2.2 id:Int)).1,(rd kUp st.2.2.2 (B4 st.2.2.2 id:Int)).2.1,(rd kUp st.2.2.2 (B4 st.2.2.2 id:Int)).2.2.1,true)):=by
  obtain ⟨hlt,hid2⟩:=J0.1 h1
  have hu:=hU.2.2 _ (List.getElem_mem hlt)
  rw [← C7 (k:=kUp) hlt] at hu
  have hu1:=hu.1
  simp only [K7,h1]
  rw [if_neg (by omega),if_neg (by simp),if_neg (by omega),if_pos trivial,if_neg (fun h=>h.elim h3 (fun h=>h (Int.le_antisymm hu1 (Int.not_lt.1 h2))))]
theorem C0N{st:A7}{id:ByteArray}(h1:H1 st.2.2.2 id=true):K7 st.2.2.2 (st.2.1,st.2.2.1,4,id,0,[])=some (st.2.2.2.take (B4 st.2.2.2 id)++st.2.2.2.drop (B4 st.2.2.2 id+1)):=by
  simp only [K7,h1]
  rw [if_neg (by omega),if_neg (by simp),if_neg (by omega),if_neg (by omega),if_pos trivial]
theorem D1J(st:A7)(id:ByteArray)(want:Int)(hid:id.size≤maxLen)(h:Rt st):A0F st id want=some ((A2Q st id want).2,(A2Q st id want).1,()):=by
  obtain ⟨g1,g2,g3,g4,⟨g5,g6⟩,_⟩:=h.g
  have hU:=h.up
  have hl:st.1.1.length≤1048576:=by omega
  have hul:=hU.2.1
  simp only [A0F,A5V,B2J id hid,L8,bO,A2Q]
  cases hidb:idB id with
  | false=>simp [B7,bO]
  | true=>
    simp only [Bool.not_true,cond_false,true_and]
    by_cases hw:0≤want∧want≤1000000
    · rw [A0 hw,if_pos hw]
      simp only [Bool.not_true,cond_false,B7]
      rw [A7Y st.2.2.2 id (by simp only [maxLen];omega),B5Z st g5 g6 hl]
      cases hh:H1 st.2.2.2 id with
      | true=>
        simp only [if_true,bO]
        rw [A3 (show ¬ (B4 st.2.2.2 id:Int)<0 by omega)]
        rfl
      | false=>
        simp only [Bool.false_eq_true,if_false,bO]
        rw [A0 (show (-1:Int)<0 by omega)]
        simp only [cond_true]
        by_cases hleft:(st.1.1.length:Int)-st.2.2.1<1
        · rw [A0 hleft,if_pos (.inl hleft)]
          rfl
        · rw [A3 hleft]
          simp only [cond_false]
          by_cases h10:10≤st.2.2.2.length
          · rw [A0 (show (st.2.2.2.length:Int)≥10 by omega),if_pos (.inr h10)]
            rfl
          · rw [A3 (show ¬ (st.2.2.2.length:Int)≥10 by omega),if_neg (fun hx=>hx.elim hleft h10)]
            simp only [cond_false]
            have hr:=A8C h.g 1 want id hidb hleft (.inl ⟨rfl,hw.1,by omega⟩)
            have hf:=B5d (st:=st) (id:=id) (want:=want) (by rw [hh];simp) h10
            rw [B2N st 1 id want [] hU hr A08 g5 (by omega) hl _ hf]
            rfl
    · rw [A3 hw,if_neg hw]
      rfl
theorem D1K(st:A7)(id:ByteArray)(want:Int)(hid:id.size≤maxLen)(h:Rt st)(hS:A8B st)(hok:F7 st=some (true,())):A0B st id want=some ((A2Q st id want).1,(A2Q st id want).2,()):=by
  obtain ⟨g1,g2,g3,g4,⟨g5,g6⟩,_⟩:=h.g
  have hU:=h.up
  have hl:st.1.1.length≤1048576:=by omega
  have hul:=hU.2.1
  simp only [A0B,A5Q,A1y st hS,hok,A8A id hid,N2,bO,A2Q]
  cases hidb:idB id with
  | false=>simp [B7,bO]
  | true=>
    simp only [Bool.not_true,cond_false,true_and]
    by_cases hw:0≤want∧want≤1000000
    · rw [A0 hw,if_pos hw]
      simp only [Bool.not_true,cond_false,B7]
      rw [B8Y st.2.2.2 id hU,B5a st g5 g6 hl]
      cases hh:H1 st.2.2.2 id with
      | true=>
        simp only [if_true,bO]
        rw [A0 (show (B4 st.2.2.2 id:Int)≥0 by omega)]
        rfl
      | false=>
        simp only [Bool.false_eq_true,if_false,bO]
        rw [A3 (show ¬ (-1:Int)≥0 by omega)]
        simp only [cond_false]
        by_cases hleft:(st.1.1.length:Int)-st.2.2.1<1
        · rw [A0 hleft,if_pos (.inl hleft)]
          rfl
        · rw [A3 hleft]
          simp only [cond_false]
          by_cases h10:10≤st.2.2.2.length
          · rw [A0 (show (st.2.2.2.length:Int)=10 by omega),if_pos (.inr h10)]
            rfl
          · rw [A3 (show ¬ (st.2.2.2.length:Int)=10 by omega),if_neg (fun hx=>hx.elim hleft h10)]
            simp only [cond_false]
            have hr:=A8C h.g 1 want id hidb hleft (.inl ⟨rfl,hw.1,by omega⟩)
            have hf:=B5d (st:=st) (id:=id) (want:=want) (by rw [hh];simp) h10
            rw [B2M st 0 0 1 id want [] hU hr A08 g5 (by omega) hl _ hf]
            rfl
    · rw [A3 hw,if_neg hw]
      rfl
theorem D1L(st:A7)(id:ByteArray)(sum:Int)(hid:id.size≤maxLen)(h:Rt st):A0G st id sum=some ((A1z st id sum).2,(A1z st id sum).1,()):=by
  obtain ⟨g1,g2,g3,g4,⟨g5,g6⟩,_⟩:=h.g
  have hU:=h.up
  have hl:st.1.1.length≤1048576:=by omega
  have hul:=hU.2.1
  simp only [A0G,A5W,B2J id hid,bO,A1z]
  cases hidb:idB id with
  | false=>rfl
  | true=>
    simp only [Bool.not_true,cond_false,if_true]
    rw [A7Y st.2.2.2 id (by simp only [maxLen];omega),B5Z st g5 g6 hl]
    cases hh:H1 st.2.2.2 id with
    | false=>
      simp only [Bool.false_eq_true,if_false,bO]
      rw [A0 (show (-1:Int)<0 by omega)]
      rfl
    | true=>
      obtain ⟨hlt,hid2⟩:=J0.1 hh
      have hu:=hU.2.2 _ (List.getElem_mem hlt)
      have hdl:=A9I hU _ (List.getElem_mem hlt)
      rw [← C7 (k:=kUp) hlt] at hu hdl
      simp only [if_true,bO]
      rw [A3 (show ¬ (B4 st.2.2.2 id:Int)<0 by omega)]
      simp only [cond_false]
      rw [C4M _ hu.2.2.2 (by simp only [maxLen];omega)]
      simp only [bO]
      by_cases hd1:(List.length (rd kUp st.2.2.2 (B4 st.2.2.2 id:Int)).2.2.1:Int)<(rd kUp st.2.2.2 (B4 st.2.2.2 id:Int)).2.1
      · rw [A0 hd1,if_pos hd1]
        rfl
      rw [A3 hd1,if_neg hd1]
      simp only [cond_false]
      by_cases hc:sum=((A6R (rd kUp st.2.2.2 (B4 st.2.2.2 id:Int)).2.2.1 ^^^ 4294967295:Nat):Int)
      · rw [A0 hc,if_neg (fun hx=>hx hc)]
        simp only [Bool.not_true,cond_false]
        cases hdn:(rd kUp st.2.2.2 (B4 st.2.2.2 id:Int)).2.2.2 with
        | true=>rfl
        | false=>
          simp only [Bool.not_false,cond_true,cond_false,Bool.false_eq_true,if_false,bO]
          by_cases hleft:(st.1.1.length:Int)-st.2.2.1<1
          · rw [A0 hleft,if_pos hleft]
            rfl
          · rw [A3 hleft,if_neg hleft]
            simp only [cond_false]
            have hr:=A8C h.g 3 0 id hidb hleft (.inr ⟨.inl rfl,rfl⟩)
            have hf:=B5e hU hh hd1 (by rw [hdn];simp)
            have hwi:C8 ((st.1.1,st.1.2),(st.2.1,(st.2.2.1,st.2.2.2))) 3 id 0 []=_:=B2N st 3 id 0 [] hU hr A08 g5 (by omega) hl _ hf
            simp only [B7,Bool.not_false,cond_true]
            rw [hwi]
            rfl
      · rw [A3 hc,if_pos hc]
        rfl
theorem D1M(st:A7)(id:ByteArray)(sum:Int)(hid:id.size≤maxLen)(h:Rt st)(hS:A8B st)(hok:F7 st=some (true,())):A0C st id sum=some ((A1z st id sum).1,(A1z st id sum).2,()):=by
  obtain ⟨g1,g2,g3,g4,⟨g5,g6⟩,_⟩:=h.g
  have hU:=h.up
  have hl:st.1.1.length≤1048576:=by omega
  have hul:=hU.2.1
  simp only [A0C,A5R,A1y st hS,hok,A8A id hid,bO,A1z]
  cases hidb:idB id with
  | false=>rfl
  | true=>
    simp only [Bool.not_true,cond_false,B7,if_true]
    rw [B8Y st.2.2.2 id hU,B5a st g5 g6 hl]
    cases hh:H1 st.2.2.2 id with
    | false=>
      simp only [Bool.false_eq_true,if_false,bO]
      rw [A0 (show (-1:Int)<0 by omega)]
      rfl
    | true=>
      obtain ⟨hlt,hid2⟩:=J0.1 hh
      have hu:=hU.2.2 _ (List.getElem_mem hlt)
      have hdl:=A9I hU _ (List.getElem_mem hlt)
      rw [← C7 (k:=kUp) hlt] at hu hdl
      simp only [if_true,bO]
      rw [A3 (show ¬ (B4 st.2.2.2 id:Int)<0 by omega),A0 (show (0:Int)≤(B4 st.2.2.2 id:Int) by omega),A0 (show (B4 st.2.2.2 id:Int)<(st.2.2.2.length:Int) by omega)]
      simp only [cond_true,cond_false]
      rw [C4L _ hu.2.2.2 (by simp only [maxLen];omega)]
      simp only [bO]
      by_cases hd1:(List.length (rd kUp st.2.2.2 (B4 st.2.2.2 id:Int)).2.2.1:Int)<(rd kUp st.2.2.2 (B4 st.2.2.2 id:Int)).2.1
      · rw [A0 hd1,if_pos hd1]
        rfl
      rw [A3 hd1,if_neg hd1]
      simp only [cond_false]
      by_cases hc:sum=((A6R (rd kUp st.2.2.2 (B4 st.2.2.2 id:Int)).2.2.1 ^^^ 4294967295:Nat):Int)
      · rw [A0 hc,if_neg (fun hx=>hx hc)]
        simp only [Bool.not_true,cond_false]
        cases hdn:(rd kUp st.2.2.2 (B4 st.2.2.2 id:Int)).2.2.2 with
        | true=>rfl
        | false=>
          simp only [Bool.not_false,cond_true,cond_false,Bool.false_eq_true,if_false,bO]
          by_cases hleft:(st.1.1.length:Int)-st.2.2.1<1
          · rw [A0 hleft,if_pos hleft]
            rfl
          · rw [A3 hleft,if_neg hleft]
            simp only [cond_false]
            have hr:=A8C h.g 3 0 id hidb hleft (.inr ⟨.inl rfl,rfl⟩)
            have hf:=B5e hU hh hd1 (by rw [hdn];simp)
            rw [B2M st 0 0 3 id 0 [] hU hr A08 g5 (by omega) hl _ hf]
            rfl
      · rw [A3 hc,if_pos hc]
        rfl
theorem D1N(st:A7)(id:ByteArray)(hid:id.size≤maxLen)(h:Rt st):A0H st id=some ((A58 st id).2,(A58 st id).1,()):=by
  obtain ⟨g1,g2,g3,g4,⟨g5,g6⟩,_⟩:=h.g
  have hU:=h.up
  have hl:st.1.1.length≤1048576:=by omega
  have hul:=hU.2.1
  simp only [A0H,A5X,B2J id hid,bO,A58]
  cases hidb:idB id with
  | false=>rfl
  | true=>
    simp only [Bool.not_true,cond_false,if_true,B7]
    rw [A7Y st.2.2.2 id (by simp only [maxLen];omega),B5Z st g5 g6 hl]
    cases hh:H1 st.2.2.2 id with
    | false=>
      simp only [Bool.false_eq_true,if_false,bO]
      rw [A0 (show (-1:Int)<0 by omega)]
      rfl
    | true=>
      simp only [if_true,bO]
      rw [A3 (show ¬ (B4 st.2.2.2 id:Int)<0 by omega)]
      simp only [cond_false,Bool.not_true]
      by_cases hleft:(st.1.1.length:Int)-st.2.2.1<1
      · rw [A0 hleft,if_pos hleft]
        rfl
      · rw [A3 hleft,if_neg hleft]
        simp only [cond_false]
        have hr:=A8C h.g 4 0 id hidb hleft (.inr ⟨.inr rfl,rfl⟩)
        have hf:=C0N (st:=st) hh
        have hwi:C8 ((st.1.1,st.1.2),(st.2.1,(st.2.2.1,st.2.2.2))) 4 id 0 []=_:=B2N st 4 id 0 [] hU hr A08 g5 (by omega) hl _ hf
        rw [hwi]
        rfl
theorem D1O(st:A7)(id:ByteArray)(hid:id.size≤maxLen)(h:Rt st)(hS:A8B st)(hok:F7 st=some (true,())):A0D st id=some ((A58 st id).1,(A58 st id).2,()):=by
  obtain ⟨g1,g2,g3,g4,⟨g5,g6⟩,_⟩:=h.g
  have hU:=h.up
  have hl:st.1.1.length≤1048576:=by omega
  have hul:=hU.2.1
  simp only [A0D,A5S,A1y st hS,hok,A8A id hid,bO,A58]
  cases hidb:idB id with
  | false=>rfl
  | true=>
    simp only [Bool.not_true,cond_false,B7,if_true]
    rw [B8Y st.2.2.2 id hU,B5a st g5 g6 hl]
    cases hh:H1 st.2.2.2 id with
    | false=>
      simp only [Bool.false_eq_true,if_false,bO]
      rw [A0 (show (-1:Int)<0 by omega)]
      rfl
    | true=>
      simp only [if_true,bO]
      rw [A3 (show ¬ (B4 st.2.2.2 id:Int)<0 by omega)]
      simp only [cond_false]
      by_cases hleft:(st.1.1.length:Int)-st.2.2.1<1
      · rw [A0 hleft,if_pos hleft]
        rfl
      · rw [A3 hleft,if_neg hleft]
        simp only [cond_false]
        have hr:=A8C h.g 4 0 id hidb hleft (.inr ⟨.inr rfl,rfl⟩)
        have hf:=C0N (st:=st) hh
        rw [B2M st 0 0 4 id 0 [] hU hr A08 g5 (by omega) hl _ hf]
        rfl
theorem C6m{xs:List Int}(h:Byt xs):bytesOf (strOf xs)=xs:=by
  show ((strOfNums xs).data.toList.map fun b=>(b.toNat:Int))=xs
  rw [strOfNums_data,List.map_map]
  refine (List.map_congr_left fun x hx=>?_).trans (List.map_id _)
  have:=h x hx
  simp only [Function.comp,id]
  have e:(UInt8.ofNat x.toNat).toNat=x.toNat % 256:=UInt8.toNat_ofNat
  rw [e]
  omega
theorem C6n(s:ByteArray):strOf (bytesOf s)=s:=by
  refine B8X ?_
  rw [ByteArray.toList_eq,ByteArray.toList_eq]
  show ((bytesOf s).map fun n=>UInt8.ofNat n.toNat)=s.data.toList
  rw [bytesOf,List.map_map]
  refine (List.map_congr_left fun x hx=>?_).trans (List.map_id _)
  simp
theorem D1P(n:Nat):IntKind.u8.wrap (n:Int)=((n % 256:Nat):Int):=by
  simp only [IntKind.wrap,IntKind.bits,IntKind.signed]
  simp
theorem D1Q(x y:Nat)(h:y<256):(x*256) ||| y=x*256+y:=by
  have:=Nat.two_pow_add_eq_or_of_lt (i:=8) (b:=y) (by simpa using h) x
  rw [Nat.mul_comm x 256]
  exact this.symm
theorem D1R(p q:List Int)(n k:Nat):∀ j,j≤k→X5 (p++(big (n:Int) k++q)) p.length j=n / 2 ^ (8*(k-j)) % 2 ^ (8*j)
  | 0,_=>by simp [X5,Nat.mod_one]
  | j+1,hj=>by
    have ih:=D1R p q n k j (by omega)
    have hget:(p++(big (n:Int) k++q)).getD (p.length+j) 0=C4I (n:Int) k j:=by
      simp only [List.getD]
      rw [List.getElem?_append_right (by omega),Nat.add_sub_cancel_left,List.getElem?_append_left (by rw [K0];omega)]
      simp only [big,List.getElem?_map,List.getElem?_range (show j<k by omega),Option.map_some,Option.getD_some]
    have hat:C4I (n:Int) k j=((n / 2 ^ (8*(k-1-j)) % 256:Nat):Int):=by
      unfold C4I
      rw [← D1P]
      congr 1
      rw [show (2:Int) ^ (8*(k-1-j))=((2 ^ (8*(k-1-j)):Nat):Int) by rw [Int.natCast_pow];rfl,Int.fdiv_eq_ediv_of_nonneg _ (Int.natCast_nonneg _),← Int.natCast_ediv]
    simp only [X5]
    rw [ih,hget,hat,Int.toNat_natCast,D1Q _ _ (Nat.mod_lt _ (by omega))]
    rw [show k-1-j=k-(j+1) by omega]
    have e1:2 ^ (8*(k-j))=2 ^ (8*(k-(j+1)))*256:=by rw [show 8*(k-j)=8*(k-(j+1))+8 by omega,Nat.pow_add]
    have e2:2 ^ (8*(j+1))=256*2 ^ (8*j):=by rw [show 8*(j+1)=8+8*j by omega,Nat.pow_add]
    rw [e1,← Nat.div_div_eq_div_mul,e2,Nat.mod_mul]
    omega
theorem A7Z{b:List Int}(p q:List Int)(n:Int)(k a:Nat)(h:b=p++(big n k++q))(ha:a=p.length)(h0:0≤n)(h1:n<2 ^ (8*k)):(X5 b a k:Int)=n:=by
  subst h;subst ha
  obtain ⟨m,rfl⟩:∃ m:Nat,n=(m:Int):=⟨n.toNat,by omega⟩
  rw [D1R p q m k k (Nat.le_refl _),Nat.sub_self,Nat.mul_zero,Nat.pow_zero,Nat.div_one]
  rw [show (2:Int) ^ (8*k)=((2 ^ (8*k):Nat):Int) by rw [Int.natCast_pow];rfl] at h1
  rw [Nat.mod_eq_of_lt (by omega)]
theorem C9H{r:H3}(h:B4K r):bytesOf (W8 r)=B3O r++big (A0L (E20 (B3O r))) 4:=by
  unfold W8
  exact C6m (C9B (C4P r h.2) (D5v _ _))
theorem E0w{r:H3}(h:Q1 r=true)(c:List Int):B3O r++c=big r.1 3++(big r.2.1 2++(big r.2.2.1 1++(big (r.2.2.2.1.size:Int) 1++(bytesOf r.2.2.2.1++(big r.2.2.2.2.1 4++(big (List.length r.2.2.2.2.2:Int) 1++(r.2.2.2.2.2++c))))))):=by
  have hb:=A0M h
  have hq:0≤r.2.1:=by
    simp only [Q1,Bool.and_eq_true] at h
    exact (of_decide_eq_true h.1.1.2).1
  unfold B3O
  rw [A4j (n:=r.1) (by omega),A4j (n:=r.2.1) hq,A4j (n:=r.2.2.1) (by omega),A4j (n:=(r.2.2.2.1.size:Int)) (by omega),A4j (n:=r.2.2.2.2.1) (by omega),A4j (n:=(List.length r.2.2.2.2.2:Int)) (by omega)]
  simp only [List.append_assoc]
theorem D79{r:H3}(h:Q1 r=true):0≤r.2.1∧r.2.1≤199:=by
  simp only [Q1,Bool.and_eq_true] at h
  exact of_decide_eq_true h.1.1.2
theorem D7A{r:H3}(h:Q1 r=true)(c:List Int):D7 (B3O r++c)=r.2.2.2.1.size∧P3 (B3O r++c)=List.length r.2.2.2.2.2∧recAt (B3O r++c)=r:=by
  have hb:=A0M h
  have hq:=D79 h
  have e:=E0w h c
  generalize B3O r++c=b at e
  have b6:(X5 b 6 1:Int)=(r.2.2.2.1.size:Int):=A7Z (big r.1 3++(big r.2.1 2++big r.2.2.1 1)) _ _ 1 6 (by rw [e];simp only [List.append_assoc];rfl) (by simp [K0]) (by omega) (by omega)
  have hid:D7 b=r.2.2.2.1.size:=by unfold D7;omega
  have b11:(X5 b (11+D7 b) 1:Int)=(List.length r.2.2.2.2.2:Int):=
    A7Z (big r.1 3++(big r.2.1 2++(big r.2.2.1 1++(big (r.2.2.2.1.size:Int) 1++(bytesOf r.2.2.2.1++big r.2.2.2.2.1 4))))) _ _ 1 _ (by rw [e];simp only [List.append_assoc];rfl) (by simp [K0,bytesOf_length,hid];omega) (by omega) (by omega)
  have hdl:P3 b=List.length r.2.2.2.2.2:=by unfold P3;omega
  refine ⟨hid,hdl,?_⟩
  have b0:(X5 b 0 3:Int)=r.1:=A7Z [] _ _ 3 0 (by rw [e];rfl) rfl (by omega) (by omega)
  have b3:(X5 b 3 2:Int)=r.2.1:=A7Z (big r.1 3) _ _ 2 3 (by rw [e]) (by simp [K0]) (by omega) (by omega)
  have b5:(X5 b 5 1:Int)=r.2.2.1:=A7Z (big r.1 3++big r.2.1 2) _ _ 1 5 (by rw [e];simp only [List.append_assoc];rfl) (by simp [K0]) (by omega) (by omega)
  have b7:(X5 b (7+D7 b) 4:Int)=r.2.2.2.2.1:=A7Z (big r.1 3++(big r.2.1 2++(big r.2.2.1 1++(big (r.2.2.2.1.size:Int) 1++bytesOf r.2.2.2.1)))) _ _ 4 _ (by rw [e];simp only [List.append_assoc];rfl) (by simp [K0,bytesOf_length,hid];omega) (by omega) (by omega)
  have t1:(b.take (7+D7 b)).drop 7=bytesOf r.2.2.2.1:=by
    have e7:b=(big r.1 3++(big r.2.1 2++(big r.2.2.1 1++big (r.2.2.2.1.size:Int) 1)))++(bytesOf r.2.2.2.1++(big r.2.2.2.2.1 4++(big (List.length r.2.2.2.2.2:Int) 1++(r.2.2.2.2.2++c)))):=by rw [e];simp only [List.append_assoc]
    have hl7:(big r.1 3++(big r.2.1 2++(big r.2.2.1 1++big (r.2.2.2.1.size:Int) 1))).length=7:=by simp [K0]
    rw [hid,List.drop_take,Nat.add_sub_cancel_left,e7,← hl7,List.drop_left,← bytesOf_length,List.take_left]
  have t2:(b.take (12+D7 b+P3 b)).drop (12+D7 b)=r.2.2.2.2.2:=by
    have e12:b=(big r.1 3++(big r.2.1 2++(big r.2.2.1 1++(big (r.2.2.2.1.size:Int) 1++(bytesOf r.2.2.2.1++(big r.2.2.2.2.1 4++big (List.length r.2.2.2.2.2:Int) 1))))))++(r.2.2.2.2.2++c):=by rw [e];simp only [List.append_assoc]
    have hl12:(big r.1 3++(big r.2.1 2++(big r.2.2.1 1++(big (r.2.2.2.1.size:Int) 1++(bytesOf r.2.2.2.1++(big r.2.2.2.2.1 4++big (List.length r.2.2.2.2.2:Int) 1)))))).length=12+r.2.2.2.1.size:=by simp [K0,bytesOf_length];omega
    rw [hid,hdl,List.drop_take,Nat.add_sub_cancel_left,e12,← hl12,List.drop_left,List.take_left]
  unfold recAt
  rw [b0,b3,b5,b7,t1,t2,C6n]
theorem C4e{r:H3}(h:B4K r):D5 (W8 r)=(r,true,()):=by
  have hpb:=C9H h
  obtain ⟨h1,h2,h3⟩:=D7A h.1 (big (A0L (E20 (B3O r))) 4)
  have hsz:(W8 r).size=12+r.2.2.2.1.size+List.length r.2.2.2.2.2+4:=by
    unfold W8
    rw [B2K,List.length_append,B4H,K0]
  have hg:A9F (W8 r)=true:=by
    unfold A9F
    rw [hpb,h1,h2,h3,hsz,A0 (by omega),h.1]
    simp
  unfold D5
  rw [if_pos hg,hpb,h3]
theorem D7B{r:H3}(h:Q1 r=true):(W8 r).size≤64:=by
  have hb:=A0M h
  unfold W8
  rw [B2K,List.length_append,B4H,K0]
  omega
def A20(last:Int)(i:Nat)(s:ByteArray):Bool:=(D5 s).2.1&&decide ((D5 s).1.2.1=(i:Int))&&!decide ((D5 s).1.1<last)
def J2(last:Int)(i:Nat):List ByteArray→List H3
  | []=> []
  | s::l=>if A20 last i s=true then (D5 s).1::J2 (D5 s).1.1 (i+1) l else []
def B6(now:List ByteArray):List H3:=J2 0 0 now
def A12:Int→List H3→Int
  | e,[]=>e
  | _,r::l=>A12 r.1 l
theorem A5g(last:Int)(i:Nat)(l:List ByteArray):(J2 last i l).length≤l.length:=by
  induction l generalizing last i with
  | nil=>exact Nat.le_refl _
  | cons s l ih=>
    simp only [J2]
    split
    · have:=ih (D5 s).1.1 (i+1);simp only [List.length_cons];omega
    · simp
theorem B2O(last:Int)(i:Nat)(l:List ByteArray):∀ r∈J2 last i l,B4K r:=by
  induction l generalizing last i with
  | nil=>intro r hr;cases hr
  | cons s l ih=>
    intro r hr
    simp only [J2] at hr
    split at hr
    · rename_i hg
      simp only [A20,Bool.and_eq_true] at hg
      rcases List.mem_cons.1 hr with rfl | hr
      · exact C1X hg.1.1
      · exact ih _ _ r hr
    · cases hr
theorem D9E(last:Int)(i:Nat)(l:List ByteArray):last≤A12 last (J2 last i l)∧∀ r∈J2 last i l,r.1≤A12 last (J2 last i l):=by
  induction l generalizing last i with
  | nil=>exact ⟨Int.le_refl _,fun r hr=>by cases hr⟩
  | cons s l ih=>
    simp only [J2]
    split
    · rename_i hg
      obtain ⟨h1,h2⟩:=ih (D5 s).1.1 (i+1)
      simp only [A20,Bool.and_eq_true,Bool.not_eq_true',decide_eq_false_iff_not] at hg
      have h3:=hg.2
      simp only [A12]
      refine ⟨by omega,fun r hr=>?_⟩
      rcases List.mem_cons.1 hr with rfl | hr
      · exact h1
      · exact h2 r hr
    · exact ⟨Int.le_refl _,fun r hr=>by cases hr⟩
theorem C8D(last:Int)(i:Nat)(a b:List ByteArray)(h:(J2 last i a).length=a.length):J2 last i (a++b)=J2 last i a++J2 (A12 last (J2 last i a)) (i+a.length) b:=by
  induction a generalizing last i with
  | nil=>simp [J2,A12]
  | cons s a ih=>
    simp only [J2,List.cons_append] at h ⊢
    split
    · rename_i hg
      rw [if_pos hg] at h
      simp only [List.length_cons,Nat.add_right_cancel_iff] at h
      rw [ih _ _ h,List.cons_append,A12,List.length_cons]
      congr 3
      omega
    · rename_i hg
      rw [if_neg hg] at h
      simp at h
theorem D46(last:Int)(i:Nat)(l:List ByteArray):J2 last i (l.take (J2 last i l).length)=J2 last i l:=by
  induction l generalizing last i with
  | nil=>rfl
  | cons s l ih=>
    simp only [J2]
    split
    · rename_i hg
      simp only [List.length_cons,List.take_succ_cons,J2,if_pos hg,ih]
    · rfl
theorem B7Y(last:Int)(i:Nat)(l:List ByteArray)(h:∀ s,l.head? = some s→A20 last i s=false):J2 last i l = []:=by
  cases l with
  | nil=>rfl
  | cons s l=>simp only [J2,h s rfl,Bool.false_eq_true,if_false]
theorem B2P(last:Int)(i:Nat)(s:ByteArray)(l:List ByteArray):J2 last i (s::l)=bif A20 last i s then (D5 s).1::J2 (D5 s).1.1 (i+1) l else []:=by
  simp only [J2]
  cases A20 last i s<;>rfl
set_option maxRecDepth 100000 in
theorem B5f(d:E9)(h:A6Y d.1):Y2 d=some (B6 d.1,()):=by
  have hl:=h.1
  obtain ⟨z,e,hz⟩:=V5 (S5 L1 d) (fun l=>((d.1.length:Int)-l.2.1).toNat) (fun l=>∃ i:Nat,l.2.1=(i:Int)∧i≤d.1.length∧List.length l.2.2.1=i∧B6 d.1=l.2.2.1++J2 l.1 i (d.1.drop i))
    (fun z=>z=(B6 d.1,())) (fun l hl=>by
      obtain ⟨i,h0,h1,h2,h3⟩:=hl
      simp only [S5]
      by_cases hi:i<d.1.length
      · rw [h0,A0 (show (i:Int)<(d.1.length:Int) by omega),A0 (show (0:Int)≤(i:Int) by omega)]
        simp only [cond_true]
        rw [A6U _ (A68 h hi)]
        simp only [A4]
        rw [A5c hi]
        have hdrop:d.1.drop i=d.1[i]::d.1.drop (i+1):=List.drop_eq_getElem_cons hi
        rw [hdrop] at h3
        rw [B2P] at h3
        simp only [A20] at h3
        obtain ⟨g,hg⟩:∃ g,D5 d.1[i]=g:=⟨_,rfl⟩
        rw [hg] at h3 ⊢
        cases hk:g.2.1 with
        | false=>
          rw [hk] at h3
          simp only [Bool.false_and,cond_false,List.append_nil] at h3
          exact .inr ⟨_,rfl,by rw [h3]⟩
        | true=>
          rw [hk] at h3
          simp only [Bool.true_and] at h3
          simp only [Bool.not_true,cond_false]
          by_cases e1:g.1.2.1=(i:Int)
          · rw [A0 e1] at h3 ⊢
            by_cases e2:g.1.1<l.1
            · rw [A0 e2] at h3 ⊢
              simp only [Bool.not_true,Bool.and_false,cond_false,List.append_nil] at h3
              exact .inr ⟨_,rfl,by rw [h3]⟩
            · rw [A3 e2] at h3 ⊢
              simp only [Bool.not_false,Bool.and_true,cond_true,Bool.true_and] at h3
              simp only [Bool.not_true,cond_false]
              rw [A0 (by simp;omega),A0 (by simp;omega),w64 (by omega) (by omega)]
              refine .inl ⟨_,rfl,⟨i+1,by simp only;omega,by omega,by simp;omega,?_⟩,by simp only;omega⟩
              simp only
              rw [h3,List.append_assoc]
              rfl
          · rw [A3 e1] at h3 ⊢
            simp only [Bool.false_and,cond_false,List.append_nil] at h3
            exact .inr ⟨_,rfl,by rw [h3]⟩
      · rw [h0,A3 (show ¬ (i:Int)<(d.1.length:Int) by omega)]
        rw [List.drop_eq_nil_of_le (by omega)] at h3
        simp only [J2,List.append_nil] at h3
        exact .inr ⟨_,rfl,by rw [h3]⟩) (0,0,[],()) ⟨0,rfl,by omega,rfl,by simp [B6]⟩
  have e':Y2 d=some z:=e
  rw [e',hz]
structure GoodS (st:A7):Prop where
  dk:A3s st.1=true
  ep:0≤st.2.1∧st.2.1≤10000
  up:I0 [] (B6 st.1.1)=some st.2.2.2
  nx:st.2.2.1=(List.length (B6 st.1.1):Int)
  le:A12 0 (B6 st.1.1)≤st.2.1
  tl:((st.1.1.drop (B6 st.1.1).length).all fun s=>!A2q st.2.1 s)=true
theorem A4l{d:E9}(h:A3s d=true):A3r d∧d.1.length=d.2.length∧d.1.length≤200∧(∀ s∈d.1,s.size≤64)∧∀ s∈d.2,s.size≤64:=by
  simp only [A3s,Bool.and_eq_true] at h
  obtain ⟨h1,h2⟩:=h
  have h1:=of_decide_eq_true h1
  have k1:∀ s∈d.1,s.size≤64:=fun s hs=>by
    obtain ⟨i,hi,rfl⟩:=List.getElem_of_mem hs
    have:=List.all_eq_true.1 h2 i (List.mem_range.2 hi)
    simp only [Bool.and_eq_true,Bool.not_eq_true',decide_eq_false_iff_not] at this
    have h3:=this.1
    rw [A5c hi] at h3
    omega
  have k2:∀ s∈d.2,s.size≤64:=fun s hs=>by
    obtain ⟨i,hi,rfl⟩:=List.getElem_of_mem hs
    have:=List.all_eq_true.1 h2 i (List.mem_range.2 (by omega))
    simp only [Bool.and_eq_true,Bool.not_eq_true',decide_eq_false_iff_not] at this
    have h3:=this.2
    rw [A5c hi] at h3
    omega
  exact ⟨⟨⟨by omega,fun s hs=>by have:=k1 s hs;omega⟩,by omega,fun s hs=>by have:=k2 s hs;omega⟩,h1.1,h1.2,k1,k2⟩
theorem B8a{d:E9}(h1:d.1.length=d.2.length)(h2:d.1.length≤200)(h3:∀ s∈d.1,s.size≤64)(h4:∀ s∈d.2,s.size≤64):A3s d=true:=by
  simp only [A3s,Bool.and_eq_true]
  refine ⟨decide_eq_true ⟨h1,h2⟩,List.all_eq_true.2 fun i hi=>?_⟩
  have hi:=List.mem_range.1 hi
  rw [A5c hi,A5c (show i<d.2.length by omega)]
  have k1:=h3 _ (List.getElem_mem hi)
  have k2:=h4 _ (List.getElem_mem (show i<d.2.length by omega))
  rw [A3 (by omega),A3 (by omega)]
  rfl
theorem D47(l:List H3)(h:0<l.length)(e:Int):(rd A76 l ((l.length:Int)-1)).1=A12 e l:=by
  induction l generalizing e with
  | nil=>simp at h
  | cons r l ih=>
    cases l with
    | nil=>rfl
    | cons r' l=>
      have h2:=ih (by simp) r.1
      simp only [A12] at h2 ⊢
      rw [← h2]
      have e1:((r::r'::l).length:Int)-1=(((l.length+1):Nat):Int):=by simp only [List.length_cons];omega
      have e2:((r'::l).length:Int)-1=((l.length:Nat):Int):=by simp only [List.length_cons];omega
      rw [e1,e2,C7 (k:=A76) (xs:=r::r'::l) (by simp),C7 (k:=A76) (xs:=r'::l) (by simp)]
      rfl
theorem D1S(st:A7)(h:A6Y st.1.1)(hb:∀ u∈st.2.2.2,Byt u.2.2.1):∃ b,F7 st=some (b,())∧A1i st=some (b,())∧(b=true↔GoodS st):=by
  obtain ⟨b,hs,hi,_⟩:=C4V st h
  refine ⟨b,hs,hi,?_⟩
  have hl:=h.1
  have hrg:=B2O 0 0 st.1.1
  have hll:=A5g 0 0 st.1.1
  have hfs:=A2p (B6 st.1.1) (by simp only [maxLen,B6];omega) hrg
  simp only [F7,A8w,A6Z,B5f st.1 h,hfs,N2,A4] at hs
  have hsc:J2 0 0 st.1.1=B6 st.1.1:=rfl
  rw [hsc] at hrg hll
  cases hbd:A3s st.1 with
  | false=>
    rw [hbd] at hs
    have:b=false:=by
      simp only [Bool.not_false,cond_true] at hs
      first | (injection hs with hs;injection hs with hs;exact hs.symm) | (simp [B7] at hs;exact hs.symm)
    rw [this]
    exact ⟨fun e=>by (cases e),fun g=>by rw [g.dk] at hbd;cases hbd⟩
  | true=>
    rw [hbd] at hs
    simp only [Bool.not_true,cond_false] at hs
    by_cases he:0≤st.2.1∧st.2.1≤10000
    · rw [A0 he] at hs
      simp only [Bool.not_true,cond_false,B7] at hs
      unfold Q7 at hs
      cases hf:I0 [] (B6 st.1.1) with
      | none=>
        rw [hf] at hs
        have:b=false:=by
          first | (injection hs with hs;injection hs with hs;exact hs.symm) | (simp at hs;exact hs.symm)
        rw [this]
        exact ⟨fun e=>by (cases e),fun g=>by rw [g.up] at hf;cases hf⟩
      | some us=>
        have hu:=A6X A9H hrg hf
        have hul:=hu.2.1
        rw [hf] at hs
        simp only at hs
        rw [C89 _ _ (show us.length≤maxLen by simp only [maxLen];omega)] at hs
        simp only [Bool.not_true,cond_false] at hs
        cases hsm:A11 us st.2.2.2 with
        | false=>
          rw [hsm] at hs
          have:b=false:=by
            first | (injection hs with hs;injection hs with hs;exact hs.symm) | (simp at hs;exact hs.symm)
          rw [this]
          refine ⟨fun e=>by (cases e),fun g=>?_⟩
          have:=g.up
          rw [hf] at this
          injection this with this
          rw [this,B69] at hsm
          cases hsm
        | true=>
          have heq:=D3y (fun u hu'=>(hu.2.2 u hu').2.2.2) hb hsm
          rw [hsm] at hs
          simp only [Bool.not_true,cond_false] at hs
          by_cases hn:st.2.2.1=(List.length (B6 st.1.1):Int)
          · rw [A0 hn] at hs
            simp only [Bool.not_true,cond_false] at hs
            have htail:=C8A st h (B6 st.1.1).length hll
            rw [hn] at hs
            rw [htail] at hs
            by_cases hl0:(List.length (B6 st.1.1):Int)>0
            · rw [A0 hl0,w64 (n:=(List.length (B6 st.1.1):Int)-1) (by omega) (by omega),A0 (show (0:Int)≤(List.length (B6 st.1.1):Int)-1 by omega),A0 (show (List.length (B6 st.1.1):Int)-1<(List.length (B6 st.1.1):Int) by omega),D47 (B6 st.1.1) (by omega) 0] at hs
              simp only [cond_true] at hs
              by_cases hle:A12 0 (B6 st.1.1)>st.2.1
              · rw [A0 hle] at hs
                have:b=false:=by
                  first | (injection hs with hs;injection hs with hs;exact hs.symm) | (simp at hs;exact hs.symm)
                rw [this]
                exact ⟨fun e=>by (cases e),fun g=>by have:=g.le;omega⟩
              · rw [A3 hle] at hs
                simp only [cond_false] at hs
                have:b=((st.1.1.drop (B6 st.1.1).length).all fun s=>!A2q st.2.1 s):=by
                  first | (injection hs with hs;injection hs with hs;exact hs.symm) | (simp at hs;exact hs.symm)
                rw [this]
                exact ⟨fun e=>⟨hbd,he,by rw [hf,heq],hn,by omega,e⟩,fun g=>g.tl⟩
            · rw [A3 hl0] at hs
              simp only [cond_false] at hs
              have:b=((st.1.1.drop (B6 st.1.1).length).all fun s=>!A2q st.2.1 s):=by
                first | (injection hs with hs;injection hs with hs;exact hs.symm) | (simp at hs;exact hs.symm)
              rw [this]
              have hnil:B6 st.1.1 = []:=List.length_eq_zero_iff.1 (by omega)
              exact ⟨fun e=>⟨hbd,he,by rw [hf,heq],hn,by rw [hnil];exact he.1,e⟩,fun g=>g.tl⟩
          · rw [A3 hn] at hs
            have:b=false:=by
              first | (injection hs with hs;injection hs with hs;exact hs.symm) | (simp at hs;exact hs.symm)
            rw [this]
            exact ⟨fun e=>by (cases e),fun g=>absurd g.nx hn⟩
    · rw [A3 he] at hs
      have:b=false:=by
        first | (injection hs with hs;injection hs with hs;exact hs.symm) | (simp [B7] at hs;exact hs.symm)
      rw [this]
      exact ⟨fun e=>by (cases e),fun g=>absurd g.ep he⟩
theorem C9I{st:A7}(h:GoodS st)(hr:Ups st.2.2.2):Rt st:=by
  obtain ⟨k1,k2,k3,k4,k5⟩:=A4l h.dk
  have:=A5g 0 0 st.1.1
  have hn:=h.nx
  exact ⟨⟨h.ep.1,h.ep.2,k2,k3,by simp only [B6] at hn;omega,st.2.2.2,hr,B69 _⟩,hr,k1⟩
theorem B8b{st:A7}(h:GoodS st):Ups st.2.2.2:=A6X A9H (B2O 0 0 st.1.1) h.up
theorem B4P:∀ (l l':List H3) (us:List TUp),I0 us (l++l')=(I0 us l).bind fun us'=>I0 us' l'
  | [],l',us=>rfl
  | r::l,l',us=>by
    simp only [List.cons_append,I0]
    cases K7 us r with
    | none=>rfl
    | some us'=>exact B4P l l' us'
theorem D7C(l:List H3)(r:H3)(e:Int):A12 e (l ++ [r])=r.1:=by
  induction l generalizing e with
  | nil=>rfl
  | cons x l ih=>exact ih x.1
theorem B7Z{st:A7}(h:GoodS st){r:H3}(hr:B4K r)(h1:r.1=st.2.1)(h2:r.2.1=st.2.2.1)(hlt:st.2.2.1<(st.1.1.length:Int)){us:List TUp}(hf:K7 st.2.2.2 r=some us) :
    GoodS (wrote st r us)∧B6 (wrote st r us).1.1=B6 st.1.1 ++ [r]:=by
  obtain ⟨k1,k2,k3,k4,k5⟩:=A4l h.dk
  have hn:=h.nx
  generalize hL:B6 st.1.1=L at *
  have hll:L.length≤st.1.1.length:=by rw [← hL];exact A5g 0 0 st.1.1
  have hlt':L.length<st.1.1.length:=by omega
  have hto:st.2.2.1.toNat=L.length:=by omega
  have hset:st.1.1.set L.length (W8 r)=st.1.1.take L.length++W8 r::st.1.1.drop (L.length+1):=by
    rw [List.set_eq_take_append_cons_drop,if_pos hlt']
  have htake:J2 0 0 (st.1.1.take L.length)=L:=by
    have:=D46 0 0 st.1.1
    rw [show J2 0 0 st.1.1=L from hL] at this
    exact this
  have hgo:A20 (A12 0 L) L.length (W8 r)=true:=by
    simp only [A20,C4e hr,Bool.true_and]
    rw [h1,h2,A0 (by omega),A3 (by have:=h.le;rw [hL] at this;omega)]
    rfl
  have htl:=h.tl
  rw [hL] at htl
  have hscan:B6 (wrote st r us).1.1=L ++ [r]:=by
    show J2 0 0 (st.1.1.set st.2.2.1.toNat (W8 r))=_
    rw [hto,hset,C8D _ _ _ _ (by rw [htake,List.length_take];omega),htake]
    congr 1
    have hle:(st.1.1.take L.length).length=L.length:=by rw [List.length_take];omega
    simp only [J2,hle,Nat.zero_add,hgo,if_true,C4e hr]
    congr 1
    refine B7Y _ _ _ fun s hs=>?_
    have hmem:s∈st.1.1.drop (L.length+1):=List.mem_of_mem_head? hs
    have hmem2:s∈st.1.1.drop L.length:=by
      rw [List.drop_eq_getElem_cons hlt']
      exact List.mem_cons_of_mem _ hmem
    have:=List.all_eq_true.1 htl s hmem2
    simp only [A2q,Bool.not_eq_true',Bool.and_eq_false_iff,decide_eq_false_iff_not] at this
    simp only [A20,h1]
    rcases this with h3 | h3
    · rw [h3];rfl
    · rw [A0 (show (D5 s).1.1<st.2.1 by omega)]
      simp
  have hlen:(L ++ [r]).length=L.length+1:=by simp
  refine ⟨⟨?_,h.ep,?_,?_,?_,?_⟩,hscan⟩
  · refine B8a ?_ ?_ (fun s hs=>?_) k5
    · show (st.1.1.set _ _).length=_;rw [List.length_set];exact k2
    · show (st.1.1.set _ _).length≤_;rw [List.length_set];exact k3
    · rcases List.mem_or_eq_of_mem_set hs with hs | rfl
      · exact k4 s hs
      · exact D7B hr.1
  · have hup:=h.up
    rw [hL] at hup
    rw [hscan,B4P,hup]
    show I0 st.2.2.2 [r]=some us
    simp only [I0,hf]
  · rw [hscan,hlen]
    show st.2.2.1+1=_
    omega
  · rw [hscan,D7C,h1]
    exact Int.le_refl _
  · rw [hscan,hlen]
    show ((st.1.1.set st.2.2.1.toNat (W8 r)).drop (L.length+1)).all _=true
    rw [hto,List.drop_set_of_lt (by omega)]
    rw [List.drop_eq_getElem_cons hlt',List.all_cons,Bool.and_eq_true] at htl
    exact htl.2
def U4(now sure:List ByteArray)(k:List Bool):List ByteArray:=(List.range now.length).map fun i=>bif k.getD i false then now.getD i ⟨#[]⟩ else sure.getD i ⟨#[]⟩
def B6A(d:E9)(k:List Bool):E9:=(U4 d.1 d.2 k,U4 d.1 d.2 k)
theorem B4Q(now sure:List ByteArray)(k:List Bool):(U4 now sure k).length=now.length:=by simp [U4]
theorem B8c{now sure:List ByteArray}{k:List Bool}(h:now.length=sure.length){i:Nat}(hi:i<now.length):(U4 now sure k)[i]? = if k.getD i false=true then now[i]? else sure[i]?:=by
  simp only [U4,List.getElem?_map,List.getElem?_range hi,Option.map_some]
  rw [List.getElem?_eq_getElem hi,List.getElem?_eq_getElem (show i<sure.length by omega)]
  have e1:now.getD i ⟨#[]⟩=now[i]:=by simp [List.getD,hi]
  have e2:sure.getD i ⟨#[]⟩=sure[i]'(by omega):=by simp [List.getD,show i<sure.length by omega]
  rw [e1,e2]
  by_cases hb:k.getD i false=true
  · rw [if_pos hb,hb];rfl
  · rw [if_neg hb,Bool.eq_false_iff.2 hb];rfl
def A21{α:Type}(l x:List α)(i:Nat):List α:=l.take i++x.drop i
theorem A8D{α:Type}{l x:List α}(h:l.length=x.length)(i:Nat):(A21 l x i).length=x.length:=by simp [A21];omega
theorem A6a{α:Type}{l x:List α}(h:l.length=x.length){i:Nat}(hi:i<l.length):(A21 l x i).set i l[i]=A21 l x (i+1):=by
  have hl:(l.take i).length=i:=by rw [List.length_take];omega
  unfold A21
  rw [List.drop_eq_getElem_cons (show i<x.length by omega)]
  have e:(l.take i++x[i]'(by omega)::x.drop (i+1)).set i l[i]=l.take i++(x[i]'(by omega)::x.drop (i+1)).set (i-(l.take i).length) l[i]:=List.set_append_right _ _ (by omega)
  rw [e,hl,Nat.sub_self,List.set_cons_zero,List.take_succ_eq_append_getElem hi,List.append_assoc]
  rfl
theorem C8E{α:Type}{l x:List α}(h:l.length=x.length){i:Nat}(hi:i<l.length)(he:l[i]? = x[i]?):A21 l x i=A21 l x (i+1):=by
  unfold A21
  rw [List.drop_eq_getElem_cons (show i<x.length by omega),List.take_succ_eq_append_getElem hi,List.append_assoc]
  rw [List.getElem?_eq_getElem hi,List.getElem?_eq_getElem (show i<x.length by omega)] at he
  injection he with he
  rw [he]
  rfl
theorem B4R{α:Type}{l x:List α}(h:l.length=x.length){i:Nat}(hi:i<x.length):(A21 l x i)[i]? = x[i]?:=by
  unfold A21
  rw [List.getElem?_append_right (by rw [List.length_take];omega),List.length_take,Nat.min_eq_left (by omega),Nat.sub_self,List.getElem?_drop,Nat.add_zero]
theorem C0O(d:E9)(k:List Bool)(hd:A3s d=true):A0i d k=some (B6A d k,()):=by
  obtain ⟨hS,hlen,h200,_,_⟩:=A4l hd
  have hml:=B4Q d.1 d.2 k
  simp only [A0i,A7E,A02 d hS,A6Z,hd,bO,Bool.not_true,cond_false]
  have key:=D4 (J3 k) (fun i=>((i:Int),A21 (U4 d.1 d.2 k) d.1 i,A21 (U4 d.1 d.2 k) d.2 i,())) d.1.length (B6A d k,()) (fun i hi=>?_) ?_
  · exact key
  · have l1:=A8D (l:=U4 d.1 d.2 k) (x:=d.1) hml i
    have l2:=A8D (l:=U4 d.1 d.2 k) (x:=d.2) (by omega) i
    have g1:=B4R (l:=U4 d.1 d.2 k) (x:=d.1) hml hi
    have g2:=B4R (l:=U4 d.1 d.2 k) (x:=d.2) (by omega) (show i<d.2.length by omega)
    have hm:=B8c (k:=k) hlen hi
    have hmi:i<(U4 d.1 d.2 k).length:=by omega
    simp only [J3,l1]
    rw [A0 (show (i:Int)<(d.1.length:Int) by omega)]
    have hb:(bif decide ((i:Int)<(k.length:Int)) then bif decide (0≤(i:Int)) then bif decide ((i:Int)<(k.length:Int)) then (some ((rd .bool k (i:Int)),()):Option (Bool×Unit)) else none else none else some (false,()))=some (k.getD i false,()):=by
      by_cases hik:i<k.length
      · rw [A0 (show (i:Int)<(k.length:Int) by omega),A0 (show (0:Int)≤(i:Int) by omega)]
        simp only [cond_true]
        rw [C7 (k:=.bool) hik]
        simp [List.getD,hik]
      · rw [A3 (show ¬ (i:Int)<(k.length:Int) by omega)]
        simp [List.getD,List.getElem?_eq_none (show k.length≤i by omega)]
    rw [hb]
    simp only [cond_true,bO,l2,hlen]
    rw [A0 (show (0:Int)≤(i:Int) by omega),A0 (show (i:Int)<(d.2.length:Int) by omega),w64 (by omega) (by omega)]
    have r1:rd .str (A21 (U4 d.1 d.2 k) d.1 i) (i:Int)=d.1[i]:=by
      rw [A5c (by omega)]
      have:=g1
      rw [List.getElem?_eq_getElem (by omega),List.getElem?_eq_getElem hi] at this
      injection this
    have r2:rd .str (A21 (U4 d.1 d.2 k) d.2 i) (i:Int)=d.2[i]:=by
      rw [A5c (by omega)]
      have:=g2
      rw [List.getElem?_eq_getElem (by omega),List.getElem?_eq_getElem (show i<d.2.length by omega)] at this
      injection this
    rw [r1,r2,Int.toNat_natCast]
    rw [List.getElem?_eq_getElem hmi,List.getElem?_eq_getElem hi,List.getElem?_eq_getElem (show i<d.2.length by omega)] at hm
    cases hkb:k.getD i false with
    | true=>
      rw [hkb,if_pos rfl] at hm
      injection hm with hm
      simp only [cond_true]
      rw [← hm,A6a (by omega) hmi,C8E (l:=U4 d.1 d.2 k) (x:=d.1) hml hmi (by rw [List.getElem?_eq_getElem hmi,List.getElem?_eq_getElem hi,hm])]
      rfl
    | false=>
      rw [hkb,if_neg (by simp)] at hm
      injection hm with hm
      simp only [cond_true,cond_false]
      rw [← hm,A6a hml hmi,C8E (l:=U4 d.1 d.2 k) (x:=d.2) (by omega) hmi (by rw [List.getElem?_eq_getElem hmi,List.getElem?_eq_getElem (show i<d.2.length by omega),hm])]
      rfl
  · have e1:A21 (U4 d.1 d.2 k) d.1 d.1.length=U4 d.1 d.2 k:=by unfold A21;rw [List.drop_length,List.append_nil,List.take_of_length_le (by omega)]
    have e2:A21 (U4 d.1 d.2 k) d.2 d.1.length=U4 d.1 d.2 k:=by unfold A21;rw [hlen,List.drop_length,List.append_nil,List.take_of_length_le (by omega)]
    simp only [J3,e1,e2]
    rw [A3 (by omega)]
    rfl
theorem D7D(d:E9)(k:List Bool)(hd:A3s d=true):A2N d k=some (B6A d k,()):=by
  obtain ⟨d',h1,h2,_⟩:=E0t d k (A4l hd).1
  rw [C0O d k hd] at h1
  rw [h2,← h1]
theorem D1T(last:Int)(i:Nat)(l:List ByteArray)(j:Nat):J2 last i (l.take j)=(J2 last i l).take j:=by
  induction l generalizing last i j with
  | nil=>simp [J2]
  | cons s l ih=>
    cases j with
    | zero=>simp [J2]
    | succ j=>
      simp only [List.take_succ_cons,B2P,ih]
      cases A20 last i s<;>simp
theorem C8F(last:Int)(j:Nat)(l:List ByteArray)(i:Nat)(hi:i<(J2 last j l).length):∃ s,l[i]? = some s∧D5 s=((J2 last j l)[i],true,()):=by
  induction l generalizing last j i with
  | nil=>simp [J2] at hi
  | cons s l ih=>
    have e:=B2P last j s l
    cases hg:A20 last j s with
    | false=>rw [hg] at e;rw [e] at hi;simp at hi
    | true=>
      rw [hg] at e
      simp only [cond_true] at e
      cases i with
      | zero=>
        refine ⟨s,rfl,?_⟩
        simp only [A20,Bool.and_eq_true] at hg
        have h0:(J2 last j (s::l))[0]=(D5 s).1:=by simp only [e];rfl
        rw [h0]
        have:=hg.1.1
        generalize D5 s=g at this
        obtain ⟨a,b,u⟩:=g
        simp only at this
        rw [this]
      | succ i=>
        have hi2:i<(J2 (D5 s).1.1 (j+1) l).length:=by rw [e] at hi;simpa using hi
        obtain ⟨s',h1,h2⟩:=ih _ _ i hi2
        refine ⟨s',h1,?_⟩
        rw [h2]
        congr 1
        simp only [e,List.getElem_cons_succ]
theorem B2Q{now x:List ByteArray}{j:Nat}(hj:j≤(B6 now).length)(hx:x.take j=now.take j)(hlen:x.length=now.length):B6 x=(B6 now).take j++J2 (A12 0 ((B6 now).take j)) j (x.drop j):=by
  have hll:=A5g 0 0 now
  have hs:J2 0 0 (x.take j)=(B6 now).take j:=by rw [hx,D1T];rfl
  have h1:(J2 0 0 (x.take j)).length=(x.take j).length:=by
    rw [hs,List.length_take,List.length_take]
    simp only [B6] at hj ⊢
    omega
  have:=C8D 0 0 (x.take j) (x.drop j) h1
  rw [List.take_append_drop,hs] at this
  have hj2:(x.take j).length=j:=by rw [List.length_take];simp only [B6] at hj;omega
  rw [hj2,Nat.zero_add] at this
  exact this
theorem D9F{now:List ByteArray}{j:Nat}(hj:(B6 now).length=j):J2 (A12 0 (B6 now)) j (now.drop j) = []:=by
  have h:=B2Q (now:=now) (x:=now) (j:=j) (by omega) rfl rfl
  rw [← hj,List.take_length] at h
  rw [← hj]
  have h2:B6 now ++ []=B6 now++J2 (A12 0 (B6 now)) (B6 now).length (now.drop (B6 now).length):=by rw [List.append_nil];exact h
  exact (List.append_cancel_left h2).symm
theorem D60{st:A7}(h:GoodS st):∀ s∈st.1.1,(D5 s).2.1=true→(D5 s).1.1≤st.2.1:=by
  intro s hs hr
  obtain ⟨i,hi,rfl⟩:=List.getElem_of_mem hs
  by_cases hl:i<(B6 st.1.1).length
  · obtain ⟨s',h1,h2⟩:=C8F 0 0 st.1.1 i hl
    rw [List.getElem?_eq_getElem hi] at h1
    injection h1 with h1
    rw [h1,h2]
    have:=(D9E 0 0 st.1.1).2 _ (List.getElem_mem hl)
    exact Int.le_trans this h.le
  · have hm:st.1.1[i]∈st.1.1.drop (B6 st.1.1).length:=by
      rw [List.mem_iff_getElem]
      refine ⟨i-(B6 st.1.1).length,by rw [List.length_drop];omega,?_⟩
      rw [List.getElem_drop]
      congr 1
      omega
    have:=List.all_eq_true.1 h.tl _ hm
    simp only [A2q,hr,Bool.true_and,Bool.not_eq_true',decide_eq_false_iff_not] at this
    omega
structure Dur (st:A7) (c:Nat):Prop where
  g:GoodS st
  le:c≤(B6 st.1.1).length
  out:∀ i,¬ (c≤i∧i<(B6 st.1.1).length)→st.1.2[i]? = st.1.1[i]?
  inn:∀ i s,c≤i→i<(B6 st.1.1).length→st.1.2[i]? = some s→A2q st.2.1 s=false
  ep:∀ i (h:i<(B6 st.1.1).length),c≤i→(B6 st.1.1)[i].1=st.2.1
  sc:B6 st.1.2=(B6 st.1.1).take c
theorem D1U{e:Int}{s:ByteArray}(h:A2q e s=false)(i:Nat):A20 e i s=false:=by
  simp only [A2q,Bool.and_eq_false_iff,decide_eq_false_iff_not] at h
  simp only [A20]
  rcases h with h | h
  · rw [h];rfl
  · rw [A0 (show (D5 s).1.1<e by omega)];simp
end Go.Proofs.YtpdcljonclhhpaaGreat.Ev
