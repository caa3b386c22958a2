/- What the plain functions of the program and of the reference answer: laws of plain data. -/
import Derived.Test.YtpdcljonclhhpaaGreatPu
import Derived.Laws.Strings
set_option linter.unusedVariables false
set_option linter.unusedSimpArgs false
namespace Go.Proofs.YtpdcljonclhhpaaGreat.Ev
theorem w64{n:Int}(h0:-9223372036854775808≤n)(h1:n<9223372036854775808):IntKind.i64.wrap n=n:=by
 simp only [IntKind.wrap,IntKind.bits,IntKind.signed,Bool.true_and];simp;split<;>omega
theorem Y4{α β:Type}(f:α→Option (α⊕β))(μ:α→Nat)(I:α→Prop)(Q:β→Prop)
  (h:∀ x,I x→(∃ y,f x=some (.inl y)∧I y∧μ y<μ x)∨∃ z,f x=some (.inr z)∧Q z):∀ x,I x→∃ z,B8 f x=some z∧Q z:=by
 intro x;generalize hn:μ x=n
 induction n using Nat.strongRecOn generalizing x with
 | ind n ih=>
  intro hx;rw [W0];rcases h x hx with ⟨y,e,hy,hl⟩ | ⟨z,e,hz⟩
  ·rw [e];exact ih (μ y) (by omega) y rfl hy
  ·rw [e];exact ⟨z,rfl,hz⟩
theorem D3{α β:Type}(f:α→Option (α⊕β))(s:Nat→α)(n:Nat)(z:β)(h:∀ i,i<n→f (s i)=some (.inl (s (i+1))))(he:f (s n)=some (.inr z)):B8 f (s 0)=some z:=by
 have key:∀ k i,i+k=n→B8 f (s i)=some z:=by
  intro k
  induction k with
  | zero=>intro i hi;rw [W0,show i=n by omega,he]
  | succ k ih=>intro i hi;rw [W0,h i (by omega)];exact ih (i+1) (by omega)
 exact key n 0 (by omega)
theorem D58{α β:Type}(f:α→Option (α⊕β))(s:Nat→α)(n:Nat)(z:Nat→β)(go:Nat→Bool)(h:∀ i,i<n→f (s i)=if go i then some (.inl (s (i+1))) else some (.inr (z i)))(he:f (s n)=some (.inr (z n))) :
  ∃ i,i≤n∧(∀ j,j<i→go j=true)∧(i<n→go i=false)∧B8 f (s 0)=some (z i):=by
 have key:∀ k i,i+k=n→(∀ j,j<i→go j=true)→∃ i',i'≤n∧(∀ j,j<i'→go j=true)∧(i'<n→go i' = false)∧B8 f (s i)=some (z i'):=by
  intro k
  induction k with
  | zero=>
   intro i hi hg;obtain rfl:i=n:=by omega
   exact ⟨i,Nat.le_refl _,hg,fun h=>absurd h (by omega),by rw [W0,he]⟩
  | succ k ih=>
   intro i hi hg;cases hgo:go i with
   | true=>
    obtain ⟨i',h1,h2,h3,h4⟩:=ih (i+1) (by omega) (fun j hj=>by
     by_cases h:j<i
     ·exact hg j h
     ·rw [show j=i by omega];exact hgo)
    refine ⟨i',h1,h2,h3,?_⟩;rw [W0,h i (by omega),if_pos hgo];exact h4
   | false=>
    refine ⟨i,by omega,hg,fun _=>hgo,?_⟩;rw [W0,h i (by omega),hgo];rfl
 exact key n 0 (by omega) (fun j hj=>by omega)
theorem E4C(s:ByteArray)(i:Int):0≤bt s i:=by unfold bt;omega
theorem E4D(s:ByteArray)(i:Int):bt s i<256:=by
 have:=(s.data.toList.getD i.toNat 0).toNat_lt;unfold bt;omega
theorem E3f(s:ByteArray)(i:Int):IntKind.i64.wrap (bt s i)=bt s i:=w64 (by have:=E4C s i;omega) (by have:=E4D s i;omega)
theorem C3{k:K}{xs:List k.T}{i:Nat}(h:i<xs.length):rd k xs (i:Int)=xs[i]:=by
 unfold rd;rw [Int.toNat_natCast];simp [List.getD,h]
theorem B2M{κ:IntKind}{xs:List Int}{i:Nat}(h:i<xs.length):rd (.int κ) xs (i:Int)=xs[i]:=C3 (k:=.int κ) h
theorem A5f{xs:List ByteArray}{i:Nat}(h:i<xs.length):rd .str xs (i:Int)=xs[i]:=C3 (k:=.str) h
def Byt(a:List Int):Prop:=∀ x∈a,0≤x∧x<256
theorem pe{α β:Type}(p:α×β):(p.1,p.2)=p:=rfl
theorem A0{p:Prop} [Decidable p] (h:p):decide p=true:=decide_eq_true h
theorem A3{p:Prop} [Decidable p] (h:¬ p):decide p=false:=decide_eq_false h
def Sm(N:Nat):(k:K)→k.T→Prop
 | .int _,_=>True
 | .bool,_=>True
 | .fnc _,_=>True
 | .str,s=>s.size≤N
 | .sl _ k,xs=>xs.length≤N∧∀ x∈xs,Sm N k x
 | .rs _ k,xs=>xs.length≤N∧∀ x∈xs,Sm N k x
 | .pair a b,x=>Sm N a x.1∧Sm N b x.2
theorem Sm.l{N:Nat}{a b:K}{x:(K.pair a b).T}(h:Sm N (.pair a b) x):Sm N a x.1:=h.1
theorem Sm.r{N:Nat}{a b:K}{x:(K.pair a b).T}(h:Sm N (.pair a b) x):Sm N b x.2:=h.2
theorem B4O{α β:Type}{f g:α→Option (α⊕β)}(I:α→Prop)(h:∀ x,I x→f x=g x)(hI:∀ x y,I x→f x=some (.inl y)→I y):∀ n x,I x→A74 f n x=A74 g n x
 | 0,_,_=>rfl
 | n+1,x,hx=>by
  simp only [A74,← h x hx];cases e:f x with
  | none=>rfl
  | some v=>
   cases v with
   | inl y=>exact B4O I h hI n y (hI x y hx e)
   | inr z=>rfl
theorem A9N{α β:Type}{f g:α→Option (α⊕β)}(I:α→Prop)(h:∀ x,I x→f x=g x)(hI:∀ x y,I x→f x=some (.inl y)→I y){x:α}(hx:I x):B8 f x=B8 g x:=by
 cases e:B8 g x with
 | some z=>
  obtain ⟨n,hn⟩:=A5J e;exact B3t (n:=n) (by rw [B4O I h hI n x hx];exact hn)
 | none=>
  cases e':B8 f x with
  | none=>rfl
  | some z=>
   obtain ⟨n,hn⟩:=A5J e';rw [B4O I h hI n x hx] at hn;rw [B3t hn] at e;cases e
def O3(go:Nat→Bool):Nat→Nat→Nat
 | i,0=>i
 | i,k+1=>if go i then O3 go (i+1) k else i
theorem C0V(go:Nat→Bool):∀ k i,O3 go i k≤i+k
 | 0,i=>Nat.le_refl _
 | k+1,i=>by
  simp only [O3];split
  ·have:=C0V go k (i+1);omega
  ·omega
theorem A2U(go:Nat→Bool):∀ k i,O3 go i k<i+k→go (O3 go i k)=false
 | 0,i,h=>by simp [O3] at h
 | k+1,i,h=>by
  simp only [O3] at h ⊢;split
  ·rename_i hg;rw [if_pos hg] at h;exact A2U go k (i+1) (by omega)
  ·rename_i hg;simpa using hg
theorem A20{α β:Type}(f:α→Option (α⊕β))(s:Nat→α)(n:Nat)(z:Nat→β)(go:Nat→Bool)(h:∀ i,i<n→f (s i)=if go i then some (.inl (s (i+1))) else some (.inr (z i)))(he:f (s n)=some (.inr (z n))) :
  B8 f (s 0)=some (z (O3 go 0 n)):=by
 have key:∀ k i,i+k=n→B8 f (s i)=some (z (O3 go i k)):=by
  intro k
  induction k with
  | zero=>
   intro i hi;obtain rfl:i=n:=by omega
   rw [W0,he];rfl
  | succ k ih=>
   intro i hi;rw [W0,h i (by omega)];simp only [O3];cases go i with
   | true=>simp only [if_true];exact ih (i+1) (by omega)
   | false=>rfl
 exact key n 0 (by omega)
theorem B6N(L:Int×Unit→Option ((Int×Unit)⊕(Bool×Unit)))(n:Nat)(hn:n≤maxLen)(go:Nat→Bool)(hs:∀ i:Nat,i<n→L ((i:Int),())=bif go i then some (.inl (IntKind.i64.wrap ((i:Int)+1),())) else some (.inr (false,())))
  (he:L ((n:Int),())=some (.inr (true,()))):B8 L (0,())=some ((List.range n).all go,()):=by
 have h:=A20 L (fun i=>((i:Int),())) n (fun i=>(decide (i=n),())) go (fun i hi=>by
  rw [hs i hi,w64 (by omega) (by simp only [maxLen] at hn;omega)];cases go i with
  | true=>rfl
  | false=>simp only [Bool.false_eq_true,if_false,cond_false];rw [A3 (by omega)]) (by rw [he];simp)
 have h':B8 L (0,())=some (decide (O3 go 0 n=n),()):=h;rw [h'];have key:∀ k i,decide (O3 go i k=i+k)=((List.range k).all fun j=>go (i+j)):=by
  intro k
  induction k with
  | zero=>intro i;simp [O3]
  | succ k ih=>
   intro i;have e:((List.range (k+1)).all fun j=>go (i+j))=(go i&&(List.range k).all fun j=>go (i+1+j)):=by
    rw [List.range_succ_eq_map,List.all_cons,List.all_map];simp only [Nat.add_zero]
    congr 2
    funext j
    simp only [Function.comp]
    congr 1
    omega
   rw [e,← ih (i+1)];by_cases hg:go i=true
   ·have e1:O3 go i (k+1)=O3 go (i+1) k:=by simp only [O3];rw [if_pos hg]
    rw [Bool.eq_iff_iff,hg];simp only [decide_eq_true_eq,Bool.true_and,e1];omega
   ·have e1:O3 go i (k+1)=i:=by simp only [O3];rw [if_neg hg]
    rw [Bool.eq_iff_iff];simp only [decide_eq_true_eq,Bool.and_eq_true,e1];constructor
    ·intro h;omega
    ·intro h;exact absurd h.1 hg
 have k0:=key n 0;simp only [Nat.zero_add] at k0;rw [k0]
abbrev P1:=ByteArray×List Int×Int×Int
theorem N1(a b c:Int):E4 a b c=some (decide (b≤a∧a≤c),()):=by
 simp only [E4,C4m];by_cases h:b≤a<;>by_cases h2:a≤c<;>simp [h,h2]
theorem L3(a b c:Int):C2 a b c=some (decide (b≤a∧a≤c),()):=N1 a b c
def D06(s:ByteArray)(i:Nat):Bool:=decide (97≤bt s i∧bt s i≤122)||decide (48≤bt s i∧bt s i≤57)
def idB(s:ByteArray):Bool:=(List.range s.size).all (D06 s)&&decide (1≤(s.size:Int)∧(s.size:Int)≤8)
theorem D59(s:ByteArray)(h:s.size≤maxLen)(i:Nat)(hi:i<s.size):A92 E4 s ((i:Int),())=if D06 s i then some (.inl (((i+1:Nat):Int),())) else some (.inr (.inr (false,()))):=by
 have h1:((i:Int)<(s.size:Int)):=by omega
 have h2:(0:Int)≤(i:Int):=by omega
 simp only [A92,A0 h1,A0 h2,cond_true,E3f,N1,A4];rw [w64 (by omega) (by simp only [maxLen] at h;omega)];unfold D06;cases decide (97≤bt s i∧bt s i≤122)<;>cases decide (48≤bt s i∧bt s i≤57)<;>simp
theorem D8T(s:ByteArray)(h:s.size≤maxLen)(i:Nat)(hi:i<s.size):B27 s ((i:Int),())=if D06 s i then some (.inl (((i+1:Nat):Int),())) else some (.inr (.inr (false,()))):=by
 have h1:((i:Int)<(s.size:Int)):=by omega
 have h2:(0:Int)≤(i:Int):=by omega
 simp only [B27,A0 h1,A0 h2,cond_true];rw [w64 (by omega) (by simp only [maxLen] at h;omega)];unfold D06;by_cases a:bt s i≥97<;>by_cases b:bt s i≤122<;>by_cases c:bt s i≥48<;>by_cases d:bt s i≤57<;>simp [a,b,c,d]
theorem E3A{s:ByteArray}{f:Int×Unit→Option ((Int×Unit)⊕(Unit⊕(Bool×Unit)))}(hs:∀ i:Nat,i<s.size→f ((i:Int),())=if D06 s i then some (.inl (((i+1:Nat):Int),())) else some (.inr (.inr (false,()))))
  (he:f ((s.size:Int),())=some (.inr (.inl ()))) (g:Unit→Option (Bool×Unit)) (hg:g ()=some (decide (1≤(s.size:Int)∧(s.size:Int)≤8),())):B7 (B8 f (0,())) g=some (idB s,()):=by
 obtain ⟨i,h1,h2,h3,h4⟩:=D58 f (fun i=>((i:Int),())) s.size (fun i=>if i<s.size then .inr (false,()) else .inl ()) (D06 s) (fun i hi=>by
  simp only [if_pos hi];exact hs i hi) (by simp only [Nat.lt_irrefl,if_false];exact he)
 have h4':B8 f (0,())=some (if i<s.size then .inr (false,()) else .inl ()):=h4;rw [h4'];unfold idB;by_cases hi:i<s.size
 ·rw [if_pos hi];have:(List.range s.size).all (D06 s)=false:=by
   rw [List.all_eq_false];exact ⟨i,List.mem_range.2 hi,by simp [h3 hi]⟩
  simp [B7,this]
 ·rw [if_neg hi];have:(List.range s.size).all (D06 s)=true:=by
   rw [List.all_eq_true];intro j hj;exact h2 j (by have:=List.mem_range.1 hj;omega)
  simp only [B7,this,hg,Bool.true_and]
theorem A8N(s:ByteArray)(h:s.size≤maxLen):N9 s=some (idB s,()):=by
 simp only [N9,C0O];exact E3A (D59 s h) (by simp [A92]) _ (by simp only [N1,A4])
theorem B2N(s:ByteArray)(h:s.size≤maxLen):S6 s=some (idB s,()):=by
 simp only [S6,C4r];exact E3A (D8T s h) (by simp [B27]) _ (by simp only [L3,A4])
def G7(c:P1):Bool:=idB c.1&&decide ((c.2.1.length:Int)≤400)&&decide (1≤c.2.2.1∧c.2.2.1≤6)&&decide (0≤c.2.2.2∧c.2.2.2≤(c.2.1.length:Int))
theorem A2r(c:P1)(h:c.1.size≤maxLen):G1 c=some (G7 c,()):=by
 simp only [G1,B1q,A8N _ h,N1,A4,G7];cases idB c.1<;>cases decide ((c.2.1.length:Int)≤400)<;>cases decide (1≤c.2.2.1∧c.2.2.1≤6)<;>simp
theorem A6B(c:P1)(h:c.1.size≤maxLen):L6 c=some (G7 c,()):=by
 simp only [L6,B2D,B2N _ h,L3,A4,G7];cases idB c.1<;>cases decide ((c.2.1.length:Int)≤400)<;>cases decide (1≤c.2.2.1∧c.2.2.1≤6)<;>simp
theorem B4P{R:Type}(a:Option R):eqO a a=a:=by
 unfold eqO;rw [if_pos rfl]
theorem A1D(a:List Int)(h:a.length≤140737488355328):C6 a=some (a,()):=by
 simp only [C6,A03];have e:(bif decide (([]:List Int).length+a.length≤9223372036854775807) then bif decide ((([]:List Int).length+a.length)*1≤140737488355328) then some (([]++a),()) else none else none)=some (a,()):=by
  rw [A0 (by simp;omega),A0 (by simp;omega)];simp
 rw [e];cases a with
 | nil=>simp [B4P]
 | cons x xs=>simp
def A2s(c:P1):Bool:=decide (c.2.2.1=5)||decide (c.2.2.1=6)
theorem B7j(c:P1):A1j c=some (A2s c,()):=by
 simp only [A1j,B49,A2s];cases decide (c.2.2.1=5)<;>simp
theorem C0W(c:P1):J8 c=some (A2s c,c,()):=by
 simp only [J8,A4Z,A2s];cases decide (c.2.2.1=5)<;>simp
theorem C4u(c:P1)(h2:c.2.1.length≤140737488355328):V5 c=some (c,()):=by
 simp only [V5,B4C];rw [A0 (by simp;omega),A0 (by simp;omega)];simp
theorem B0B(c:P1)(h2:c.2.1.length≤140737488355328):L1 c=some (c,()):=by
 simp only [L1,A8F,A1D _ h2,A4]
def C4v(n:Int)(k j:Nat):Int:=IntKind.u8.wrap (n.fdiv (2 ^ (8*(k-1-j))))
def big(n:Int)(k:Nat):List Int:=(List.range k).map (C4v n k)
theorem J9(n:Int)(k:Nat):(big n k).length=k:=by simp [big]
theorem E4i{n:Int}(h0:0≤n)(h1:n<18446744073709551616):IntKind.u64.wrap n=n:=by
 simp only [IntKind.wrap,IntKind.bits,IntKind.signed];simp;omega
theorem D7O(v:Int)(b:List Int)(k:Nat)(hk:k≤8)(hb:b.length+8≤140737488355328):B8 (A0h (v,())) ((k:Int)-1,b,())=some (b++big v k,()):=by
 have key:=D3 (A0h (v,())) (fun j=>((k:Int)-1-(j:Int),b++(List.range j).map (C4v v k),())) k (b++big v k,()) (fun j hj=>?_) ?_
 ·simpa using key
 ·have h1:(k:Int)-1-(j:Int)≥0:=by omega
  have e1:(k:Int)-1-(j:Int)=((k-1-j:Nat):Int):=by omega
  have hs:IntKind.u64.wrap (IntKind.i64.wrap (8*((k:Int)-1-(j:Int))))=((8*(k-1-j):Nat):Int):=by
   rw [w64 (by omega) (by omega),E4i (by omega) (by omega)];omega
  have hm:min (8*(k-1-j)) IntKind.i64.bits=8*(k-1-j):=Nat.min_eq_left (by simp only [IntKind.bits];omega);simp only [A0h,A0 h1,cond_true,hs,Int.toNat_natCast,hm];rw [A3 (by omega)];simp only [cond_false];have hl:(b++(List.range j).map (C4v v k)).length=b.length+j:=by simp
  rw [A0 (by rw [hl];simp;omega),A0 (by rw [hl];simp;omega)];simp only [cond_true];rw [w64 (by omega) (by omega),List.range_succ,List.map_append,List.append_assoc];have e2:(k:Int)-1-(j:Int)-1=(k:Int)-1-((j+1:Nat):Int):=by omega
  rw [e2];rfl
 ·have h1:¬ ((k:Int)-1-(k:Int)≥0):=by omega
  simp only [A0h,A3 h1,cond_false];rfl
def A0R(n:Int):Int:=if n<0 then 0 else n
theorem A21(b:List Int)(n:Int)(k:Nat)(h1:1≤k)(hk:k≤8)(hb:b.length+8≤140737488355328):A7y b n (k:Int)=some (b++big (A0R n) k,()):=by
 simp only [A7y,B7R];rw [A0 (by simp;omega),A0 (by simp;omega)];have e:(bif decide (n<0) then some ((0:Int),()) else some (n,()))=some (A0R n,()):=by
  unfold A0R;by_cases h:n<0<;>simp [h]
 simp only [cond_true,e,A4,N1];rw [A0 (by omega)];simp only [Bool.not_true,cond_false,List.nil_append];rw [w64 (by omega) (by omega)];exact D7O _ b k hk hb
theorem A9O(b:List Int)(n:Int)(k:Nat)(hk:k≤8)(hb:b.length+8≤140737488355328):A88 b n (k:Int)=some (b++big (A0R n) k,()):=by
 simp only [A88,B7c];have e:B28 n=A0h (A0R n,()):=by
  funext l
  have:(bif decide (0>n) then (0:Int) else n)=A0R n:=by
   unfold A0R;by_cases h:n<0<;>simp [h]
  simp only [B28,A0h,this]
 rw [e,w64 (by omega) (by omega)];exact D7O _ b k hk hb
theorem C0X{n:Nat}(h:n<9223372036854775808):IntKind.i64.wrap (n:Int)=(n:Int):=w64 (by omega) (by omega)
theorem E3g{n:Nat}(h:n<4294967296):IntKind.u32.wrap (n:Int)=(n:Int):=by
 simp only [IntKind.wrap,IntKind.bits,IntKind.signed];simp;omega
theorem bits_nat{w x:Nat}(h:x<2 ^ w):(BitVec.ofInt w (x:Int)).toNat=x:=by
 rw [BitVec.ofInt_natCast,BitVec.toNat_ofNat];exact Nat.mod_eq_of_lt h
theorem C4w{x y:Nat}(hx:x<4294967296)(hy:y<4294967296):C32 .i64 (x:Int) (y:Int)=((x ^^^ y:Nat):Int):=by
 have h:x ^^^ y<2 ^ 32:=Nat.xor_lt_two_pow (by omega) (by omega);unfold C32;rw [BitVec.toNat_xor,bits_nat (by simp only [IntKind.bits];omega),bits_nat (by simp only [IntKind.bits];omega)];exact C0X (by omega)
theorem C4x{x y:Nat}(hx:x<4294967296)(hy:y<4294967296):C32 .u32 (x:Int) (y:Int)=((x ^^^ y:Nat):Int):=by
 have h:x ^^^ y<2 ^ 32:=Nat.xor_lt_two_pow (by omega) (by omega);unfold C32;rw [BitVec.toNat_xor,bits_nat (by simp only [IntKind.bits];omega),bits_nat (by simp only [IntKind.bits];omega)];exact E3g (by omega)
theorem E0k{x y:Nat}(hx:x<4294967296)(hy:y<4294967296):C0M .i64 (x:Int) (y:Int)=((x &&& y:Nat):Int):=by
 have h:x &&& y<2 ^ 32:=Nat.and_lt_two_pow _ (by omega);unfold C0M;rw [BitVec.toNat_and,bits_nat (by simp only [IntKind.bits];omega),bits_nat (by simp only [IntKind.bits];omega)];exact C0X (by omega)
theorem E0l{x y:Nat}(hx:x<4294967296)(hy:y<4294967296):C0M .u32 (x:Int) (y:Int)=((x &&& y:Nat):Int):=by
 have h:x &&& y<2 ^ 32:=Nat.and_lt_two_pow _ (by omega);unfold C0M;rw [BitVec.toNat_and,bits_nat (by simp only [IntKind.bits];omega),bits_nat (by simp only [IntKind.bits];omega)];exact E3g (by omega)
def B8e(c:Nat):Nat:=if c &&& 1=1 then (c / 2) ^^^ 2197175160 else c / 2
def C0Y(c:Nat):Nat→Nat
 | 0=>c
 | i+1=>B8e (C0Y c i)
theorem D5A{c:Nat}(h:c<4294967296):B8e c<4294967296:=by
 unfold B8e;split
 ·have:(c / 2) ^^^ 2197175160<2 ^ 32:=Nat.xor_lt_two_pow (by omega) (by omega);omega
 ·omega
theorem C40{c:Nat}(h:c<4294967296):∀ i,C0Y c i<4294967296
 | 0=>h
 | i+1=>D5A (C40 h i)
theorem half(c:Nat):((c:Int)).fdiv 2=((c / 2:Nat):Int):=by
 rw [Int.fdiv_eq_ediv_of_nonneg _ (by omega)];omega
def A2t(a:List Int):Nat:=a.foldl (fun c x=>C0Y (c ^^^ x.toNat) 8) 4294967295
theorem E2P(a:List Int)(ha:Byt a):∀ c,c<4294967296→a.foldl (fun c x=>C0Y (c ^^^ x.toNat) 8) c<4294967296:=by
 induction a with
 | nil=>intro c h;exact h
 | cons x a ih=>
  intro c h;have hx:=ha x (by simp);refine ih (fun y hy=>ha y (by simp [hy])) _ (C40 ?_ 8);have:c ^^^ x.toNat<2 ^ 32:=Nat.xor_lt_two_pow (by omega) (by omega);omega
theorem A22{a:List Int}(h:Byt a)(i:Nat):Byt (a.take i):=fun x hx=>h x (List.mem_of_mem_take hx)
theorem A9P{a:List Int}(h:Byt a):A2t a<4294967296:=E2P a h _ (by omega)
theorem C8y{a:List Int}{i:Nat}(hi:i<a.length):A2t (a.take (i+1))=C0Y (A2t (a.take i) ^^^ a[i].toNat) 8:=by
 unfold A2t;rw [List.take_succ_eq_append_getElem hi,List.foldl_append];rfl
theorem E2Q(l0:Int×Int×Unit)(c:Nat)(h:c<4294967296):B8 (B5f l0) ((c:Int),0,())=some (.inl ((C0Y c 8:Int),IntKind.i64.wrap (l0.2.1+1),())):=by
 refine D3 (B5f l0) (fun i=>((C0Y c i:Int),(i:Int),())) 8 _ (fun i hi=>?_) ?_
 ·have hl:=C40 h i;have h1:(i:Int)<8:=by omega
  simp only [B5f,A0 h1,cond_true,half];rw [show (1:Int)=((1:Nat):Int) from rfl,E0k hl (by omega),show (2197175160:Int)=((2197175160:Nat):Int) from rfl,C4w (by omega) (by omega)];rw [show ((i:Int)+((1:Nat):Int))=((i+1:Nat):Int) by omega,C0X (by omega)];simp only [C0Y,B8e];by_cases hb:C0Y c i &&& 1=1
  ·rw [A0 (by rw [hb]),if_pos hb];rfl
  ·rw [A3 (by omega),if_neg hb];rfl
 ·rfl
theorem C4y(a:List Int)(ha:Byt a)(h:a.length≤maxLen):A7J a=some (((A2t a ^^^ 4294967295:Nat):Int),()):=by
 simp only [A7J,D03];have key:=D3 (B0e a) (fun i=>((A2t (a.take i):Int),(i:Int),())) a.length ((A2t a:Int),()) (fun i hi=>?_) ?_
 ·have e:B8 (B0e a) (4294967295,0,())=some ((A2t a:Int),()):=key;rw [e];simp only [A4];rw [show (4294967295:Int)=((4294967295:Nat):Int) from rfl,C4w (A9P ha) (by omega)]
 ·have h1:((i:Int)<(a.length:Int)):=by omega
  have h2:(0:Int)≤(i:Int):=by omega
  have hx:=ha a[i] (List.getElem_mem hi);have hc:=A9P (A22 ha i);simp only [B0e,A0 h1,A0 h2,cond_true,B2M hi];have hxor:A2t (a.take i) ^^^ a[i].toNat<2 ^ 32:=Nat.xor_lt_two_pow (by omega) (by omega);rw [w64 (by omega) (by omega),show a[i]=((a[i].toNat:Nat):Int) by omega,C4w hc (by omega)];rw [E2Q _ _ (by omega)];simp only;rw [show ((i:Int)+1)=((i+1:Nat):Int) by omega,C0X (by simp only [maxLen] at h;omega),C8y hi]
 ·simp [B0e]
theorem E2R(l0:Int×Int×Unit)(c:Nat)(h:c<4294967296):B8 (B5h l0) ((c:Int),0,())=some (.inl ((C0Y c 8:Int),IntKind.i64.wrap (l0.2.1+1),())):=by
 refine D3 (B5h l0) (fun i=>((C0Y c i:Int),(i:Int),())) 8 _ (fun i hi=>?_) ?_
 ·have hl:=C40 h i;have h1:(i:Int)<8:=by omega
  simp only [B5h,A0 h1,cond_true,half];rw [show (1:Int)=((1:Nat):Int) from rfl,E0l hl (by omega),show (2197175160:Int)=((2197175160:Nat):Int) from rfl,C4x (by omega) (by omega)];rw [show ((i:Int)+((1:Nat):Int))=((i+1:Nat):Int) by omega,C0X (by omega)];simp only [C0Y,B8e];by_cases hb:C0Y c i &&& 1=1
  ·rw [A0 (by rw [hb]),if_pos hb];rfl
  ·rw [A3 (by omega),if_neg hb];rfl
 ·rfl
theorem C4z(a:List Int)(ha:Byt a)(h:a.length≤maxLen):A7W a=some (((A2t a ^^^ 4294967295:Nat):Int),()):=by
 simp only [A7W,D05];have key:=D3 (B0j a) (fun i=>((A2t (a.take i):Int),(i:Int),())) a.length ((A2t a:Int),()) (fun i hi=>?_) ?_
 ·have e:B8 (B0j a) (4294967295,0,())=some ((A2t a:Int),()):=key;rw [e];simp only [A4];have hm:IntKind.u32.max=((4294967295:Nat):Int):=rfl;have hxor:A2t a ^^^ 4294967295<2 ^ 32:=Nat.xor_lt_two_pow (by have:=A9P ha;omega) (by omega);rw [hm,C4x (by omega) (A9P ha),Nat.xor_comm,C0X (by omega)]
 ·have h1:((i:Int)<(a.length:Int)):=by omega
  have h2:(0:Int)≤(i:Int):=by omega
  have hx:=ha a[i] (List.getElem_mem hi);have hc:=A9P (A22 ha i);simp only [B0j,A0 h1,A0 h2,cond_true,B2M hi];have hxor:A2t (a.take i) ^^^ a[i].toNat<2 ^ 32:=Nat.xor_lt_two_pow (by omega) (by omega);rw [show a[i]=((a[i].toNat:Nat):Int) by omega,E3g (by omega),C4x hc (by omega)];rw [E2R _ _ (by omega)];simp only;rw [show ((i:Int)+1)=((i+1:Nat):Int) by omega,C0X (by simp only [maxLen] at h;omega),C8y hi]
 ·simp [B0j]
abbrev Req:=Int×ByteArray×Int
def B8f:Req×List Int×Bool×Unit:=((0,⟨#[]⟩,0),[],false,())
def G6(c:P1):Req×List Int×Bool×Unit:=
 if G7 c=false then B8f
 else if c.2.2.1=1 then ((1,c.1,(c.2.1.length:Int)),[],true,())
 else if c.2.2.1=2 then ((2,c.1,0),[],true,())
 else if c.2.2.1=3 then ((3,c.1,c.2.2.2),(c.2.1.take (min (c.2.2.2.toNat+24) c.2.1.length)).drop c.2.2.2.toNat,true,())
 else if c.2.2.1=4 then ((4,c.1,((A2t c.2.1 ^^^ 4294967295:Nat):Int)),[],true,())
 else B8f
theorem D5B{c:P1}(h:G7 c=true):c.2.1.length≤400∧1≤c.2.2.1∧c.2.2.1≤6∧0≤c.2.2.2∧c.2.2.2≤(c.2.1.length:Int):=by
 simp only [G7,Bool.and_eq_true,decide_eq_true_eq] at h;omega
theorem B4Q(c:P1):(G6 c).2.1.length≤c.2.1.length:=by
 unfold G6 B8f
 repeat' split
 all_goals simp
 omega
theorem D07(c:P1)(h:c.1.size≤maxLen)(hb:Byt c.2.1):A6U c=some (G6 c):=by
 simp only [A6U,B4L,A6B c h,C0W,A4,G6];cases hk:G7 c with
 | false=>rfl
 | true=>
  obtain ⟨h1,h2,h3,h4,h5⟩:=D5B hk;simp only [Bool.not_true,cond_false,Bool.true_eq_false,if_false];cases ho:A2s c with
  | true=>
   simp only [A2s,Bool.or_eq_true,decide_eq_true_eq] at ho;rw [if_neg (by omega),if_neg (by omega),if_neg (by omega),if_neg (by omega)];rfl
  | false=>
   simp only [A2s,Bool.or_eq_false_iff,decide_eq_false_iff_not] at ho;simp only [cond_false,B7];by_cases e1:c.2.2.1=1
   ·rw [A0 e1,if_pos e1];rfl
   rw [A3 e1,if_neg e1];by_cases e2:c.2.2.1=2
   ·rw [A0 e2,if_pos e2];rfl
   rw [A3 e2,if_neg e2];by_cases e3:c.2.2.1=3
   ·rw [A0 e3,if_pos e3,w64 (by omega) (by omega)];simp only [cond_true,cond_false];have hm:(bif decide ((c.2.1.length:Int)<c.2.2.2+24) then (c.2.1.length:Int) else c.2.2.2+24)=((min (c.2.2.2.toNat+24) c.2.1.length:Nat):Int):=by
     by_cases hc:(c.2.1.length:Int)<c.2.2.2+24
     ·rw [A0 hc];simp only [cond_true];omega
     ·rw [A3 hc];simp only [cond_false];omega
    rw [hm,A0 h4,A0 (by omega),A0 (by omega),Int.toNat_natCast];simp only [cond_true];rw [A1D _ (by simp;omega)]
   rw [A3 e3,if_neg e3];have e4:c.2.2.1=4:=by omega
   rw [if_pos e4];simp only [cond_false];rw [C4z _ hb (by simp only [maxLen];omega)]
theorem B8g(c:P1)(h:c.1.size≤maxLen)(hb:Byt c.2.1):A6N c=some (G6 c):=by
 simp only [A6N,B45,A2r c h,A4,G6];cases hk:G7 c with
 | false=>rfl
 | true=>
  obtain ⟨h1,h2,h3,h4,h5⟩:=D5B hk;simp only [Bool.not_true,cond_false,Bool.true_eq_false,if_false];by_cases e1:c.2.2.1=1
  ·rw [A0 e1,if_pos e1];rfl
  rw [A3 e1,if_neg e1];by_cases e2:c.2.2.1=2
  ·rw [A0 e2,if_pos e2];rfl
  rw [A3 e2,if_neg e2];by_cases e3:c.2.2.1=3
  ·rw [A0 e3,if_pos e3,w64 (by omega) (by omega)];simp only [cond_true,cond_false];have hm:(bif decide (c.2.2.2+24>(c.2.1.length:Int)) then some ((c.2.1.length:Int),()) else some (c.2.2.2+24,()))=some (((min (c.2.2.2.toNat+24) c.2.1.length:Nat):Int),()):=by
    by_cases hc:c.2.2.2+24>(c.2.1.length:Int)
    ·rw [A0 hc];simp only [cond_true];congr 2;omega
    ·rw [A3 hc];simp only [cond_false];congr 2;omega
   rw [hm];simp only;rw [A0 h4,A0 (by omega),A0 (by omega),Int.toNat_natCast];simp only [cond_true];rw [A0 (by simp;omega),A0 (by simp;omega)];simp
  rw [A3 e3,if_neg e3];by_cases e4:c.2.2.1=4
  ·rw [A0 e4,if_pos e4];simp only [cond_true,cond_false];rw [C4y _ hb (by simp only [maxLen];omega)]
  ·rw [A3 e4,if_neg e4];rfl
abbrev D1z:=Int×Int
def T3(r:D1z):Bool:=decide (100≤r.1∧r.1≤599)&&decide (-1≤r.2∧r.2≤1000000000)
theorem A9Q(r:D1z):R3 r=some (T3 r,()):=by
 simp only [R3,B7X,N1,A4,T3];cases decide (100≤r.1∧r.1≤599)<;>simp
theorem B4R(r:D1z):W9 r=some (T3 r,()):=by
 simp only [W9,B7a,L3,A4,T3];cases decide (100≤r.1∧r.1≤599)<;>simp
def far(c:P1)(off:Int):P1:=if 0≤off∧off≤(c.2.1.length:Int) then (if off=(c.2.1.length:Int) then (c.1,c.2.1,4,off) else (c.1,c.2.1,3,off)) else (c.1,c.2.1,6,c.2.2.2)
theorem D8U(c:P1)(off:Int):A82 c off=some (far c off,()):=by
 simp only [A82,B7V,N1,A4,far];by_cases h:0≤off∧off≤(c.2.1.length:Int)
 ·rw [A0 h,if_pos h];by_cases h2:off=(c.2.1.length:Int)<;>simp [h2]
 ·rw [A3 h,if_neg h];rfl
theorem D8V(c:P1)(off:Int):Z5 c off=some (far c off,()):=by
 simp only [Z5,A4d,L3,A4,far];by_cases h:0≤off∧off≤(c.2.1.length:Int)
 ·rw [A0 h,if_pos h];by_cases h2:off=(c.2.1.length:Int)<;>simp [h2]
 ·rw [A3 h,if_neg h];rfl
def A0S(step status:Int):Int:=
 if status=507 then (if step=2 then 6 else step)
 else if status=404 then (if step=1 then 6 else 1)
 else if status=409 then (if step=3 then 0 else if step=2 then 6 else 2)
 else if status=201 then (if step=1 then 0 else 6)
 else if status=204 then (if step=3 then 0 else 6)
 else if status=200 then (if step=2 then 0 else if step=4 then 5 else 6)
 else 6
theorem D5C(a b:Int):A6O a b=some (A0S a b,()):=by
 simp only [A6O,B4A,A0S];by_cases h1:b=507
 ·by_cases h:a=2<;>simp [h1,h]
 by_cases h2:b=404
 ·by_cases h:a=1<;>simp [h2,h]
 by_cases h3:b=409
 ·by_cases h:a=3
  ·simp [h3,h]
  ·by_cases h':a=2<;>simp [h3,h,h']
 by_cases h4:b=201
 ·by_cases h:a=1<;>simp [h4,h]
 by_cases h5:b=204
 ·by_cases h:a=3<;>simp [h5,h]
 by_cases h6:b=200
 ·by_cases h:a=2
  ·simp [h6,h]
  ·by_cases h':a=4<;>simp [h6,h,h']
 simp [h1,h2,h3,h4,h5,h6]
def hear(c:P1)(r:D1z):P1:=if A0S c.2.2.1 r.1=0 then far c r.2 else (c.1,c.2.1,A0S c.2.2.1 r.1,c.2.2.2)
theorem C50(c:P1)(r:D1z):A6P c r=some (hear c r,()):=by
 simp only [A6P,B4B,D5C,D8U,A4,hear];by_cases h:A0S c.2.2.1 r.1=0<;>simp [h]
theorem D8W(c:P1)(r:D1z)(h:c.2.2.1=1∨c.2.2.1=2∨c.2.2.1=3∨c.2.2.1=4):A11 c r=some (hear c r,()):=by
 have hc:c=(c.1,c.2.1,c.2.2.1,c.2.2.2):=rfl;simp only [A11,A6u,D8V,hear,A0S];by_cases h1:r.1=507
 ·rcases h with h | h | h | h<;>simp [h1,h,A4]
  all_goals (rw [← h])
 by_cases h2:r.1=404
 ·rcases h with h | h | h | h<;>simp [h2,h,A4]
 by_cases h3:r.1=409
 ·rcases h with h | h | h | h<;>simp [h3,h,A4]
 by_cases h4:r.1=201
 ·rcases h with h | h | h | h<;>simp [h4,h,A4]
 by_cases h5:r.1=204
 ·rcases h with h | h | h | h<;>simp [h5,h,A4]
 by_cases h6:r.1=200
 ·rcases h with h | h | h | h<;>simp [h6,h,A4]
 rcases h with h | h | h | h<;>simp [h1,h2,h3,h4,h5,h6,h,A4]
def X1(c:P1)(r:D1z):P1:=if G7 c&&T3 r&&!A2s c then hear c r else c
theorem C7b(c:P1)(r:D1z)(h:c.1.size≤maxLen)(h2:c.2.1.length≤140737488355328):A4e c r=some (X1 c r,()):=by
 simp only [A4e,B2H,B0B _ h2,A6B _ h,B4R,C0W,A4,X1];cases hk:G7 c with
 | false=>simp
 | true=>
  cases T3 r with
  | false=>simp
  | true=>
   cases ho:A2s c with
   | true=>simp
   | false=>
    obtain ⟨_,h4,h5,_,_⟩:=D5B hk;simp only [A2s,Bool.or_eq_false_iff,decide_eq_false_iff_not] at ho;simp only [Bool.not_true,cond_false];rw [D8W c r (by omega)];simp
theorem D08{N:Nat}{w:A5}(h:Sm N A0G w):Sm N (.sl 0 B3) w.2.1:=Sm.l (Sm.r h)
theorem D09{N:Nat}{w:A5}(h:Sm N A0G w):Sm N (.sl 0 kUp) w.1.1.2.2.2:=Sm.r (Sm.r (Sm.r (Sm.l (Sm.l h))))
def B62(us:List TUp)(id:ByteArray):Nat:=O3 (fun i=>!((rd kUp us (i:Int)).1.toList == id.toList)) 0 us.length
def D20:TUp×Bool×Unit:=((⟨#[]⟩,0,[],false),false,())
def B0C(st:A7)(id:ByteArray):TUp×Bool×Unit:=if B62 st.2.2.2 id<st.2.2.2.length then (rd kUp st.2.2.2 (B62 st.2.2.2 id:Int),true,()) else D20
theorem D21(us:List TUp)(id:ByteArray)(h:us.length≤maxLen):P4 us id=some (if B62 us id<us.length then (B62 us id:Int) else -1,()):=by
 simp only [P4,C0Q];refine A20 (A94 us id) (fun i=>((i:Int),())) us.length (fun i=>(if i<us.length then (i:Int) else -1,())) (fun i=>!((rd kUp us (i:Int)).1.toList == id.toList)) (fun i hi=>?_) ?_
 ·have h1:((i:Int)<(us.length:Int)):=by omega
  have h2:(0:Int)≤(i:Int):=by omega
  simp only [A94,A0 h1,A0 h2,cond_true,if_pos hi];rw [w64 (by omega) (by simp only [maxLen] at h;omega)];cases ((rd kUp us (i:Int)).1.toList == id.toList)<;>simp
 ·simp [A94]
theorem E2S{us:List TUp}{N:Nat}(h:Sm N (.sl 0 kUp) us){i:Nat}(hi:i<us.length):Sm N kUp (rd kUp us (i:Int)):=by
 rw [C3 (k:=kUp) (xs:=us) hi];exact h.2 _ (List.getElem_mem hi)
theorem D8X(u:TUp)(h:Sm 1048576 kUp u):T8 u=some (u,()):=by
 have hd:List.length u.2.2.1≤1048576:=(Sm.l (Sm.r (Sm.r h))).1;simp only [T8,B23,A1D _ (show List.length u.2.2.1≤140737488355328 by omega),A4]
theorem B5i(st:A7)(id:ByteArray)(h:Sm 1048576 (.sl 0 kUp) st.2.2.2):W8 st id=some (B0C st id):=by
 have hl:st.2.2.2.length≤1048576:=h.1;simp only [W8,C4o];have e:=A20 (A85 T8 st id) (fun i=>((i:Int),())) st.2.2.2.length (fun i=>if i<st.2.2.2.length then .inr (rd kUp st.2.2.2 (i:Int),true,()) else .inl ()) (fun i=>!((rd kUp st.2.2.2 (i:Int)).1.toList == id.toList)) (fun i hi=>?_) ?_
 ·have e':B8 (A85 T8 st id) (0,())=_:=e;rw [e'];simp only [B0C];by_cases hi:B62 st.2.2.2 id<st.2.2.2.length
  ·rw [if_pos hi];have hi':O3 (fun i=>!((rd kUp st.2.2.2 (i:Int)).1.toList == id.toList)) 0 st.2.2.2.length<st.2.2.2.length:=hi;rw [if_pos hi'];rfl
  ·rw [if_neg hi];have hi':¬ O3 (fun i=>!((rd kUp st.2.2.2 (i:Int)).1.toList == id.toList)) 0 st.2.2.2.length<st.2.2.2.length:=hi;rw [if_neg hi'];rfl
 ·have h1:((i:Int)<(st.2.2.2.length:Int)):=by omega
  have h2:(0:Int)≤(i:Int):=by omega
  simp only [A85,A0 h1,A0 h2,cond_true,if_pos hi];rw [w64 (by omega) (by omega),D8X _ (E2S h hi)];cases ((rd kUp st.2.2.2 (i:Int)).1.toList == id.toList)<;>simp [A4]
 ·simp [A85]
def A6X(w:A5)(i:Nat):TUp×Bool×Unit:=B0C w.1.1 (rd B3 w.2.1 (i:Int)).1
def C0Z(w:A5)(i:Nat):Int:=rd (.int .i64) w.2.2.2.2.2 (i:Int)
def nl(w:A5)(i:Nat):Bool:=decide (C0Z w i=-1)||((A6X w i).2.1&&!decide ((List.length (A6X w i).1.2.2.1:Int)<C0Z w i))
theorem D0A(w:A5)(h:Sm 1048576 A0G w):A6S w=some ((List.range w.2.1.length).all (fun i=>if w.2.2.2.2.2.length≤i then true else nl w i),()):=by
 have hl:w.2.1.length≤1048576:=(D08 h).1;refine B6N (A5z W8 w) _ (by simp only [maxLen];omega) _ (fun i hi=>?_) (by simp [A5z]);have h1:((i:Int)<(w.2.1.length:Int)):=by omega
 have h2:(0:Int)≤(i:Int):=by omega
 simp only [A5z,A0 h1,A0 h2,cond_true];by_cases h3:w.2.2.2.2.2.length≤i
 ·rw [A0 (by omega),if_pos h3];rfl
 ·rw [A3 (show ¬ ((i:Int)≥(w.2.2.2.2.2.length:Int)) by omega),if_neg h3];have h4:((i:Int)<(w.2.2.2.2.2.length:Int)):=by omega
  simp only [A0 h4,cond_true,cond_false];rw [B5i _ _ (D09 h)];show B7 (bif (decide (C0Z w i=-1)) then _ else _) (fun m1=>A4 (some (A6X w i)) _)=_;simp only [A4,nl];by_cases ht:C0Z w i=-1
  ·simp [ht,B7]
  ·by_cases hu:(A6X w i).2.1=true
   ·by_cases hd:(List.length (A6X w i).1.2.2.1:Int)<C0Z w i
    ·have hd':(List.length (A6X w i).1.2.2.1:Int)<rd (.int .i64) w.2.2.2.2.2 (i:Int):=hd;simp [ht,hu,hd,hd',B7]
    ·have hd':¬ (List.length (A6X w i).1.2.2.1:Int)<rd (.int .i64) w.2.2.2.2.2 (i:Int):=hd;simp [ht,hu,hd,hd',B7]
   ·simp [ht,hu,B7]
def en(w:A5)(i:Nat):Bool:=!decide ((rd B3 w.2.1 (i:Int)).2.2.1=5)||((A6X w i).2.1&&((A6X w i).1.2.2.2&&((strOf (A6X w i).1.2.2.1).toList == (strOf (rd B3 w.2.1 (i:Int)).2.1).toList)))
theorem D8Y(w:A5)(h:Sm 1048576 A0G w):B4F w=some ((List.range w.2.1.length).all (en w),()):=by
 have hl:w.2.1.length≤1048576:=(D08 h).1;refine B6N (B25 M5 W8 w) _ (by simp only [maxLen];omega) (en w) (fun i hi=>?_) (by simp [B25]);have h1:((i:Int)<(w.2.1.length:Int)):=by omega
 have h2:(0:Int)≤(i:Int):=by omega
 simp only [B25,A0 h1,A0 h2,cond_true];rw [B5i _ _ (D09 h)];show A4 (some (A6X w i)) _=_;simp only [A4,en,M5,A2k];cases decide ((rd B3 w.2.1 (i:Int)).2.2.1=5)<;>cases (A6X w i).2.1<;>cases (A6X w i).1.2.2.2<;>cases ((strOf (A6X w i).1.2.2.1).toList == (strOf (rd B3 w.2.1 (i:Int)).2.1).toList)<;>simp
def beg(a b:List Int):Bool:=decide (a.length≤b.length)&&(List.range a.length).all fun i=>decide (rd (.int .u8) a (i:Int)=rd (.int .u8) b (i:Int))
theorem E0m{x y:Int}(hx:0≤x∧x<256)(hy:0≤y∧y<256)(h:UInt8.ofNat x.toNat=UInt8.ofNat y.toNat):x=y:=by
 have:=congrArg UInt8.toNat h;simp only [UInt8.toNat_ofNat'] at this;omega
theorem D5D(a b:List Int)(ha:Byt a)(hb:Byt b)(hc:a.length≤b.length):((strOf ((b.take a.length).drop 0)).toList == (strOf a).toList)=(List.range a.length).all fun i=>decide (rd (.int .u8) a (i:Int)=rd (.int .u8) b (i:Int)):=by
 unfold strOf;rw [ByteArray.toList_eq,ByteArray.toList_eq,strOfNums_data,strOfNums_data,List.drop_zero,Bool.eq_iff_iff];simp only [beq_iff_eq,List.all_eq_true,List.mem_range,decide_eq_true_eq];constructor
 ·intro e i hi;rw [B2M hi,B2M (show i<b.length by omega)];have:=congrArg (fun l=>l[i]?) e;simp only [List.getElem?_map] at this;rw [List.getElem?_take_of_lt hi,List.getElem?_eq_getElem (show i<b.length by omega),List.getElem?_eq_getElem hi] at this;simp only [Option.map_some,Option.some.injEq] at this;exact (E0m (hb _ (List.getElem_mem _)) (ha _ (List.getElem_mem _)) this).symm
 ·intro e;have:b.take a.length=a:=by
   apply List.ext_getElem
   ·simp;omega
   ·intro i h1 h2;have:=e i h2;rw [B2M h2,B2M (show i<b.length by omega)] at this;simp [this]
  rw [this]
theorem D0B(a b:List Int)(ha:Byt a)(hb:Byt b):T2 b a=some (beg a b,()):=by
 simp only [T2,A4T,M5,A2k,beg,A4];by_cases hc:a.length≤b.length
 ·have g1:(b.length:Int)≥(a.length:Int):=by omega
  have g2:(0:Int)≤(a.length:Int):=by omega
  have g3:(a.length:Int)≤(b.length:Int):=by omega
  simp only [A0 g1,A0 g2,A0 g3,A0 hc,Int.toNat_natCast,cond_true,Bool.true_and];rw [D5D a b ha hb hc]
 ·rw [A3 (show ¬ (b.length:Int)≥(a.length:Int) by omega),A3 hc];rfl
def E2T(w:A5):Prop:=(∀ u∈w.1.1.2.2.2,Byt u.2.2.1)∧∀ c∈w.2.1,Byt c.2.1
theorem E0n{w:A5}(h:E2T w)(i:Nat):Byt (A6X w i).1.2.2.1:=by
 unfold A6X B0C;split
 ·rename_i hi;rw [C3 (k:=kUp) (xs:=w.1.1.2.2.2) hi];exact h.1 _ (List.getElem_mem hi)
 ·intro x hx;cases hx
theorem E0o{w:A5}(h:E2T w){i:Nat}(hi:i<w.2.1.length):Byt (rd B3 w.2.1 (i:Int)).2.1:=by
 rw [C3 (k:=B3) (xs:=w.2.1) hi];exact h.2 _ (List.getElem_mem hi)
def be(w:A5)(i:Nat):Bool:=!(A6X w i).2.1||(beg (A6X w i).1.2.2.1 (rd B3 w.2.1 (i:Int)).2.1&&decide ((A6X w i).1.2.1=(List.length (rd B3 w.2.1 (i:Int)).2.1:Int)))
theorem D22(w:A5)(h:Sm 1048576 A0G w)(hb:E2T w):A86 w=some ((List.range w.2.1.length).all (be w),()):=by
 have hl:w.2.1.length≤1048576:=(D08 h).1;refine B6N (A7V T2 W8 w) _ (by simp only [maxLen];omega) (be w) (fun i hi=>?_) (by simp [A7V]);have h1:((i:Int)<(w.2.1.length:Int)):=by omega
 have h2:(0:Int)≤(i:Int):=by omega
 simp only [A7V,A0 h1,A0 h2,cond_true];rw [B5i _ _ (D09 h)];show A4 (some (A6X w i)) _=_;simp only [A4,be];rw [D0B _ _ (E0n hb i) (E0o hb hi)];simp only;cases (A6X w i).2.1<;>cases beg (A6X w i).1.2.2.1 (rd B3 w.2.1 (i:Int)).2.1<;>cases decide ((A6X w i).1.2.1=(List.length (rd B3 w.2.1 (i:Int)).2.1:Int))<;>simp
theorem E2U{L:Int×Unit→Option ((Int×Unit)⊕(Unit⊕(Bool×Unit)))}{n:Nat}{go:Nat→Bool}(hs:∀ i:Nat,i<n→L ((i:Int),())=bif go i then some (.inl (((i+1:Nat):Int),())) else some (.inr (.inr (false,()))))
  (he:L ((n:Int),())=some (.inr (.inl ()))) (g:Unit→Option (Bool×Unit)) (b:Bool) (hg:g ()=some (b,())):B7 (B8 L (0,())) g=some (decide (O3 go 0 n=n)&&b,()):=by
 have h:=A20 L (fun i=>((i:Int),())) n (fun i=>if i=n then .inl () else .inr (false,())) go (fun i hi=>by
  rw [hs i hi];cases go i with
  | true=>rfl
  | false=>simp only [Bool.false_eq_true,if_false,cond_false];rw [if_neg (by omega)]) (by rw [he,if_pos rfl])
 have h':B8 L (0,())=_:=h;rw [h'];by_cases hn:O3 go 0 n=n
 ·rw [if_pos hn,A0 hn];simp [B7,hg]
 ·rw [if_neg hn,A3 hn];simp [B7]
theorem E2V{x y:Nat}(hx:x<9223372036854775808)(hy:y<9223372036854775808):bOr .i64 (x:Int) (y:Int)=((x ||| y:Nat):Int):=by
 have h:x ||| y<2 ^ 63:=Nat.or_lt_two_pow (by omega) (by omega);unfold bOr;rw [BitVec.toNat_or,bits_nat (by simp only [IntKind.bits];omega),bits_nat (by simp only [IntKind.bits];omega)];exact C0X (by omega)
def X9(b:List Int)(at_:Nat):Nat→Nat
 | 0=>0
 | j+1=>(X9 b at_ j*256) ||| (b.getD (at_+j) 0).toNat
theorem D23{b:List Int}(hb:Byt b)(i:Nat):0≤b.getD i 0∧b.getD i 0<256:=by
 by_cases h:i<b.length
 ·simp only [List.getD,List.getElem?_eq_getElem h,Option.getD_some];exact hb _ (List.getElem_mem h)
 ·simp only [List.getD,List.getElem?_eq_none (show b.length≤i by omega),Option.getD_none];omega
theorem D0C{b:List Int}(hb:Byt b)(at_:Nat):∀ j,X9 b at_ j<2 ^ (8*j)
 | 0=>by simp [X9]
 | j+1=>by
  have h1:=D0C hb at_ j;have h2:=D23 hb (at_+j);have e:2 ^ (8*(j+1))=2 ^ (8*j)*256:=by rw [show 8*(j+1)=8*j+8 by omega,Nat.pow_add]
  refine Nat.or_lt_two_pow ?_ ?_
  ·rw [e];exact Nat.mul_lt_mul_of_pos_right h1 (by omega)
  ·have:1≤2 ^ (8*j):=Nat.one_le_two_pow;rw [e];omega
theorem D24{b:List Int}(hb:Byt b)(at_ j:Nat)(hj:j<7)(x:Int)(hx:x=b.getD (at_+j) 0):bOr .i64 (IntKind.i64.wrap (((X9 b at_ j:Nat):Int)*256)) (IntKind.i64.wrap x)=((X9 b at_ (j+1):Nat):Int):=by
 have h1:=D0C hb at_ j;have h2:=D23 hb (at_+j);have h3:2 ^ (8*j)≤2 ^ 48:=Nat.pow_le_pow_right (by omega) (by omega);subst hx;rw [show ((X9 b at_ j:Nat):Int)*256=((X9 b at_ j*256:Nat):Int) by omega,C0X (by omega),show b.getD (at_+j) 0=(((b.getD (at_+j) 0).toNat:Nat):Int) by omega,C0X (by omega),E2V (by omega) (by omega)];simp only [X9,Int.toNat_natCast]
def A5g(b:List Int)(a:Int)(k:Nat):Int×Bool×Unit:=if 0≤a∧a≤(b.length:Int)-k then ((X9 b a.toNat k:Int),true,()) else (0,false,())
theorem D25(b:List Int)(hb:Byt b)(h:b.length≤1048576)(a:Int)(k:Nat)(hk:1≤k∧k≤7):A5M b a (k:Int)=some (A5g b a k):=by
 simp only [A5M,B7Q,N1,A4,A5g];rw [A0 (show (1:Int)≤(k:Int)∧(k:Int)≤7 by omega),w64 (by omega) (by omega)];simp only [Bool.not_true,cond_false];by_cases h1:a<0
 ·rw [A0 h1,if_neg (by omega)];rfl
 rw [A3 h1];by_cases h2:a>(b.length:Int)-k
 ·rw [A0 h2,if_neg (by omega)];rfl
 rw [A3 h2,if_pos (by omega)];simp only [cond_false,B7];have key:=D3 (A4F (k:Int) a b) (fun j=>((X9 b a.toNat j:Int),(j:Int),())) k ((X9 b a.toNat k:Int),()) (fun j hj=>?_) ?_
 ·have e:B8 (A4F (k:Int) a b) (0,0,())=_:=key;rw [e]
 ·have g1:(j:Int)<(k:Int):=by omega
  simp only [A4F,A0 g1,cond_true];rw [w64 (n:=a+(j:Int)) (by omega) (by omega)];have g2:0≤a+(j:Int):=by omega
  have g3:a+(j:Int)<(b.length:Int):=by omega
  rw [A0 g2,A0 g3];simp only [cond_true];rw [D24 hb a.toNat j (by omega) _ (by
   rw [show a+(j:Int)=((a.toNat+j:Nat):Int) by omega,B2M (by omega)];simp [List.getD,show a.toNat+j<b.length by omega]),show (j:Int)+1=((j+1:Nat):Int) by omega,C0X (by omega)]
 ·simp [A4F]
theorem B4S(b:List Int)(hb:Byt b)(h:b.length≤1048576)(a:Int)(k:Nat)(hk:1≤k∧k≤7):A87 b a (k:Int)=some (A5g b a k):=by
 simp only [A87,B7b,L3,A4,A5g];rw [A0 (show (1:Int)≤(k:Int)∧(k:Int)≤7 by omega),w64 (n:=(b.length:Int)-(k:Int)) (by omega) (by omega)];simp only [Bool.not_true,cond_false];by_cases h1:a<0
 ·rw [A0 h1,if_neg (by omega)];rfl
 rw [A3 h1];by_cases h2:a>(b.length:Int)-k
 ·rw [A0 h2,if_neg (by omega)];rfl
 rw [A3 h2,if_pos (by omega)];simp only [cond_false,B7];rw [w64 (n:=a+(k:Int)) (by omega) (by omega),A0 (show 0≤a by omega),A0 (show a≤a+(k:Int) by omega),A0 (show a+(k:Int)≤(b.length:Int) by omega)];simp only [cond_true];have hlen:((b.take (a+(k:Int)).toNat).drop a.toNat).length=k:=by simp;omega
 have key:=D3 (A4U b a (k:Int)) (fun j=>((X9 b a.toNat j:Int),(j:Int),())) k ((X9 b a.toNat k:Int),()) (fun j hj=>?_) ?_
 ·have e:B8 (A4U b a (k:Int)) (0,0,())=_:=key;rw [e]
 ·have g1:(j:Int)<(k:Int):=by omega
  have g2:(0:Int)≤(j:Int):=by omega
  simp only [A4U];rw [w64 (n:=a+(k:Int)) (by omega) (by omega)];simp only [hlen,A0 g1,A0 g2,cond_true];rw [D24 hb a.toNat j (by omega) _ (by
   rw [B2M (by rw [hlen];exact hj)];simp [List.getD,show a.toNat+j<b.length by omega]),show (j:Int)+1=((j+1:Nat):Int) by omega,C0X (by omega)]
 ·simp only [A4U];rw [w64 (n:=a+(k:Int)) (by omega) (by omega)];simp [hlen]
theorem D8Z{α β:Type}{f:α→Option (α⊕β)}{x:α}{z:β}(h:f x=some (.inr z)):B8 f x=some z:=by rw [W0,h]
theorem B2O(xs:List Int):(strOf xs).size=xs.length:=strOfNums_size xs
theorem D26(x:Int):0≤C0M .i64 x 255∧C0M .i64 x 255≤255:=by
 unfold C0M;have h:(BitVec.ofInt IntKind.i64.bits x &&& BitVec.ofInt IntKind.i64.bits 255).toNat≤255:=by
  rw [BitVec.toNat_and];have:(BitVec.ofInt IntKind.i64.bits (255:Int)).toNat=255:=bits_nat (w:=64) (x:=255) (by omega);rw [this];exact Nat.and_le_right
 rw [C0X (by omega)];omega
def Cur(c:H7):Prop:=List.length c.1≤1048576∧0≤c.2.1∧c.2.1≤1048576
theorem B0k(c:H7)(h:Cur c):∃ r c',A1f c=some (r,c',())∧Cur c'∧0≤r∧r≤255:=by
 obtain ⟨h1,h2,h3⟩:=h;simp only [A1f,B7O];by_cases hi:c.2.1<(List.length c.1:Int)
 ·simp only [A0 hi,A0 h2,cond_true];refine ⟨_,_,rfl,⟨h1,?_,?_⟩,D26 _⟩
  ·simp only;rw [w64 (by omega) (by omega)];omega
  ·simp only;rw [w64 (by omega) (by omega)];omega
 ·simp only [A3 hi,cond_false];exact ⟨_,_,rfl,⟨h1,h2,h3⟩,D26 _⟩
theorem A8O(c:H7)(n:Int)(h:Cur c)(hn:0<n∧n<9223372036854775808):∃ r c',L9 c n=some (r,c',())∧Cur c'∧0≤r∧r<n:=by
 simp only [L9,A90];rw [A3 (show ¬ n≤0 by omega)];have hz:(n == 0)=false:=by simp;omega
 simp only [cond_false,hz];by_cases h1:n≤256
 ·rw [A0 h1];obtain ⟨r,c',e,hc,hr⟩:=B0k c h;simp only [cond_true,e,A4];refine ⟨_,_,rfl,hc,?_⟩;rw [Int.tmod_eq_emod_of_nonneg hr.1];exact ⟨Int.emod_nonneg _ (by omega),Int.emod_lt_of_pos _ (by omega)⟩
 ·rw [A3 h1];obtain ⟨r1,c1,e1,hc1,hr1⟩:=B0k c h;obtain ⟨r2,c2,e2,hc2,hr2⟩:=B0k c1 hc1;obtain ⟨r3,c3,e3,hc3,hr3⟩:=B0k c2 hc2;simp only [cond_false,e1,e2,e3,A4];refine ⟨_,_,rfl,hc3,?_⟩;rw [w64 (n:=r1*65536) (by omega) (by omega),w64 (n:=r2*256) (by omega) (by omega),w64 (n:=r1*65536+r2*256) (by omega) (by omega),w64 (n:=r1*65536+r2*256+r3) (by omega) (by omega)];rw [Int.tmod_eq_emod_of_nonneg (by omega)];exact ⟨Int.emod_nonneg _ (by omega),Int.emod_lt_of_pos _ (by omega)⟩
theorem D27(c:H7)(xs:List Int)(h:Cur c)(hx:0<xs.length∧xs.length≤1048576):∃ s c',A5T c xs=some (s,c',())∧Cur c'∧s∈xs:=by
 obtain ⟨r,c',e,hc,h0,h1⟩:=A8O c (xs.length:Int) h (by omega);simp only [A5T,C0R,e,A4,A0 h0,A0 h1,cond_true];refine ⟨_,_,rfl,hc,?_⟩;obtain ⟨n,rfl⟩:∃ n:Nat,r=(n:Int):=⟨r.toNat,by omega⟩;rw [B2M (by omega)];exact List.getElem_mem _
theorem wrap_u8(x:Int):0≤IntKind.u8.wrap x∧IntKind.u8.wrap x<256:=by
 simp only [IntKind.wrap,IntKind.bits,IntKind.signed];simp;omega
theorem D5E(c:H7)(n:Int)(h:Cur c)(hn:0≤n∧n≤1048576):∃ b c',R5 c n=some (b,c',())∧Cur c'∧(List.length b:Int)=n∧Byt b:=by
 simp only [R5,A5e];obtain ⟨z,e,hz⟩:=Y4 (A3h A1f n) (fun l=>(n-l.1).toNat) (fun l=>0≤l.1∧l.1≤n∧Cur (l.2.1,l.2.2.1,l.2.2.2.1)∧(List.length l.2.2.2.2.1:Int)=l.1∧Byt l.2.2.2.2.1)
  (fun z=>Cur z.2.1∧(List.length z.1:Int)=n∧Byt z.1) (fun l hl=>by
   obtain ⟨h0,h1,hc,hlen,hb⟩:=hl;simp only [A3h];by_cases hi:l.1<n
   ·obtain ⟨r,c',e,hc',hr⟩:=B0k _ hc;refine .inl ⟨(l.1+1,c'.1,c'.2.1,c'.2.2,l.2.2.2.2.1 ++ [IntKind.u8.wrap r],()),?_,⟨by simp only;omega,by simp only;omega,hc',by simp;omega,?_⟩,by simp only;omega⟩
    ·rw [A0 hi,e];simp only [cond_true,A4];rw [A0 (by simp;omega),A0 (by simp;omega),w64 (by omega) (by omega)];rfl
    ·intro x hx;rcases List.mem_append.1 hx with hx | hx
     ·exact hb x hx
     ·rw [List.mem_singleton.1 hx];exact wrap_u8 _
   ·rw [A3 hi];exact .inr ⟨_,rfl,hc,by simp only;omega,hb⟩) (0,c.1,c.2.1,c.2.2,[],()) ⟨by simp,hn.1,h,by simp,fun x hx=>by cases hx⟩
 exact ⟨z.1,z.2.1,e,hz⟩
theorem E0p(a:List Int)(h:a.length≤1048576):∃ c,B0d a=some (c,())∧Cur c:=by
 simp only [B0d,C0N];obtain ⟨z,e,_⟩:=Y4 (B44 a) (fun l=>((a.length:Int)-l.2.1).toNat) (fun l=>0≤l.2.1) (fun _=>True) (fun l hl=>by
  simp only [B44];by_cases hi:l.2.1<(a.length:Int)
  ·by_cases h4:l.2.1<4000
   ·rw [A0 hi,A0 h4];simp only [cond_true,B7];rw [A0 hl,w64 (n:=l.2.1+1) (by omega) (by omega)];exact .inl ⟨_,rfl,by simp only;omega,by simp only;omega⟩
   ·rw [A0 hi,A3 h4];exact .inr ⟨_,rfl,trivial⟩
  ·rw [A3 hi];exact .inr ⟨_,rfl,trivial⟩) (IntKind.i64.wrap (369369+(a.length:Int)),0,()) (by simp)
 rw [e];exact ⟨_,rfl,h,by simp,by simp⟩
def Q0(r:H5):Bool:=
 decide (0≤r.1∧r.1≤10000)&&decide (0≤r.2.1∧r.2.1≤199)&&idB r.2.2.2.1 &&
 (if r.2.2.1=1 then decide (0≤r.2.2.2.2.1∧r.2.2.2.2.1≤1000000000)&&decide ((List.length r.2.2.2.2.2:Int)=0)
  else if r.2.2.1=2 then decide (0≤r.2.2.2.2.1∧r.2.2.2.2.1≤1000000000)&&decide (1≤(List.length r.2.2.2.2.2:Int)∧(List.length r.2.2.2.2.2:Int)≤24)
  else if r.2.2.1=3∨r.2.2.1=4 then decide (r.2.2.2.2.1=0)&&decide ((List.length r.2.2.2.2.2:Int)=0) else false)
theorem D5F(r:H5)(h:r.2.2.2.1.size≤maxLen):B0f r=some (Q0 r,()):=by
 simp only [B0f,C0P,A8N _ h,N1,A4,Q0];cases decide (0≤r.1∧r.1≤10000)
 ·rfl
 cases decide (0≤r.2.1∧r.2.1≤199)
 ·rfl
 cases idB r.2.2.2.1
 ·rfl
 simp only [Bool.not_true,cond_false,B7,Bool.true_and];by_cases h1:r.2.2.1=1
 ·rw [A0 h1,if_pos h1];cases decide (0≤r.2.2.2.2.1∧r.2.2.2.2.1≤1000000000)<;>rfl
 rw [A3 h1,if_neg h1];by_cases h2:r.2.2.1=2
 ·rw [A0 h2,if_pos h2];cases decide (0≤r.2.2.2.2.1∧r.2.2.2.2.1≤1000000000)<;>rfl
 rw [A3 h2,if_neg h2];by_cases h3:r.2.2.1=3
 ·rw [A0 h3,if_pos (.inl h3)];cases decide (r.2.2.2.2.1=0)<;>rfl
 rw [A3 h3];by_cases h4:r.2.2.1=4
 ·rw [A0 h4,if_pos (.inr h4)];cases decide (r.2.2.2.2.1=0)<;>rfl
 rw [A3 h4,if_neg (by omega)];rfl
theorem C51(r:H5)(h:r.2.2.2.1.size≤maxLen):A5V r=some (Q0 r,()):=by
 simp only [A5V,C0T,A1o,A9H,B2N _ h,L3,A4,Q0];cases decide (0≤r.1∧r.1≤10000)
 ·rfl
 cases decide (0≤r.2.1∧r.2.1≤199)
 ·rfl
 by_cases hk:1≤r.2.2.1∧r.2.2.1≤4
 ·rw [A0 hk];cases idB r.2.2.2.1
  ·rfl
  simp only [Bool.not_true,cond_false,B7,Bool.true_and];by_cases h1:r.2.2.1=1
  ·rw [A0 h1,if_pos h1];cases decide (0≤r.2.2.2.2.1∧r.2.2.2.2.1≤1000000000)<;>rfl
  rw [A3 h1,if_neg h1];by_cases h2:r.2.2.1=2
  ·rw [A0 h2,if_pos h2];cases decide (0≤r.2.2.2.2.1∧r.2.2.2.2.1≤1000000000)<;>rfl
  rw [A3 h2,if_neg h2,if_pos (by omega)];cases decide (r.2.2.2.2.1=0)<;>rfl
 ·rw [A3 hk,if_neg (by omega),if_neg (by omega),if_neg (by omega)];cases idB r.2.2.2.1<;>rfl
theorem A0T{r:H5}(h:Q0 r=true):0≤r.1∧r.1≤10000∧1≤r.2.2.1∧r.2.2.1≤4∧r.2.2.2.1.size≤8∧0≤r.2.2.2.2.1∧r.2.2.2.2.1≤1000000000∧List.length r.2.2.2.2.2≤24:=by
 simp only [Q0,idB,Bool.and_eq_true,decide_eq_true_eq] at h;obtain ⟨⟨⟨h1,h2⟩,h3,h4⟩,h5⟩:=h;split at h5
 ·simp only [Bool.and_eq_true,decide_eq_true_eq] at h5;omega
 ·split at h5
  ·simp only [Bool.and_eq_true,decide_eq_true_eq] at h5;omega
  ·split at h5
   ·simp only [Bool.and_eq_true,decide_eq_true_eq] at h5;omega
   ·cases h5
theorem D0D{a b:List Int}(ha:Byt a)(hb:Byt b):Byt (a++b):=fun x hx=>(List.mem_append.1 hx).elim (ha x) (hb x)
theorem D7P(n:Int)(k:Nat):Byt (big n k):=by
 intro x hx;obtain ⟨j,_,rfl⟩:=List.mem_map.1 hx;exact wrap_u8 _
theorem A9R(s:ByteArray):Byt (bytesOf s):=by
 intro x hx;obtain ⟨b,_,rfl⟩:=List.mem_map.1 hx;have:=b.toNat_lt;omega
theorem T4:Byt []:=fun x hx=>by cases hx
theorem A4i{a:List Int}(h:Byt a)(i:Nat):Byt (a.drop i):=fun x hx=>h x (List.mem_of_mem_drop hx)
def B3a(r:H5):List Int:=
 big (A0R r.1) 3++big (A0R r.2.1) 2++big (A0R r.2.2.1) 1++big (A0R (r.2.2.2.1.size:Int)) 1++bytesOf r.2.2.2.1++big (A0R r.2.2.2.2.1) 4++big (A0R (List.length r.2.2.2.2.2:Int)) 1++r.2.2.2.2.2
def E3h(b:List Int):Int:=((A2t b ^^^ 4294967295:Nat):Int)
def X2(r:H5):ByteArray:=strOf (B3a r++big (A0R (E3h (B3a r))) 4)
theorem B4T(r:H5):(B3a r).length=12+r.2.2.2.1.size+List.length r.2.2.2.2.2:=by
 simp only [B3a,List.length_append,J9,bytesOf_length];omega
theorem C52(r:H5)(h:Byt r.2.2.2.2.2):Byt (B3a r):=by
 unfold B3a
 repeat' first | apply D0D | apply D7P | apply A9R | exact h
theorem C1u(r:H5)(h1:r.2.2.2.1.size≤10000000)(h2:List.length r.2.2.2.2.2≤10000000)(hb:Byt r.2.2.2.2.2):A3b r=some (X2 r,()):=by
 have hlen:=B4T r;simp only [A3b,B7S];rw [show (3:Int)=((3:Nat):Int) from rfl,A21 [] _ 3 (by omega) (by omega) (by simp)];simp only [A4,List.nil_append];rw [show (2:Int)=((2:Nat):Int) from rfl,A21 _ _ 2 (by omega) (by omega) (by simp [J9])];simp only;rw [show (1:Int)=((1:Nat):Int) from rfl,A21 _ _ 1 (by omega) (by omega) (by simp [J9])];simp only;rw [A21 _ _ 1 (by omega) (by omega) (by simp [J9])];simp only;rw [A0 (by simp [J9];omega)];simp only [cond_true];rw [show (4:Int)=((4:Nat):Int) from rfl,A21 _ _ 4 (by omega) (by omega) (by simp [J9,bytesOf_length];omega)];simp only;rw [A21 _ _ 1 (by omega) (by omega) (by simp [J9,bytesOf_length];omega)];simp only;rw [A0 (by simp [J9,bytesOf_length];omega),A0 (by simp [J9,bytesOf_length];omega)];simp only [cond_true];have e:big (A0R r.1) 3++big (A0R r.2.1) 2++big (A0R r.2.2.1) 1++big (A0R (r.2.2.2.1.size:Int)) 1++bytesOf r.2.2.2.1++big (A0R r.2.2.2.2.1) 4++big (A0R (List.length r.2.2.2.2.2:Int)) 1++r.2.2.2.2.2=B3a r:=rfl;rw [e,C4y _ (C52 r hb) (by rw [hlen];simp only [maxLen];omega)];simp only;rw [A21 _ _ 4 (by omega) (by omega) (by rw [hlen];omega)];rfl
theorem D0E(n:Int):big n 1 = [IntKind.u8.wrap n]:=by
 simp [big,C4v]
theorem A4j{n:Int}(h:0≤n):A0R n=n:=by unfold A0R;rw [if_neg (by omega)]
theorem C1v(r:H5)(h1:r.2.2.2.1.size≤maxLen)(hb:Byt r.2.2.2.2.2):A3e r=some (if Q0 r then X2 r else ⟨#[]⟩,()):=by
 simp only [A3e,B7d,C51 r h1];cases hr:Q0 r with
 | false=>rfl
 | true=>
  have hbd:=A0T hr;have hlen:=B4T r;simp only [A4,Bool.not_true,cond_false];rw [show (3:Int)=((3:Nat):Int) from rfl,A9O [] _ 3 (by omega) (by simp)];simp only [List.nil_append];rw [show (2:Int)=((2:Nat):Int) from rfl,A9O _ _ 2 (by omega) (by simp [J9])];simp only;rw [A0 (by simp [J9]),A0 (by simp [J9])];simp only [cond_true];rw [A0 (by simp [J9];omega)];simp only [cond_true];rw [show (4:Int)=((4:Nat):Int) from rfl,A9O _ _ 4 (by omega) (by simp [J9,bytesOf_length];omega)];simp only;rw [A0 (by simp [J9,bytesOf_length];omega),A0 (by simp [J9,bytesOf_length];omega)];simp only [cond_true];rw [A0 (by simp [J9,bytesOf_length];omega),A0 (by simp [J9,bytesOf_length];omega)];simp only [cond_true];have e:big (A0R r.1) 3++big (A0R r.2.1) 2 ++ [IntKind.u8.wrap r.2.2.1,IntKind.u8.wrap (r.2.2.2.1.size:Int)]++bytesOf r.2.2.2.1++big (A0R r.2.2.2.2.1) 4 ++ [IntKind.u8.wrap (List.length r.2.2.2.2.2:Int)]++r.2.2.2.2.2=B3a r:=by
   unfold B3a;rw [D0E,D0E,D0E,A4j (n:=r.2.2.1) (by omega),A4j (n:=(r.2.2.2.1.size:Int)) (by omega),A4j (n:=(List.length r.2.2.2.2.2:Int)) (by omega)];simp [List.append_assoc]
  rw [e,C4z _ (C52 r hb) (by rw [hlen];simp only [maxLen];omega)];simp only;rw [A9O _ _ 4 (by omega) (by rw [hlen];omega)];rfl
def D9(b:List Int):Nat:=X9 b 6 1
def P2(b:List Int):Nat:=X9 b (11+D9 b) 1
def recAt(b:List Int):H5:=((X9 b 0 3:Int),(X9 b 3 2:Int),(X9 b 5 1:Int),strOf ((b.take (7+D9 b)).drop 7),(X9 b (7+D9 b) 4:Int),(b.take (12+D9 b+P2 b)).drop (12+D9 b))
def D7Q:H5×Bool×Unit:=((0,0,0,⟨#[]⟩,0,[]),false,())
def A9S(s:ByteArray):Bool:=decide (12+D9 (bytesOf s)+P2 (bytesOf s)≤s.size)&&Q0 (recAt (bytesOf s))&&((X2 (recAt (bytesOf s))).toList == s.toList)
def D4(s:ByteArray):H5×Bool×Unit:=if A9S s=true then (recAt (bytesOf s),true,()) else D7Q
theorem A5h(b:List Int)(a k:Nat)(h:a+k≤b.length):A5g b (a:Int) k=((X9 b a k:Int),true,()):=by
 unfold A5g;rw [if_pos (by omega),Int.toNat_natCast]
theorem C0a(b:List Int)(a k:Nat)(h:¬ a+k≤b.length):A5g b (a:Int) k=(0,false,()):=by
 unfold A5g;rw [if_neg (by omega)]
theorem C41{b:List Int}(hb:Byt b)(a:Nat):X9 b a 1<256:=by
 have:=D0C hb a 1;omega
theorem C8z(b:List Int)(h:12+D9 b+P2 b≤b.length):(recAt b).2.2.2.1.size=D9 b∧List.length (recAt b).2.2.2.2.2=P2 b:=by
 simp only [recAt,B2O,List.length_drop,List.length_take];omega
theorem C0b{b:List Int}(hb:Byt b):Byt (recAt b).2.2.2.2.2:=A4i (A22 hb _) _
theorem A6Y(s:ByteArray)(hs:s.size≤1048576):L0 s=some (D4 s):=by
 have hbl:=bytesOf_length s;have hb:=A9R s;have hh:(bytesOf s).length≤1048576:=by omega
 have hsz:s.size=(bytesOf s).length:=hbl.symm;simp only [D4,A9S,hsz];have hlen:decide ((bytesOf s).length≤9223372036854775807)=true:=A0 (by omega);simp only [L0,B7T,hsz,hlen,cond_true]
 clear hlen hsz
 generalize bytesOf s=b at hb hh ⊢
 clear hbl
 have g0:∀ (a:Int) (k:Nat) (k':Int),k' = (k:Int)→1≤k∧k≤7→A5M b a k' = some (A5g b a k):=fun a k k' e hk=>by rw [e];exact D25 b hb hh a k hk
 have q0:=g0 0 3 3 rfl (by omega);have q3:=g0 3 2 2 rfl (by omega);have q5:=g0 5 1 1 rfl (by omega);have q6:=g0 6 1 1 rfl (by omega);simp only [q0,q3,q5,q6];by_cases c1:7≤b.length
 ·have e0:=A5h b 0 3 (by omega);have e3:=A5h b 3 2 (by omega);have e5:=A5h b 5 1 (by omega);have e6:=A5h b 6 1 (by omega);simp only [Int.cast_ofNat_Int] at e0 e3 e5 e6;have hn:=C41 hb 6;have hN:(X9 b 6 1:Int)=((D9 b:Nat):Int):=rfl;have hn':D9 b<256:=hn;simp only [e0,e3,e5,e6,A4,Bool.not_true,cond_false,hN];rw [w64 (n:=7+(D9 b:Int)) (by omega) (by omega),w64 (n:=11+(D9 b:Int)) (by omega) (by omega),w64 (n:=12+(D9 b:Int)) (by omega) (by omega)];by_cases c2:7+D9 b≤b.length
  ·rw [A3 (show ¬ 7+(D9 b:Int)>(b.length:Int) by omega)];simp only [cond_false,B7];rw [A0 (show 7≤7+(D9 b:Int) by omega),A0 (show 7+(D9 b:Int)≤(b.length:Int) by omega)];simp only [cond_true];have q7:=g0 (7+(D9 b:Int)) 4 4 rfl (by omega);have q11:=g0 (11+(D9 b:Int)) 1 1 rfl (by omega);simp only [q7,q11];by_cases c3:12+D9 b≤b.length
   ·have e7:=A5h b (7+D9 b) 4 (by omega);have e11:=A5h b (11+D9 b) 1 (by omega);simp only [Int.natCast_add,Int.cast_ofNat_Int] at e7 e11;have hm:P2 b<256:=C41 hb _;have hM:(X9 b (11+D9 b) 1:Int)=((P2 b:Nat):Int):=rfl;simp only [e7,e11,Bool.not_true,cond_false,hM];rw [w64 (n:=12+(D9 b:Int)+(P2 b:Int)) (by omega) (by omega)];by_cases c4:12+D9 b+P2 b≤b.length
    ·rw [A3 (show ¬ 12+(D9 b:Int)+(P2 b:Int)>(b.length:Int) by omega),A0 (show 0≤12+(D9 b:Int) by omega),A0 (show 12+(D9 b:Int)≤12+(D9 b:Int)+(P2 b:Int) by omega),A0 (show 12+(D9 b:Int)+(P2 b:Int)≤(b.length:Int) by omega)];simp only [cond_true,cond_false];rw [A0 (by simp;omega),A0 (by simp;omega)];have t1:(7+(D9 b:Int)).toNat=7+D9 b:=by omega
     have t2:(12+(D9 b:Int)+(P2 b:Int)).toNat=12+D9 b+P2 b:=by omega
     have t3:(12+(D9 b:Int)).toNat=12+D9 b:=by omega
     simp only [cond_true,List.nil_append,t1,t2,t3];have hr:(((X9 b 0 3:Nat):Int),((X9 b 3 2:Nat):Int),((X9 b 5 1:Nat):Int),strOf ((b.take (7+D9 b)).drop 7),((X9 b (7+D9 b) 4:Nat):Int),(b.take (12+D9 b+P2 b)).drop (12+D9 b))=recAt b:=rfl;obtain ⟨l1,l2⟩:=C8z b c4;rw [hr,D5F _ (by rw [l1];simp only [maxLen];omega),C1u _ (by rw [l1];omega) (by rw [l2];omega) (C0b hb)];rw [A0 c4];simp only [Bool.true_and];cases Q0 (recAt b)
     ·rfl
     ·cases hp:((X2 (recAt b)).toList == s.toList)
      ·rfl
      ·rfl
    ·rw [A0 (show 12+(D9 b:Int)+(P2 b:Int)>(b.length:Int) by omega),A3 c4];rfl
   ·have e11:=C0a b (11+D9 b) 1 (by omega);simp only [Int.natCast_add,Int.cast_ofNat_Int] at e11;simp only [e11];rw [A3 (show ¬ 12+D9 b+P2 b≤b.length by omega)];cases (A5g b (7+(D9 b:Int)) 4).2.1<;>rfl
  ·rw [A0 (show 7+(D9 b:Int)>(b.length:Int) by omega),A3 (show ¬ 12+D9 b+P2 b≤b.length by omega)];rfl
 ·have e6:=C0a b 6 1 (by omega);simp only [Int.cast_ofNat_Int] at e6;rw [A3 (show ¬ 12+D9 b+P2 b≤b.length by omega)];simp only [e6,A4];cases (A5g b 0 3).2.1<;>cases (A5g b 3 2).2.1<;>cases (A5g b 5 1).2.1<;>rfl
theorem A13{b:List Int}(hb:Byt b)(hh:b.length≤1048576)(a k:Nat)(k':Int)(e:k' = (k:Int))(hk:1≤k∧k≤7)(h:a+k≤b.length):D7 (b,(a:Int),false) k' = some ((X9 b a k:Int),(b,((a+k:Nat):Int),false),()):=by
 subst e;simp only [D7,Q7,B4S b hb hh _ k hk,A5h b a k h,A4,B7,Bool.not_true,cond_false];rw [w64 (by omega) (by omega)];rfl
theorem A7i{b:List Int}(hb:Byt b)(hh:b.length≤1048576)(a k:Nat)(k':Int)(e:k' = (k:Int))(hk:1≤k∧k≤7)(h:¬ a+k≤b.length):D7 (b,(a:Int),false) k' = some (0,(b,(a:Int),true),()):=by
 subst e;simp only [D7,Q7,B4S b hb hh _ k hk,C0a b a k h,A4,B7,Bool.not_false,cond_false,cond_true]
theorem E2W{b:List Int}(hb:Byt b)(hh:b.length≤1048576)(a:Int)(k:Nat)(k':Int)(e:k' = (k:Int))(hk:1≤k∧k≤7):D7 (b,a,true) k' = some (0,(b,a,true),()):=by
 subst e;simp only [D7,Q7,B4S b hb hh _ k hk,A4,B7,cond_true]
theorem E0q(b:List Int)(a n:Int):I2 (b,a,true) n=some ([],(b,a,true),()):=by
 simp only [I2,U1,cond_true,B7]
theorem C0c{b:List Int}(hh:b.length≤1048576)(a n:Nat)(h:a+n≤b.length):I2 (b,(a:Int),false) (n:Int)=some ((b.take (a+n)).drop a,(b,((a+n:Nat):Int),false),()):=by
 simp only [I2,U1,cond_false];rw [w64 (n:=(b.length:Int)-(a:Int)) (by omega) (by omega),A3 (by omega),w64 (n:=(a:Int)+(n:Int)) (by omega) (by omega),w64 (n:=(a:Int)+(n:Int)-(n:Int)) (by omega) (by omega)];simp only [cond_false,B7];rw [A0 (by omega),A0 (by omega),A0 (by omega)];simp only [cond_true];rw [A1D _ (by simp;omega),show ((a:Int)+(n:Int)).toNat=a+n by omega,show ((a:Int)+(n:Int)-(n:Int)).toNat=a by omega];rfl
theorem C53{b:List Int}(hh:b.length≤1048576)(a n:Nat)(ha:a≤b.length)(h:¬ a+n≤b.length):I2 (b,(a:Int),false) (n:Int)=some ([],(b,(a:Int),true),()):=by
 simp only [I2,U1,cond_false];rw [w64 (n:=(b.length:Int)-(a:Int)) (by omega) (by omega),A0 (by omega)];rfl
theorem B4U(s:ByteArray)(hs:s.size≤1048576):A0m s=some (D4 s):=by
 have hbl:=bytesOf_length s;have hb:=A9R s;have hh:(bytesOf s).length≤1048576:=by omega
 have hsz:s.size=(bytesOf s).length:=hbl.symm;simp only [D4,A9S,hsz];have hlen:decide ((bytesOf s).length≤9223372036854775807)=true:=A0 (by omega);simp only [A0m,B7e,hsz,hlen,cond_true]
 clear hlen hsz
 generalize bytesOf s=b at hb hh ⊢
 clear hbl
 have nb:∀ (a:Int) (k:Nat) (k':Int),k' = (k:Int)→1≤k∧k≤7→D7 (b,a,true) k' = some (0,(b,a,true),()):=fun a k k' e hk=>E2W hb hh a k k' e hk
 have nb1:∀ a:Int,D7 (b,a,true) 1=some (0,(b,a,true),()):=fun a=>nb a 1 1 rfl (by omega)
 have nb2:∀ a:Int,D7 (b,a,true) 2=some (0,(b,a,true),()):=fun a=>nb a 2 2 rfl (by omega)
 have nb4:∀ a:Int,D7 (b,a,true) 4=some (0,(b,a,true),()):=fun a=>nb a 4 4 rfl (by omega)
 have tb:=E0q b;have z0:((0:Int),false)=(((0:Nat):Int),false):=rfl;rw [z0];by_cases c4:12+D9 b+P2 b≤b.length
 ·have hn':D9 b<256:=C41 hb _;have hm':P2 b<256:=C41 hb _;have hN:(X9 b 6 1:Int)=((D9 b:Nat):Int):=rfl;have hM:(X9 b (11+D9 b) 1:Int)=((P2 b:Nat):Int):=rfl;rw [A13 hb hh 0 3 3 rfl (by omega) (by omega)];simp only [A4];rw [A13 hb hh (0+3) 2 2 rfl (by omega) (by omega)];simp only;rw [A13 hb hh (0+3+2) 1 1 rfl (by omega) (by omega)];simp only;rw [A13 hb hh (0+3+2+1) 1 1 rfl (by omega) (by omega)];simp only [Nat.zero_add,Nat.reduceAdd,hN];rw [C0c hh 7 (D9 b) (by omega)];simp only;rw [A13 hb hh (7+D9 b) 4 4 rfl (by omega) (by omega)];simp only;rw [A13 hb hh (7+D9 b+4) 1 1 rfl (by omega) (by omega)];simp only;rw [show 7+D9 b+4=11+D9 b by omega,hM,show 11+D9 b+1=12+D9 b by omega,C0c hh (12+D9 b) (P2 b) (by omega)];simp only [cond_false];have hr:(((X9 b 0 3:Nat):Int),((X9 b 3 2:Nat):Int),((X9 b 5 1:Nat):Int),strOf ((b.take (7+D9 b)).drop 7),((X9 b (7+D9 b) 4:Nat):Int),(b.take (12+D9 b+P2 b)).drop (12+D9 b))=recAt b:=rfl;obtain ⟨l1,l2⟩:=C8z b c4;rw [hr,C51 _ (by rw [l1];simp only [maxLen];omega),C1v _ (by rw [l1];simp only [maxLen];omega) (C0b hb)];rw [A0 c4];simp only [Bool.true_and];cases Q0 (recAt b)
  ·rfl
  ·cases hp:((X2 (recAt b)).toList == s.toList)
   ·simp [hp];rfl
   ·simp [hp]
 ·rw [A3 c4];have fin:(if (false&&Q0 (recAt b)&&((X2 (recAt b)).toList == s.toList))=true then (recAt b,true,()) else D7Q)=D7Q:=by simp
  rw [fin];rcases Nat.lt_or_ge b.length (0+3) with d3 | d3
  ·rw [A7i hb hh 0 3 3 rfl (by omega) (by omega)];simp only [A4,nb1,nb2,nb4,tb];rfl
  rw [A13 hb hh 0 3 3 rfl (by omega) d3];simp only [A4];rcases Nat.lt_or_ge b.length (0+3+2) with d5 | d5
  ·rw [A7i hb hh (0+3) 2 2 rfl (by omega) (by omega)];simp only [nb1,nb2,nb4,tb];rfl
  rw [A13 hb hh (0+3) 2 2 rfl (by omega) d5];simp only;rcases Nat.lt_or_ge b.length (0+3+2+1) with d6 | d6
  ·rw [A7i hb hh (0+3+2) 1 1 rfl (by omega) (by omega)];simp only [nb1,nb2,nb4,tb];rfl
  rw [A13 hb hh (0+3+2) 1 1 rfl (by omega) d6];simp only;rcases Nat.lt_or_ge b.length (0+3+2+1+1) with d7 | d7
  ·rw [A7i hb hh (0+3+2+1) 1 1 rfl (by omega) (by omega)];simp only [nb1,nb2,nb4,tb];rfl
  rw [A13 hb hh (0+3+2+1) 1 1 rfl (by omega) d7];have hN:(X9 b 6 1:Int)=((D9 b:Nat):Int):=rfl;have hM:(X9 b (11+D9 b) 1:Int)=((P2 b:Nat):Int):=rfl;simp only [Nat.zero_add,Nat.reduceAdd,hN];rcases Nat.lt_or_ge b.length (7+D9 b) with e7 | e7
  ·rw [C53 hh 7 (D9 b) (by omega) (by omega)];simp only [nb1,nb2,nb4,tb];rfl
  rw [C0c hh 7 (D9 b) e7];simp only;rcases Nat.lt_or_ge b.length (7+D9 b+4) with e11 | e11
  ·rw [A7i hb hh (7+D9 b) 4 4 rfl (by omega) (by omega)];simp only [nb1,nb2,nb4,tb];rfl
  rw [A13 hb hh (7+D9 b) 4 4 rfl (by omega) e11];simp only;rcases Nat.lt_or_ge b.length (7+D9 b+4+1) with e12 | e12
  ·rw [A7i hb hh (7+D9 b+4) 1 1 rfl (by omega) (by omega)];simp only [nb1,nb2,nb4,tb];rfl
  rw [A13 hb hh (7+D9 b+4) 1 1 rfl (by omega) e12];simp only;rw [show 7+D9 b+4=11+D9 b by omega,hM,show 11+D9 b+1=12+D9 b by omega,C53 hh (12+D9 b) (P2 b) (by omega) c4];rfl
theorem A1E:∀ x:List UInt8,Op.bytesLess x x=false
 | []=>rfl
 | a::x=>by
  have h:¬ a<a:=UInt8.lt_irrefl a;simp [Op.bytesLess,A1E x,h]
theorem B8h:∀ {x y z:List UInt8},Op.bytesLess x y=true→Op.bytesLess y z=true→Op.bytesLess x z=true
 | _,[],_,h,_=>by cases ‹List UInt8›<;>simp [Op.bytesLess] at h
 | _,_::_,[],_,h=>by simp [Op.bytesLess] at h
 | [],_::_,_::_,_,_=>rfl
 | a::x,b::y,c::z,h1,h2=>by
  simp only [Op.bytesLess,Bool.or_eq_true,Bool.and_eq_true,decide_eq_true_eq,beq_iff_eq] at h1 h2 ⊢;rcases h1 with h1 | ⟨rfl,h1⟩
  ·rcases h2 with h2 | ⟨rfl,h2⟩
   ·exact .inl (UInt8.lt_trans h1 h2)
   ·exact .inl h1
  ·rcases h2 with h2 | ⟨rfl,h2⟩
   ·exact .inl h2
   ·exact .inr ⟨rfl,B8h h1 h2⟩
theorem D28:∀ {x y:List UInt8},Op.bytesLess x y=false→Op.bytesLess y x=false→x=y
 | [],[],_,_=>rfl
 | [],_::_,h,_=>by simp [Op.bytesLess] at h
 | _::_,[],_,h=>by simp [Op.bytesLess] at h
 | a::x,b::y,h1,h2=>by
  simp only [Op.bytesLess,Bool.or_eq_false_iff,decide_eq_false_iff_not,Bool.and_eq_false_iff,beq_eq_false_iff_ne] at h1 h2;have hab:a=b:=by
   apply UInt8.le_antisymm
   ·exact UInt8.not_lt.1 h2.1
   ·exact UInt8.not_lt.1 h1.1
  subst hab;exact congrArg (a::·) (D28 (by simpa using h1.2) (by simpa using h2.2))
theorem E0r{x y:List UInt8}(h:Op.bytesLess x y=true):Op.bytesLess y x=false:=by
 cases e:Op.bytesLess y x with
 | false=>rfl
 | true=>have:=B8h h e;rw [A1E] at this;cases this
def Ord(us:List TUp):Prop:=us.Pairwise fun a b=>Op.bytesLess a.1.toList b.1.toList=true
theorem D0F{us:List TUp}(h:Ord us){i j:Nat}(hij:i<j)(hj:j<us.length):Op.bytesLess (us[i]'(by omega)).1.toList us[j].1.toList=true:=List.pairwise_iff_getElem.1 h i j (by omega) hj hij
def A9(us:List TUp)(id:ByteArray):Nat:=O3 (fun i=>Op.bytesLess (rd kUp us (i:Int)).1.toList id.toList) 0 us.length
def F5(us:List TUp)(id:ByteArray):Bool:=decide (A9 us id<us.length)&&((rd kUp us (A9 us id:Int)).1.toList == id.toList)
theorem A6Z(go:Nat→Bool):∀ k i j,i≤j→j<O3 go i k→go j=true
 | 0,i,j,h1,h2=>by simp only [O3] at h2;omega
 | k+1,i,j,h1,h2=>by
  simp only [O3] at h2;split at h2
  ·rename_i hg;by_cases e:j=i
   ·rw [e];exact hg
   ·exact A6Z go k (i+1) j (by omega) h2
  ·omega
theorem A6a(go:Nat→Bool)(n p:Nat)(hp:p≤n)(h1:∀ j,j<p→go j=true)(h2:p<n→go p=false):O3 go 0 n=p:=by
 have hl:=C0V go n 0;rcases Nat.lt_trichotomy (O3 go 0 n) p with h | h | h
 ·have:=A2U go n 0 (by omega);rw [h1 _ h] at this;cases this
 ·exact h
 ·have:=A6Z go n 0 p (by omega) h;rw [h2 (by omega)] at this;cases this
theorem A4k(us:List TUp)(id:ByteArray):A9 us id≤us.length:=by have:=C0V (fun i=>Op.bytesLess (rd kUp us (i:Int)).1.toList id.toList) us.length 0;unfold A9;omega
theorem B0l{us:List TUp}{id:ByteArray}{j:Nat}(hj:j<A9 us id):Op.bytesLess (us[j]'(by have:=A4k us id;omega)).1.toList id.toList=true:=by
 have:=A6Z _ us.length 0 j (by omega) hj
 rwa [C3 (k:=kUp) (xs:=us) (by have:=A4k us id;omega)] at this
theorem B8i{us:List TUp}{id:ByteArray}(h:A9 us id<us.length):Op.bytesLess us[A9 us id].1.toList id.toList=false:=by
 have:=A2U (fun i=>Op.bytesLess (rd kUp us (i:Int)).1.toList id.toList) us.length 0 (by unfold A9 at h;omega);have h2:Op.bytesLess (rd kUp us (A9 us id:Int)).1.toList id.toList=false:=this
 rwa [C3 (k:=kUp) (xs:=us) h] at h2
theorem E0s{us:List TUp}(ho:Ord us){id:ByteArray}{j:Nat}(hj:A9 us id≤j)(hl:j<us.length):Op.bytesLess us[j].1.toList id.toList=false:=by
 rcases Nat.eq_or_lt_of_le hj with e | h
 ·subst e;exact B8i hl
 ·cases e:Op.bytesLess us[j].1.toList id.toList with
  | false=>rfl
  | true=>
   have:=B8h (D0F ho h hl) e;rw [B8i (by omega)] at this;cases this
theorem H4{us:List TUp}{id:ByteArray}:F5 us id=true↔∃ h:A9 us id<us.length,us[A9 us id].1.toList=id.toList:=by
 unfold F5;constructor
 ·intro h;simp only [Bool.and_eq_true,decide_eq_true_eq,beq_iff_eq] at h;refine ⟨h.1,?_⟩;have h2:=h.2
  rwa [C3 (k:=kUp) (xs:=us) h.1] at h2
 ·rintro ⟨h,e⟩;simp only [Bool.and_eq_true,decide_eq_true_eq,beq_iff_eq];refine ⟨h,?_⟩;rw [C3 (k:=kUp) (xs:=us) h];exact e
theorem B8j{us:List TUp}(ho:Ord us){id:ByteArray}(hn:F5 us id=false){j:Nat}(hj:A9 us id≤j)(hl:j<us.length):Op.bytesLess id.toList us[j].1.toList=true:=by
 cases e:Op.bytesLess id.toList us[j].1.toList with
 | true=>rfl
 | false=>
  have h1:=D28 (E0s ho hj hl) e;exfalso;rcases Nat.eq_or_lt_of_le hj with e2 | h
  ·subst e2;have:=H4.2 ⟨hl,h1⟩;rw [hn] at this;cases this
  ·have h2:=D0F ho h hl;rw [h1,B8i (by omega)] at h2;cases h2
theorem B8k{us:List TUp}(ho:Ord us){id:ByteArray}(h:F5 us id=true):B62 us id=A9 us id:=by
 obtain ⟨hl,e⟩:=H4.1 h;refine A6a _ us.length _ (A4k us id) (fun j hj=>?_) (fun _=>?_)
 ·rw [C3 (k:=kUp) (xs:=us) (by omega)];have h1:=B0l hj;cases e2:((us[j]'(by omega)).1.toList == id.toList) with
  | false=>rfl
  | true=>
   rw [eq_of_beq e2,A1E] at h1;cases h1
 ·rw [C3 (k:=kUp) (xs:=us) hl,e];simp
theorem B8l{us:List TUp}(ho:Ord us){id:ByteArray}(h:F5 us id=false):B62 us id=us.length:=by
 refine A6a _ us.length _ (Nat.le_refl _) (fun j hj=>?_) (fun h=>by omega);rw [C3 (k:=kUp) (xs:=us) hj];cases e2:(us[j].1.toList == id.toList) with
 | false=>rfl
 | true=>
  exfalso;have e3:=eq_of_beq e2;by_cases hp:j<A9 us id
  ·have h1:=B0l hp;rw [e3,A1E] at h1;cases h1
  ·have h1:=B8j ho h (show A9 us id≤j by omega) hj;rw [e3,A1E] at h1;cases h1
theorem C90(us:List TUp)(id:ByteArray)(h:us.length≤maxLen):A1s us id=some ((A9 us id:Int),F5 us id,()):=by
 simp only [A1s,B8c];have e:=A20 (A89 us id) (fun i=>((i:Int),())) us.length (fun i=>((i:Int),())) (fun i=>Op.bytesLess (rd kUp us (i:Int)).1.toList id.toList) (fun i hi=>?_) ?_
 ·have e':B8 (A89 us id) (0,())=some ((A9 us id:Int),()):=e;rw [e'];simp only [A4];have hle:=A4k us id;unfold F5;by_cases hl:A9 us id<us.length
  ·rw [A0 (show (A9 us id:Int)<(us.length:Int) by omega),A0 (show (0:Int)≤(A9 us id:Int) by omega),A0 hl];simp
  ·rw [A3 (show ¬ (A9 us id:Int)<(us.length:Int) by omega),A3 hl];simp
 ·have h1:((i:Int)<(us.length:Int)):=by omega
  have h2:(0:Int)≤(i:Int):=by omega
  simp only [A89,A0 h1,A0 h2,cond_true];rw [w64 (by omega) (by simp only [maxLen] at h;omega)];cases Op.bytesLess (rd kUp us (i:Int)).1.toList id.toList<;>simp
 ·simp [A89]
theorem B7k(us:List TUp)(h:us.length≤1048576)(hd:∀ u∈us,List.length u.2.2.1≤2000000000):M3 us=some (us,()):=by
 simp only [M3,A4E];have key:=D3 (A2E us) (fun i=>((i:Int),us.take i,())) us.length (us,()) (fun i hi=>?_) ?_
 ·simpa using key
 ·have h1:((i:Int)<(us.length:Int)):=by omega
  have h2:(0:Int)≤(i:Int):=by omega
  have hu:List.length (rd kUp us (i:Int)).2.2.1≤2000000000:=by
   rw [C3 (k:=kUp) (xs:=us) hi];exact hd _ (List.getElem_mem hi)
  have e:((rd kUp us (i:Int)).1,(rd kUp us (i:Int)).2.1,[]++(rd kUp us (i:Int)).2.2.1,(rd kUp us (i:Int)).2.2.2)=us[i]:=by
   rw [C3 (k:=kUp) (xs:=us) hi];rfl
  simp only [A2E,A0 h1,A0 h2,cond_true,e];rw [A0 (by simp;omega),A0 (by simp;omega),A0 (by simp;omega),A0 (by simp;omega),w64 (by omega) (by omega)];simp only [cond_true];rw [List.take_succ_eq_append_getElem hi];rfl
 ·simp [A2E]
theorem D5G(us:List TUp)(u:TUp)(ho:Ord us)(h:us.length≤1048576)(hd:∀ u∈us,List.length u.2.2.1≤2000000000) :
  ∃ k,k≤us.length∧O0 us u=some (us.take k++u::us.drop k,())∧(F5 us u.1=false→k=A9 us u.1):=by
 simp only [O0,A0H,B7k us h hd,A4];rw [A0 (by simp;omega),A0 (by simp;omega)];simp only [cond_true];have hst:IntKind.i64.wrap (((us ++ [u]).length:Int)-1)=(us.length:Int):=by
  rw [w64 (by simp only [List.length_append,List.length_singleton];omega) (by simp only [List.length_append,List.length_singleton];omega)];simp
 rw [hst];obtain ⟨z,e,k,hz1,hz2,hz3⟩:=Y4 (Y2 u) (fun l=>l.1.toNat)
  (fun l=>∃ (k:Nat) (c:TUp),l.1=(k:Int)∧k≤us.length∧l.2.1=us.take k++c::us.drop k∧(F5 us u.1=false→A9 us u.1≤k))
  (fun z=>∃ k:Nat,k≤us.length∧(F5 us u.1=false→k=A9 us u.1)∧∃ c,z=((k:Int),us.take k++c::us.drop k,())) (fun l hl=>by
   obtain ⟨l1,l2,l3⟩:=l;obtain ⟨k,c,h1,h2,h3,h4⟩:=hl;simp only at h1 h3;subst h1;subst h3;simp only [Y2];by_cases hk:k=0
   ·subst hk;refine .inr ⟨_,by rw [A3 (by omega)];rfl,0,by omega,fun q=>?_,c,rfl⟩;have:=h4 q;omega
   ·obtain ⟨k,rfl⟩:∃ k',k=k'+1:=⟨k-1,by omega⟩;have hlen:(us.take (k+1)++c::us.drop (k+1)).length=us.length+1:=by simp;omega
    have ew:IntKind.i64.wrap (((k+1:Nat):Int)-1)=(k:Int):=by rw [w64 (by omega) (by omega)];omega
    have hget:rd (.pair .str (.pair (.int .i64) (.pair (.rs 5 (.int .u8)) .bool))) (us.take (k+1)++c::us.drop (k+1)) (k:Int)=us[k]'(by omega):=by
     rw [C3 (k:=.pair .str (.pair (.int .i64) (.pair (.rs 5 (.int .u8)) .bool))) (xs:=us.take (k+1)++c::us.drop (k+1)) (by rw [hlen];omega)];rw [List.getElem_append_left (by simp;omega),List.getElem_take]
    rw [A0 (show ((k+1:Nat):Int)>0 by omega),ew,hlen,A0 (show (0:Int)≤(k:Int) by omega),A0 (show (k:Int)<((us.length+1:Nat):Int) by omega),hget];simp only [cond_true];have hlen2:(k:Int)+1=((k+1:Nat):Int):=by omega
    cases hc:(!(Op.bytesLess (us[k]'(by omega)).1.toList u.1.toList||((us[k]'(by omega)).1.toList == u.1.toList))) with
    | false=>
     refine Or.inr ⟨(((k+1:Nat):Int),us.take (k+1)++c::us.drop (k+1),()),rfl,k+1,h2,fun q=>?_,c,rfl⟩;have h5:=h4 q;by_cases hkp:A9 us u.1≤k
     ·have h6:=B8j ho q hkp (by omega);simp only [Bool.not_eq_false',Bool.or_eq_true,beq_iff_eq] at hc;rcases hc with hc | hc
      ·rw [E0r h6] at hc;cases hc
      ·rw [hc,A1E] at h6;cases h6
     ·omega
    | true=>
     refine Or.inl ⟨((k:Int),us.take k++(us[k]'(by omega))::us.drop k,()),?_,⟨k,us[k]'(by omega),rfl,by omega,rfl,fun q=>?_⟩,by simp only;omega⟩
     ·simp only [cond_true,B7];rw [A0 (show (0:Int)≤((k+1:Nat):Int) by omega),A0 (show ((k+1:Nat):Int)<((us.length+1:Nat):Int) by omega)];simp only [cond_true,A4,Int.toNat_natCast];have e1:(us.take (k+1)++c::us.drop (k+1)).set (k+1) (us[k]'(by omega))=us.take k++(us[k]'(by omega))::us.drop k:=by
       rw [List.set_append_right _ _ (by simp;omega)];rw [show (us.take (k+1)).length=k+1 by simp;omega,Nat.sub_self,List.set_cons_zero,List.take_succ_eq_append_getElem (by omega),List.append_assoc,List.drop_eq_getElem_cons (i:=k) (by omega)];rfl
      rw [e1]
     ·have h5:=h4 q;by_cases hkp:k<A9 us u.1
      ·have h6:=B0l hkp;rw [h6] at hc;simp at hc
      ·omega) ((us.length:Int),us ++ [u],()) ⟨us.length,u,rfl,Nat.le_refl _,by simp,fun _=>A4k us u.1⟩
 obtain ⟨c,rfl⟩:=hz3;rw [e];simp only;have hlen:(us.take k++c::us.drop k).length=us.length+1:=by simp;omega
 rw [A0 (by omega),A0 (by rw [hlen];omega)];simp only [cond_true,Int.toNat_natCast];refine ⟨k,hz1,?_,hz2⟩;rw [List.set_append_right _ _ (by simp;omega),show (us.take k).length=k by simp;omega,Nat.sub_self,List.set_cons_zero]
def B3b(r:H5):Prop:=Q0 r=true∧Byt r.2.2.2.2.2
def UpG(u:TUp):Prop:=(List.length u.2.2.1:Int)≤u.2.1∧u.2.1≤1000000000∧u.1.size≤8∧Byt u.2.2.1
def Ups(us:List TUp):Prop:=Ord us∧us.length≤10∧∀ u∈us,UpG u
theorem A9T:Ups []:=⟨List.Pairwise.nil,by simp,fun u hu=>by cases hu⟩
theorem B2P{us:List TUp}(h:Ups us):∀ u∈us,List.length u.2.2.1≤2000000000:=fun u hu=>by have h1:=(h.2.2 u hu).1;have h2:=(h.2.2 u hu).2.1;omega
def J4(us:List TUp)(r:H5):Option (List TUp):=
 let p:=A9 us r.2.2.2.1
 let u:=rd kUp us (p:Int)
 if r.2.2.1=1 then (if F5 us r.2.2.2.1=true∨10≤us.length then none else some (us.take p++(r.2.2.2.1,r.2.2.2.2.1,[],false)::us.drop p))
 else if F5 us r.2.2.2.1=false then none
 else if r.2.2.1=2 then (if u.2.2.2=true∨r.2.2.2.2.1≠(List.length u.2.2.1:Int)∨(List.length u.2.2.1:Int)+(List.length r.2.2.2.2.2:Int)>u.2.1 then none else some (us.set p (u.1,u.2.1,u.2.2.1++r.2.2.2.2.2,u.2.2.2)))
 else if r.2.2.1=3 then (if u.2.2.2=true∨(List.length u.2.2.1:Int)≠u.2.1 then none else some (us.set p (u.1,u.2.1,u.2.2.1,true)))
 else if r.2.2.1=4 then some (us.take p++us.drop (p+1))
 else none
def B2y(us:List TUp)(r:H5):List TUp×Bool×Unit:=match J4 us r with
 | some us'=>(us',true,())
 | none=>([],false,())
theorem C91(us:List TUp)(r:H5)(h:Ups us)(h2:List.length r.2.2.2.2.2≤1048576):A6T us r=some (B2y us r):=by
 have hl:=h.2.1;have hp:=A4k us r.2.2.2.1;simp only [A6T,C4s,C90 us _ (show us.length≤maxLen by simp only [maxLen];omega),A4,B2y,J4];by_cases k1:r.2.2.1=1
 ·rw [A0 k1,if_pos k1];simp only [cond_true];cases hh:F5 us r.2.2.2.1 with
  | true=>simp [B7]
  | false=>
   by_cases h10:10≤us.length
   ·rw [A0 (show (us.length:Int)≥10 by omega),if_pos (.inr h10)];rfl
   ·rw [A3 (show ¬ (us.length:Int)≥10 by omega),if_neg (by simp;omega)];simp only [cond_false,B7,K5,D7N];rw [A0 (by omega),A0 (by omega),A0 (by simp),A0 (by simp;omega)];simp [A4]
 rw [A3 k1,if_neg k1];simp only [cond_false];cases hh:F5 us r.2.2.2.1 with
 | false=>simp
 | true=>
  obtain ⟨hlt,hid⟩:=H4.1 hh;have hu:(List.length us[A9 us r.2.2.2.1].2.2.1:Int)≤us[A9 us r.2.2.2.1].2.1∧us[A9 us r.2.2.2.1].2.1≤1000000000:=⟨(h.2.2 _ (List.getElem_mem hlt)).1,(h.2.2 _ (List.getElem_mem hlt)).2.1⟩;have hrd:rd kUp us (A9 us r.2.2.2.1:Int)=us[A9 us r.2.2.2.1]:=C3 (k:=kUp) (xs:=us) hlt;simp only [Bool.not_true,cond_false,Bool.true_eq_false,if_false];rw [A0 (by omega),A0 (by omega)];simp only [cond_true,Int.toNat_natCast,hrd];generalize us[A9 us r.2.2.2.1]=u at hu hid ⊢;by_cases k2:r.2.2.1=2
  ·rw [A0 k2,if_pos k2];simp only [cond_true];cases hd:u.2.2.2 with
   | true=>simp [B7]
   | false=>
    by_cases hn:r.2.2.2.2.1=(List.length u.2.2.1:Int)
    ·rw [A0 hn,w64 (by omega) (by omega)];by_cases hw:(List.length u.2.2.1:Int)+(List.length r.2.2.2.2.2:Int)>u.2.1
     ·rw [A0 hw,if_pos (.inr (.inr hw))];rfl
     ·rw [A3 hw,if_neg (by simp [hn];omega)];simp only [Bool.not_true,cond_false,B7];rw [A0 (by omega),A0 (by omega)];rfl
    ·rw [A3 hn,if_pos (.inr (.inl hn))];rfl
  rw [A3 k2,if_neg k2];by_cases k3:r.2.2.1=3
  ·rw [A0 k3,if_pos k3];simp only [cond_true,cond_false];cases hd:u.2.2.2 with
   | true=>simp
   | false=>
    by_cases hn:(List.length u.2.2.1:Int)=u.2.1
    ·rw [A0 hn,if_neg (by simp [hn])];rfl
    ·rw [A3 hn,if_pos (.inr hn)];rfl
  rw [A3 k3,if_neg k3];by_cases k4:r.2.2.1=4
  ·rw [A0 k4,if_pos k4,w64 (n:=(A9 us r.2.2.2.1:Int)+1) (by omega) (by omega)];simp only [cond_true,cond_false,K7,B2x];rw [A0 (by omega),A0 (by omega),A0 (by omega)];simp only [cond_true,Int.toNat_natCast];rw [show ((A9 us r.2.2.2.1:Int)+1).toNat=A9 us r.2.2.2.1+1 by omega]
  rw [A3 k4,if_neg k4];rfl
theorem D29(us:List TUp)(r:H5)(h:Ups us)(h2:List.length r.2.2.2.2.2≤1048576):∃ x,O1 us r=some (x,(B2y us r).2.1,())∧((B2y us r).2.1=true→x=(B2y us r).1):=by
 have hl:=h.2.1;have hp:=A4k us r.2.2.2.1;have hat:=D21 us r.2.2.2.1 (show us.length≤maxLen by simp only [maxLen];omega);have hcp:=B7k us (by omega) (B2P h);obtain ⟨k,hk,hmk,hmk2⟩:=D5G us (r.2.2.2.1,r.2.2.2.2.1,[],false) h.1 (by omega) (B2P h);simp only [O1,A5O,hat,hcp,hmk,A4,B2y,J4];by_cases k1:r.2.2.1=1
 ·rw [A0 k1,if_pos k1];simp only [cond_true];cases hh:F5 us r.2.2.2.1 with
  | true=>
   obtain ⟨hlt,hid⟩:=H4.1 hh;rw [B8k h.1 hh,if_pos hlt,A3 (by omega)];simp
  | false=>
   have hk2:=hmk2 hh;simp only at hk2;rw [B8l h.1 hh,if_neg (Nat.lt_irrefl _),A0 (by omega)];simp only [cond_true];by_cases h10:10≤us.length
   ·rw [A3 (by omega),if_pos (.inr h10)];simp
   ·rw [A0 (by omega),if_neg (by simp;omega),hk2];simp
 rw [A3 k1,if_neg k1];simp only [cond_false];cases hh:F5 us r.2.2.2.1 with
 | false=>
  rw [B8l h.1 hh,if_neg (Nat.lt_irrefl _),A0 (by omega)];simp
 | true=>
  obtain ⟨hlt,hid⟩:=H4.1 hh;have hu:(List.length us[A9 us r.2.2.2.1].2.2.1:Int)≤us[A9 us r.2.2.2.1].2.1∧us[A9 us r.2.2.2.1].2.1≤1000000000:=⟨(h.2.2 _ (List.getElem_mem hlt)).1,(h.2.2 _ (List.getElem_mem hlt)).2.1⟩;have hrd:rd kUp us (A9 us r.2.2.2.1:Int)=us[A9 us r.2.2.2.1]:=C3 (k:=kUp) (xs:=us) hlt;rw [B8k h.1 hh,if_pos hlt,A3 (by omega)];simp only [cond_false,Bool.true_eq_false,if_false];rw [A0 (by omega),A0 (by omega)];simp only [cond_true,Int.toNat_natCast,hrd];generalize us[A9 us r.2.2.2.1]=u at hu hid ⊢;by_cases k2:r.2.2.1=2
  ·rw [A0 k2,if_pos k2];simp only [cond_true];cases hd:u.2.2.2 with
   | true=>simp [B7]
   | false=>
    by_cases hn:r.2.2.2.2.1=(List.length u.2.2.1:Int)
    ·rw [A0 hn,hn,w64 (by omega) (by omega)];by_cases hw:(List.length u.2.2.1:Int)+(List.length r.2.2.2.2.2:Int)>u.2.1
     ·rw [A0 hw,if_pos (.inr (.inr hw))];exact ⟨_,rfl,fun e=>by cases e⟩
     ·rw [A3 hw,if_neg (by simp;omega)];simp only [Bool.not_true,cond_false,B7];rw [A0 (by omega),A0 (by omega)];exact ⟨_,rfl,fun _=>rfl⟩
    ·rw [A3 hn,if_pos (.inr (.inl hn))];exact ⟨_,rfl,fun e=>by cases e⟩
  rw [A3 k2,if_neg k2];by_cases k3:r.2.2.1=3
  ·rw [A0 k3,if_pos k3];simp only [cond_true,cond_false];cases hd:u.2.2.2 with
   | true=>simp
   | false=>
    by_cases hn:(List.length u.2.2.1:Int)=u.2.1
    ·rw [A0 hn,if_neg (by simp [hn])];exact ⟨_,rfl,fun _=>rfl⟩
    ·rw [A3 hn,if_pos (.inr hn)];exact ⟨_,rfl,fun e=>by cases e⟩
  rw [A3 k3,if_neg k3];by_cases k4:r.2.2.1=4
  ·rw [A0 k4,if_pos k4,w64 (n:=(A9 us r.2.2.2.1:Int)+1) (by omega) (by omega)];simp only [cond_true,cond_false];rw [A0 (by omega),A0 (by omega),A0 (by omega),A0 (by omega)];simp only [cond_true];rw [show ((A9 us r.2.2.2.1:Int)+1).toNat=A9 us r.2.2.2.1+1 by omega,A0 (by omega)];simp only [cond_true,List.take_length];exact ⟨_,rfl,fun _=>rfl⟩
  rw [A3 k4,if_neg k4];exact ⟨_,rfl,fun e=>by cases e⟩
theorem D7R{us:List TUp}(h:Ord us)(p:Nat)(hp:p<us.length)(u:TUp)(hu:u.1=us[p].1):Ord (us.set p u):=by
 refine List.pairwise_iff_getElem.2 fun i j hi hj hij=>?_
 simp only [List.length_set] at hi hj;have hk:∀ q (hq:q<us.length),((us.set p u)[q]'(by simpa using hq)).1=us[q].1:=fun q hq=>by
  rw [List.getElem_set];split
  ·rename_i e;subst e;exact hu
  ·rfl
 rw [hk i hi,hk j hj];exact D0F h hij hj
theorem A3w{us us':List TUp}{r:H5}(h:Ups us)(hr':B3b r)(e:J4 us r=some us'):Ups us':=by
 have hr:=hr'.1;have hp:=A4k us r.2.2.2.1;have hb:=A0T hr;simp only [J4] at e;split at e
 ·split at e
  ·cases e
  rename_i hc;injection e with e
  subst e;have hnh:F5 us r.2.2.2.1=false:=by cases q:F5 us r.2.2.2.1;rfl;exact absurd (.inl q) hc
  refine ⟨?_,by simp;omega,fun u hu=>?_⟩
  ·show List.Pairwise _ _;rw [List.pairwise_append];refine ⟨h.1.sublist (List.take_sublist _ _),List.pairwise_cons.2 ⟨fun b hb=>?_,h.1.sublist (List.drop_sublist _ _)⟩,fun a ha b hb=>?_⟩
   ·obtain ⟨j,hj,rfl⟩:=List.getElem_of_mem hb;rw [List.getElem_drop];exact B8j h.1 hnh (by omega) _
   ·obtain ⟨j,hj,rfl⟩:=List.getElem_of_mem ha;rw [List.length_take] at hj;rw [List.getElem_take];have h1:=B0l (us:=us) (id:=r.2.2.2.1) (j:=j) (by omega);rcases List.mem_cons.1 hb with rfl | hb
    ·exact h1
    ·obtain ⟨q,hq,rfl⟩:=List.getElem_of_mem hb;rw [List.getElem_drop];rw [List.length_drop] at hq;exact B8h h1 (B8j h.1 hnh (by omega) (by omega))
  ·rcases List.mem_append.1 hu with hu | hu
   ·exact h.2.2 u (List.mem_of_mem_take hu)
   ·rcases List.mem_cons.1 hu with rfl | hu
    ·exact ⟨by simp only [List.length_nil];omega,by simp only;omega,hb.2.2.2.2.1,T4⟩
    ·exact h.2.2 u (List.mem_of_mem_drop hu)
 split at e
 ·cases e
 rename_i _ hh;have hh:F5 us r.2.2.2.1=true:=by cases q:F5 us r.2.2.2.1;exact absurd q hh;rfl
 obtain ⟨hlt,hid⟩:=H4.1 hh;have hrd:rd kUp us (A9 us r.2.2.2.1:Int)=us[A9 us r.2.2.2.1]:=C3 (k:=kUp) (xs:=us) hlt;have hu0:=h.2.2 _ (List.getElem_mem hlt);simp only [hrd] at e;split at e
 ·split at e
  ·cases e
  rename_i hc;injection e with e
  subst e;refine ⟨D7R h.1 _ hlt _ rfl,by simp;exact h.2.1,fun u hu=>?_⟩;rcases List.mem_or_eq_of_mem_set hu with hu | rfl
  ·exact h.2.2 u hu
  ·refine ⟨?_,hu0.2.1,hu0.2.2.1,D0D hu0.2.2.2 hr'.2⟩;simp only [List.length_append];have:¬ ((List.length us[A9 us r.2.2.2.1].2.2.1:Int)+(List.length r.2.2.2.2.2:Int)>us[A9 us r.2.2.2.1].2.1):=fun q=>hc (.inr (.inr q))
   omega
 split at e
 ·split at e
  ·cases e
  injection e with e
  subst e;refine ⟨D7R h.1 _ hlt _ rfl,by simp;exact h.2.1,fun u hu=>?_⟩;rcases List.mem_or_eq_of_mem_set hu with hu | rfl
  ·exact h.2.2 u hu
  ·exact hu0
 split at e
 ·injection e with e
  subst e;refine ⟨?_,by have:=h.2.1;simp only [List.length_append,List.length_take,List.length_drop];omega,fun u hu=>?_⟩
  ·show List.Pairwise _ _;rw [List.pairwise_append];refine ⟨h.1.sublist (List.take_sublist _ _),h.1.sublist (List.drop_sublist _ _),fun a ha b hb=>?_⟩;obtain ⟨j,hj,rfl⟩:=List.getElem_of_mem ha;obtain ⟨q,hq,rfl⟩:=List.getElem_of_mem hb;rw [List.length_take] at hj;rw [List.length_drop] at hq;rw [List.getElem_take,List.getElem_drop];exact D0F h.1 (by omega) (by omega)
  ·rcases List.mem_append.1 hu with hu | hu
   ·exact h.2.2 u (List.mem_of_mem_take hu)
   ·exact h.2.2 u (List.mem_of_mem_drop hu)
 ·cases e
def G2:List TUp→List H5→Option (List TUp)
 | us,[]=>some us
 | us,r::l=>match J4 us r with
  | some us'=>G2 us' l
  | none=>none
def Q8(l:List H5):List TUp×Bool×Unit:=match G2 [] l with
 | some us=>(us,true,())
 | none=>([],false,())
theorem A6b:∀ {l:List H5} {us us':List TUp},Ups us→(∀ r∈l,B3b r)→G2 us l=some us'→Ups us'
 | [],us,us',h,_,e=>by simp only [G2,Option.some.injEq] at e;subst e;exact h
 | r::l,us,us',h,hr,e=>by
  simp only [G2] at e;split at e
  ·rename_i us1 e1;exact A6b (A3w h (hr r (by simp)) e1) (fun x hx=>hr x (by simp [hx])) e
  ·cases e
theorem C92{α:Type}(f:α→Option (α⊕((List TUp×Unit)⊕(List TUp×Bool×Unit))))(s:Nat→List TUp→α)(l:List H5)(hr:∀ r∈l,B3b r)
  (hs:∀ (i:Nat) (hi:i<l.length) (us:List TUp),Ups us→f (s i us)=match J4 us l[i] with
   | some us'=>some (.inl (s (i+1) us'))
   | none=>some (.inr (.inr ([],false,()))))
  (he:∀ us,f (s l.length us)=some (.inr (.inl (us,())))):B7 (B8 f (s 0 [])) (fun m=>some (m.1,true,()))=some (Q8 l):=by
 have key:∀ k i us,i+k=l.length→Ups us→B7 (B8 f (s i us)) (fun m=>some (m.1,true,()))=some (match G2 us (l.drop i) with
   | some us'=>(us',true,())
   | none=>([],false,())):=by
  intro k
  induction k with
  | zero=>
   intro i us hi hu;obtain rfl:i=l.length:=by omega
   rw [W0,he];simp [G2,B7]
  | succ k ih=>
   intro i us hi hu;have hlt:i<l.length:=by omega
   rw [W0,hs i hlt us hu,List.drop_eq_getElem_cons hlt];simp only [G2];cases e:J4 us l[i] with
   | none=>rfl
   | some us'=>exact ih (i+1) us' (by omega) (A3w hu (hr _ (List.getElem_mem hlt)) e)
 exact key l.length 0 [] (by omega) A9T
theorem B6O(l:List H5)(hl:l.length≤maxLen)(hr:∀ r∈l,B3b r):A0o l=some (Q8 l):=by
 simp only [A0o,B2B];refine C92 (A4W A6T l) (fun i us=>((i:Int),us,())) l hr (fun i hi us hu=>?_) (fun us=>by simp [A4W]);have h1:((i:Int)<(l.length:Int)):=by omega
 have h2:(0:Int)≤(i:Int):=by omega
 have hb:=A0T (hr _ (List.getElem_mem hi)).1;simp only [A4W,A0 h1,A0 h2,cond_true];rw [C3 (k:=A7I) (xs:=l) hi,C91 us _ hu (by omega),w64 (by omega) (by simp only [maxLen] at hl;omega)];simp only [A4,B2y];cases J4 us l[i]<;>rfl
theorem A2u(l:List H5)(hl:l.length≤maxLen)(hr:∀ r∈l,B3b r):N4 l=some (Q8 l):=by
 simp only [N4,A3c];refine C92 (Y9 O1 l) (fun i us=>(us,(i:Int),())) l hr (fun i hi us hu=>?_) (fun us=>by simp [Y9]);have h1:((i:Int)<(l.length:Int)):=by omega
 have h2:(0:Int)≤(i:Int):=by omega
 have hb:=A0T (hr _ (List.getElem_mem hi)).1;obtain ⟨x,hx,hx2⟩:=D29 us l[i] hu (by omega);simp only [Y9,A0 h1,A0 h2,cond_true];rw [C3 (k:=A7I) (xs:=l) hi,hx,w64 (by omega) (by simp only [maxLen] at hl;omega)];simp only [A4,B2y] at hx2 ⊢;cases e:J4 us l[i] with
 | none=>rfl
 | some us'=>
  rw [e] at hx2;rw [hx2 rfl];rfl
def A6c(l:List ByteArray):Prop:=l.length≤1048576∧∀ s∈l,s.size≤1048576
theorem A6C{l:List ByteArray}(h:A6c l){i:Nat}(hi:i<l.length):(rd .str l (i:Int)).size≤1048576:=by
 rw [A5f hi];exact h.2 _ (List.getElem_mem hi)
theorem C1w{s:ByteArray}(h:(D4 s).2.1=true):B3b (D4 s).1:=by
 unfold D4 at h ⊢;split at h
 ·rename_i hg;rw [if_pos hg];simp only [A9S,Bool.and_eq_true] at hg;exact ⟨hg.1.2,C0b (A9R s)⟩
 ·cases h
theorem D8a(d:F0)(h:A6c d.1)(l:Int×Int×List H5×Unit)(h0:0≤l.2.1):A4V A0m d l=S4 L0 d l:=by
 simp only [A4V,S4];by_cases hi:l.2.1<(d.1.length:Int)
 ·obtain ⟨i,hn⟩:∃ i:Nat,l.2.1=(i:Int):=⟨l.2.1.toNat,by omega⟩;rw [hn] at hi ⊢;rw [A6Y _ (A6C h (by omega)),B4U _ (A6C h (by omega))]
 ·rw [A3 hi];rfl
theorem D7S(d:F0)(h:A6c d.1):∃ l,Y8 d=some (l,())∧A0n d=some (l,())∧l.length≤d.1.length∧∀ r∈l,B3b r:=by
 have hl:=h.1;obtain ⟨z,e,hz1,hz2⟩:=Y4 (S4 L0 d) (fun l=>((d.1.length:Int)-l.2.1).toNat) (fun l=>0≤l.2.1∧(List.length l.2.2.1:Int)=l.2.1∧l.2.1≤(d.1.length:Int)∧∀ r∈l.2.2.1,B3b r)
  (fun z=>List.length z.1≤d.1.length∧∀ r∈z.1,B3b r) (fun l hl=>by
   obtain ⟨h0,h1,h2,h3⟩:=hl;simp only [S4];by_cases hi:l.2.1<(d.1.length:Int)
   ·obtain ⟨i,hn⟩:∃ i:Nat,l.2.1=(i:Int):=⟨l.2.1.toNat,by omega⟩;rw [A0 hi,A0 h0];simp only [cond_true];rw [hn] at hi h0 h1 h2 ⊢;rw [A6Y _ (A6C h (by omega))];simp only [A4];have hg:=@C1w (rd .str d.1 (i:Int));generalize D4 (rd .str d.1 (i:Int))=g at hg ⊢;have fin:List.length l.2.2.1≤d.1.length∧∀ r∈l.2.2.1,B3b r:=⟨by omega,h3⟩;cases hk:g.2.1 with
    | false=>exact .inr ⟨_,rfl,fin⟩
    | true=>
     simp only [Bool.not_true,cond_false];by_cases e1:g.1.2.1=(i:Int)
     ·rw [A0 e1];by_cases e2:g.1.1<l.1
      ·rw [A0 e2];exact .inr ⟨_,rfl,fin⟩
      ·rw [A3 e2];simp only [Bool.not_true,cond_false];rw [A0 (by simp;omega),A0 (by simp;omega),w64 (by omega) (by omega)];refine .inl ⟨_,rfl,⟨by simp only;omega,by simp;omega,by simp only;omega,fun r hr=>?_⟩,by simp only;omega⟩;rcases List.mem_append.1 hr with hr | hr
       ·exact h3 r hr
       ·rw [List.mem_singleton.1 hr];exact hg hk
     ·rw [A3 e1];exact .inr ⟨_,rfl,fin⟩
   ·rw [A3 hi];exact .inr ⟨_,rfl,by simp only;omega,h3⟩) (0,0,[],()) ⟨by simp,by simp,by simp,fun r hr=>by cases hr⟩
 refine ⟨z.1,e,?_,hz1,hz2⟩;simp only [A0n,B2A];rw [A9N (g:=S4 L0 d) (fun l=>0≤l.2.1) (fun l h0=>D8a d h l h0) (fun l y h0 e=>?_) (by simp)]
 ·exact e
 ·simp only [A4V] at e;by_cases hi:l.2.1<(d.1.length:Int)
  ·obtain ⟨i,hn⟩:∃ i:Nat,l.2.1=(i:Int):=⟨l.2.1.toNat,by omega⟩;rw [A0 hi,A0 h0] at e;simp only [cond_true] at e;rw [hn] at hi h0 e;rw [B4U _ (A6C h (by omega))] at e;simp only [A4] at e;rw [w64 (n:=(i:Int)+1) (by omega) (by omega)] at e;generalize D4 (rd .str d.1 (i:Int))=g at e;cases hk:g.2.1<;>simp only [hk,Bool.not_true,Bool.not_false,cond_true,cond_false] at e
   ·cases e
   ·revert e;cases decide (g.1.2.1=(i:Int))<;>cases decide (g.1.1<l.1)<;>simp only [Bool.not_true,Bool.not_false,cond_true,cond_false]
    ·intro e;cases e
    ·intro e;cases e
    ·cases decide (List.length l.2.2.1+List.length [g.1]≤9223372036854775807)<;>cases decide ((List.length l.2.2.1+List.length [g.1])*72≤140737488355328)<;>intro e
     ·cases e
     ·cases e
     ·cases e
     ·simp only [cond_true] at e;injection e with e;injection e with e;subst e
      simp only;omega
    ·intro e;cases e
  ·rw [A3 hi] at e;cases e
theorem C0d:A1q=T7:=rfl
theorem B4V(d:F0)(h:d.1.length≤1048576):∃ b,T7 d=some (b,())∧(b=true→d.1.length=d.2.length∧d.1.length≤200):=by
 simp only [T7,B1r];by_cases h1:(d.1.length:Int)=(d.2.length:Int)
 ·rw [A0 h1];by_cases h2:(d.1.length:Int)>200
  ·rw [A0 h2];exact ⟨_,rfl,fun e=>by cases e⟩
  ·rw [A3 h2];simp only [Bool.not_true,cond_false,B7];refine ⟨_,B6N (A0g d) d.1.length (by simp only [maxLen];omega) (fun i=>!decide (((rd .str d.1 (i:Int)).size:Int)>64)&&!decide (((rd .str d.2 (i:Int)).size:Int)>64)) (fun i hi=>?_) (by simp [A0g]),fun _=>by omega⟩;have g1:((i:Int)<(d.1.length:Int)):=by omega
   have g2:(0:Int)≤(i:Int):=by omega
   have g3:((i:Int)<(d.2.length:Int)):=by omega
   simp only [A0g,A0 g1,A0 g2,A0 g3,cond_true];cases decide (((rd .str d.1 (i:Int)).size:Int)>64)<;>cases decide (((rd .str d.2 (i:Int)).size:Int)>64)<;>rfl
 ·rw [A3 h1];exact ⟨_,rfl,fun e=>by cases e⟩
def A6D(a b:TUp):Bool:=(a.1.toList == b.1.toList)&&decide (a.2.1=b.2.1)&&(a.2.2.2 == b.2.2.2)&&((strOf a.2.2.1).toList == (strOf b.2.2.1).toList)
def A14(a b:List TUp):Bool:=decide (a.length=b.length)&&(List.range a.length).all fun i=>A6D (rd kUp a (i:Int)) (rd kUp b (i:Int))
theorem D2A(a b:TUp):A8C a b=some (A6D a b,()):=by
 simp only [A8C,B7f,M5,A2k,A4,A6D];cases (a.1.toList == b.1.toList)<;>cases decide (a.2.1=b.2.1)<;>cases (a.2.2.2 == b.2.2.2)<;>rfl
theorem D8b(a b:List TUp)(h:a.length≤maxLen):C1 a b ()=some (A14 a b,()):=by
 simp only [C1,E9,A14];by_cases hl:a.length=b.length
 ·rw [A0 (show (a.length:Int)=(b.length:Int) by omega),A0 hl];simp only [Bool.not_true,cond_false,Bool.true_and];refine B6N _ a.length h (fun i=>A6D (rd kUp a (i:Int)) (rd kUp b (i:Int))) (fun i hi=>?_) (by simp [E7]);have g1:((i:Int)<(a.length:Int)):=by omega
  have g2:(0:Int)≤(i:Int):=by omega
  have g3:((i:Int)<(b.length:Int)):=by omega
  simp only [E7,A0 g1,A0 g2,A0 g3,cond_true,D2A,A4];cases A6D (rd kUp a (i:Int)) (rd kUp b (i:Int))<;>rfl
 ·rw [A3 (show ¬ (a.length:Int)=(b.length:Int) by omega),A3 hl];rfl
theorem C93(a b:List TUp)(h:a.length≤maxLen):A1h a b=some (A14 a b,()):=by
 simp only [A1h,A7z,A14];by_cases hl:a.length=b.length
 ·rw [A0 (show (a.length:Int)=(b.length:Int) by omega),A0 hl];simp only [Bool.not_true,cond_false,Bool.true_and];refine B6N _ a.length h (fun i=>A6D (rd kUp a (i:Int)) (rd kUp b (i:Int))) (fun i hi=>?_) (by simp [A5P]);have g1:((i:Int)<(a.length:Int)):=by omega
  have g2:(0:Int)≤(i:Int):=by omega
  have g3:((i:Int)<(b.length:Int)):=by omega
  simp only [A5P,A0 g1,A0 g2,A0 g3,cond_true,A6D];cases ((rd kUp a (i:Int)).1.toList == (rd kUp b (i:Int)).1.toList)<;>cases decide ((rd kUp a (i:Int)).2.1=(rd kUp b (i:Int)).2.1)<;>cases ((rd kUp a (i:Int)).2.2.2 == (rd kUp b (i:Int)).2.2.2)<;>cases ((strOf (rd kUp a (i:Int)).2.2.1).toList == (strOf (rd kUp b (i:Int)).2.2.1).toList)<;>rfl
 ·rw [A3 (show ¬ (a.length:Int)=(b.length:Int) by omega),A3 hl];rfl
def A2v(e:Int)(s:ByteArray):Bool:=(D4 s).2.1&&decide ((D4 s).1.1≥e)
def A3x(t:Int)(s:ByteArray):Int:=bif (D4 s).2.1 then (bif decide ((D4 s).1.1>t) then (D4 s).1.1 else t) else t
def A2c(l:List ByteArray):Int:=l.foldl A3x (-1)
theorem B5j(e:Int):∀ (l:List ByteArray) (t:Int),decide (l.foldl A3x t<e)=(decide (t<e)&&l.all fun s=>!A2v e s)
 | [],t=>(Bool.and_true _).symm
 | s::l,t=>by
  rw [List.foldl_cons,B5j e l,List.all_cons];unfold A3x A2v;cases (D4 s).2.1 with
  | false=>simp
  | true=>
   simp only [cond_true,Bool.true_and];by_cases h1:(D4 s).1.1>t
   ·rw [A0 h1];by_cases h2:(D4 s).1.1≥e
    ·rw [A0 h2];simp only [cond_true];rw [A3 (show ¬ (D4 s).1.1<e by omega)];simp
    ·rw [A3 h2];simp only [cond_true];rw [A0 (show (D4 s).1.1<e by omega),A0 (show t<e by omega)];simp
   ·rw [A3 h1];simp only [cond_false];by_cases h3:t<e
    ·rw [A0 h3,A3 (show ¬ (D4 s).1.1≥e by omega)];simp
    ·rw [A3 h3];simp
theorem B8m(l:List ByteArray)(h:A6c l):A1t l=some (A2c l,()):=by
 have hl:=h.1;simp only [A1t,B4G];have key:=D3 (A61 A0m l) (fun i=>((l.take i).foldl A3x (-1),(i:Int),())) l.length (A2c l,()) (fun i hi=>?_) ?_
 ·simpa using key
 ·have g1:((i:Int)<(l.length:Int)):=by omega
  have g2:(0:Int)≤(i:Int):=by omega
  simp only [A61,A0 g1,A0 g2,cond_true];rw [B4U _ (A6C h hi),w64 (by omega) (by omega)];simp only [A4];have e:(l.take (i+1)).foldl A3x (-1)=A3x ((l.take i).foldl A3x (-1)) (rd .str l (i:Int)):=by
   rw [List.take_succ_eq_append_getElem hi,List.foldl_append,A5f hi];rfl
  rw [e];unfold A3x;cases (D4 (rd .str l (i:Int))).2.1<;>rfl
 ·simp [A61,A2c]
theorem C54(go:Nat→Bool)(n:Nat):decide (O3 go 0 n=n)=(List.range n).all go:=by
 rw [Bool.eq_iff_iff];simp only [decide_eq_true_eq,List.all_eq_true,List.mem_range];constructor
 ·intro h j hj;exact A6Z go n 0 j (by omega) (by omega)
 ·intro h;exact A6a go n n (Nat.le_refl _) h (fun h=>by omega)
theorem C94(st:A7)(h:A6c st.1.1)(n:Nat)(hn:n≤st.1.1.length):B8 (A1C L0 st) ((n:Int),())=some ((st.1.1.drop n).all fun s=>!A2v st.2.1 s,()):=by
 have hl:=h.1;have key:=A20 (A1C L0 st) (fun j=>(((n+j:Nat):Int),())) (st.1.1.length-n) (fun j=>(decide (j=st.1.1.length-n),())) (fun j=>!A2v st.2.1 (rd .str st.1.1 ((n+j:Nat):Int))) (fun j hj=>?_) ?_
 ·have e:B8 (A1C L0 st) ((n:Int),())=_:=key;rw [e,C54]
  congr 2
  rw [Bool.eq_iff_iff];simp only [List.all_eq_true,List.mem_range];constructor
  ·intro h2 s hs;obtain ⟨j,hj,rfl⟩:=List.getElem_of_mem hs;rw [List.length_drop] at hj;have:=h2 j hj;rw [A5f (by omega)] at this;rw [List.getElem_drop];exact this
  ·intro h2 j hj;rw [A5f (by omega)];refine h2 _ ?_;rw [List.mem_iff_getElem];exact ⟨j,by rw [List.length_drop];omega,by rw [List.getElem_drop]⟩
 ·have g1:(((n+j:Nat):Int)<(st.1.1.length:Int)):=by omega
  have g2:(0:Int)≤((n+j:Nat):Int):=by omega
  simp only [A1C,A0 g1,A0 g2,cond_true];rw [A6Y _ (A6C h (by omega)),w64 (by omega) (by omega)];simp only [A4,A2v];rw [A3 (show ¬ j=st.1.1.length-n by omega)];have e2:n+(j+1)=(n+j)+1:=by omega
  simp only [e2,Int.natCast_succ];cases (D4 (rd .str st.1.1 ((n+j:Nat):Int))).2.1<;>cases decide ((D4 (rd .str st.1.1 ((n+j:Nat):Int))).1.1≥st.2.1)<;>rfl
 ·have g1:¬ (((n+(st.1.1.length-n):Nat):Int)<(st.1.1.length:Int)):=by omega
  simp only [A1C,A3 g1,cond_false];simp
def C55(st:A7):Prop:=0≤st.2.1∧st.2.1≤10000∧st.1.1.length=st.1.2.length∧st.1.1.length≤200∧(0≤st.2.2.1∧st.2.2.1≤(st.1.1.length:Int))∧∃ us,Ups us∧A14 us st.2.2.2=true
theorem C56(st:A7)(h:A6c st.1.1):∃ b,F7 st=some (b,())∧A1u st=some (b,())∧(b=true→C55 st):=by
 have hl:=h.1;obtain ⟨bd,hd,hdt⟩:=B4V st.1 hl;obtain ⟨l,hs,hi,hll,hrg⟩:=D7S st.1 h;have hfs:=A2u l (by simp only [maxLen];omega) hrg;have hfi:=B6O l (by simp only [maxLen];omega) hrg;have hups:(Q8 l).2.1=true→Ups (Q8 l).1:=by
  intro e;unfold Q8 at e ⊢;split
  ·rename_i us' e1;exact A6b A9T hrg e1
  ·rename_i e1;rw [e1] at e;cases e
 simp only [F7,A95,A1u,B4H,C0d,hd,hs,hi,hfs,hfi,A1o,A9H,N1,L3,A4];cases bd with
 | false=>
  by_cases he:0≤st.2.1∧st.2.1≤10000
  ·rw [A0 he];exact ⟨_,rfl,rfl,fun e=>by cases e⟩
  ·rw [A3 he];exact ⟨_,rfl,rfl,fun e=>by cases e⟩
 | true=>
  cases he':decide (0≤st.2.1∧st.2.1≤10000) with
  | false=>exact ⟨_,rfl,rfl,fun e=>by cases e⟩
  | true=>
   have he:=of_decide_eq_true he';have hd2:=hdt rfl;simp only [Bool.not_true,cond_false,B7];generalize hf:Q8 l=fr at hups;cases hk:fr.2.1 with
   | false=>exact ⟨_,rfl,rfl,fun e=>by cases e⟩
   | true=>
    have hu:=hups hk;have hul:=hu.2.1;rw [C93 _ _ (show fr.1.length≤maxLen by simp only [maxLen];omega),D8b _ _ (show fr.1.length≤maxLen by simp only [maxLen];omega)];simp only [Bool.not_true,cond_false];cases hn':decide (st.2.2.1=(List.length l:Int)) with
    | false=>
     cases A14 fr.1 st.2.2.2<;>exact ⟨_,rfl,rfl,fun e=>by cases e⟩
    | true=>
     have hn:=of_decide_eq_true hn';cases hsm:A14 fr.1 st.2.2.2 with
     | false=>exact ⟨_,rfl,rfl,fun e=>by cases e⟩
     | true=>
      have hg:C55 st:=⟨he.1,he.2,hd2.1,hd2.2,by omega,fr.1,hu,hsm⟩;simp only [Bool.not_true,cond_false];rw [hn,C94 st h l.length hll,A0 (show (0:Int)≤(List.length l:Int) by omega),A0 (show (List.length l:Int)≤(st.1.1.length:Int) by omega),Int.toNat_natCast,List.take_length];simp only [cond_true];have hdr:A6c (st.1.1.drop l.length):=⟨by rw [List.length_drop];omega,fun s hs=>h.2 s (List.mem_of_mem_drop hs)⟩;rw [B8m _ hdr];have htop:decide (st.2.1>A2c (st.1.1.drop l.length))=((st.1.1.drop l.length).all fun s=>!A2v st.2.1 s):=by
       have:=B5j st.2.1 (st.1.1.drop l.length) (-1);rw [A0 (show (-1:Int)<st.2.1 by omega),Bool.true_and] at this;exact this
      simp only [htop];by_cases hl0:(List.length l:Int)>0
      ·rw [A0 hl0,w64 (n:=(List.length l:Int)-1) (by omega) (by omega),A0 (show (0:Int)≤(List.length l:Int)-1 by omega),A0 (show (List.length l:Int)-1<(List.length l:Int) by omega)];simp only [cond_true];have hlt:decide (st.2.1<(rd A7I l ((List.length l:Int)-1)).1)=decide ((rd A7I l ((List.length l:Int)-1)).1>st.2.1):=rfl;rw [hlt];cases decide ((rd A7I l ((List.length l:Int)-1)).1>st.2.1) with
       | true=>exact ⟨_,rfl,rfl,fun e=>by cases e⟩
       | false=>exact ⟨_,rfl,rfl,fun _=>hg⟩
      ·rw [A3 hl0];exact ⟨_,rfl,rfl,fun _=>hg⟩
theorem D2B(x:D8):B4I W9 x=M4 R3 x:=by
 have e:W9=R3:=by funext r;rw [B4R,A9Q]
 rw [e];rfl
theorem E2X(x:D8)(h:x.2.length≤1048576):∃ z,B8 (M4 R3 x) (0,())=some z∧(z=.inl ()∨z=.inr (false,())):=by
 have key:=A20 (M4 R3 x) (fun i=>((i:Int),())) x.2.length (fun i=>if i<x.2.length then .inr (false,()) else .inl ()) (fun i=>T3 (rd B2 x.2 (i:Int)).2) (fun i hi=>?_) ?_
 ·refine ⟨_,key,?_⟩;split
  ·exact .inr rfl
  ·exact .inl rfl
 ·have g1:((i:Int)<(x.2.length:Int)):=by omega
  have g2:(0:Int)≤(i:Int):=by omega
  simp only [M4,A0 g1,A0 g2,cond_true,A9Q,A4,if_pos hi];rw [w64 (by omega) (by omega)];cases T3 (rd B2 x.2 (i:Int)).2<;>rfl
 ·simp [M4]
theorem D2C(x:D8)(h:A6c x.1.1.1)(h2:x.2.length≤1048576):∃ b,A0k x=some (b,())∧A4X x=some (b,())∧(b=true→F7 x.1=some (true,())∧C55 x.1∧x.2.length≤200):=by
 obtain ⟨z,hz,hz2⟩:=E2X x h2;obtain ⟨b,hs,hi,hg⟩:=C56 x.1 h;simp only [A0k,A7P,A4X,B2C,D2B,hz,hs,hi];rcases hz2 with rfl | rfl
 ·by_cases hl:(x.2.length:Int)≤200
  ·rw [A0 hl];exact ⟨b,rfl,rfl,fun e=>⟨by rw [e],hg e,by omega⟩⟩
  ·rw [A3 hl];exact ⟨_,rfl,rfl,fun e=>by cases e⟩
 ·exact ⟨_,rfl,rfl,fun e=>by cases e⟩
theorem E3i{k:K}{b:List k.T}{i:Nat}(h:i<b.length)(u:k.T):rd k (b.set i u) (i:Int)=u:=by
 rw [C3 (xs:=b.set i u) (by simpa using h)];simp
theorem C0e(a:List ByteArray)(h:a.length≤1048576):F9 a=some (a,()):=by
 simp only [F9,T9];have e:(bif decide (([]:List ByteArray).length+a.length≤9223372036854775807) then bif decide ((([]:List ByteArray).length+a.length)*16≤140737488355328) then some (([]++a),()) else none else none)=some (a,()):=by
  rw [A0 (by simp;omega),A0 (by simp;omega)];simp
 rw [e];cases a with
 | nil=>simp [B4P]
 | cons x xs=>simp
theorem C95(a:List C4)(h:a.length≤1048576):E0 a=some (a,()):=by
 simp only [E0,N5];have e:(bif decide (([]:List C4).length+a.length≤9223372036854775807) then bif decide ((([]:List C4).length+a.length)*24≤140737488355328) then some (([]++a),()) else none else none)=some (a,()):=by
  rw [A0 (by simp;omega),A0 (by simp;omega)];simp
 rw [e];cases a with
 | nil=>simp [B4P]
 | cons x xs=>simp
def A3y(d:F0):Prop:=A6c d.1∧A6c d.2
def A8P(s:A7):Prop:=A3y s.1∧List.length s.2.2.2≤1048576∧∀ u∈s.2.2.2,List.length u.2.2.1≤2000000000
def E3B(s:D8):Prop:=A8P s.1∧List.length s.2≤1048576
theorem B0D(d:F0)(h:A3y d):U7 d=some (d,()):=by
 simp only [U7,B2G,C0e _ h.1.1,C0e _ h.2.1,A4]
theorem A08(d:F0)(h:A3y d):Y7 d=some (d,()):=by
 have h1:=h.1.1;have h2:=h.2.1;simp only [Y7,B46];rw [A0 (by simp;omega),A0 (by simp;omega),A0 (by simp;omega),A0 (by simp;omega)];simp
theorem D2D(u:TUp)(h:List.length u.2.2.1≤2000000000):T8 u=some (u,()):=by
 simp only [T8,B23,A1D _ (show List.length u.2.2.1≤140737488355328 by omega),A4]
theorem C57(s:A7)(h:A8P s):A2n s=some (s,()):=by
 simp only [A2n,B04,B0D _ h.1,A4];have hl:=h.2.1;have key:=D3 (A3O T8 s) (fun i=>((i:Int),s.2.1,s.2.2.1,s.1.1,s.1.2,s.2.2.2.take i,())) s.2.2.2.length (s,()) (fun i hi=>?_) ?_
 ·simpa using key
 ·have g1:((i:Int)<(s.2.2.2.length:Int)):=by omega
  have g2:(0:Int)≤(i:Int):=by omega
  simp only [A3O,A0 g1,A0 g2,cond_true];rw [C3 (k:=kUp) (xs:=s.2.2.2) hi,D2D _ (h.2.2 _ (List.getElem_mem hi))];simp only [A4];rw [A0 (by simp;omega),A0 (by simp;omega),w64 (by omega) (by omega),List.take_succ_eq_append_getElem hi];rfl
 ·simp [A3O]
theorem A4l(s:A7)(h:A8P s):S3 s=some (s,()):=by
 simp only [S3,B47,A08 _ h.1,B7k _ h.2.1 h.2.2,A4]
theorem C33(s:D8)(h:E3B s):A1v s=some (s,()):=by
 simp only [A1v,A8E,C57 _ h.1,C95 _ h.2,A4]
theorem D5H(d:F0)(h:A3y d):A2p d=some ((d.1,d.1),()):=by
 simp only [A2p,B06,C0e _ h.1.1,A4]
theorem C58(d:F0)(h:A3y d):A2f d=some ((d.1,d.1),()):=by
 have h1:=h.1.1;simp only [A2f,A9y];rw [A0 (by simp;omega),A0 (by simp;omega)];simp
theorem A6E(d:F0)(h:A6c d.1):A4K d=some (A2c d.1,()):=by
 have hl:=h.1;simp only [A4K,B1x];have key:=D3 (A4J L0 d) (fun i=>((d.1.take i).foldl A3x (-1),(i:Int),())) d.1.length (A2c d.1,()) (fun i hi=>?_) ?_
 ·simpa using key
 ·have g1:((i:Int)<(d.1.length:Int)):=by omega
  have g2:(0:Int)≤(i:Int):=by omega
  simp only [A4J,A0 g1,A0 g2,cond_true];rw [A6Y _ (A6C h hi),w64 (by omega) (by omega)];simp only [A4];have e:(d.1.take (i+1)).foldl A3x (-1)=A3x ((d.1.take i).foldl A3x (-1)) (rd .str d.1 (i:Int)):=by
   rw [List.take_succ_eq_append_getElem hi,List.foldl_append,A5f hi];rfl
  rw [e];generalize (d.1.take i).foldl A3x (-1)=t;unfold A3x;cases (D4 (rd .str d.1 (i:Int))).2.1
  ·rfl
  ·cases decide ((D4 (rd .str d.1 (i:Int))).1.1>t)<;>rfl
 ·simp [A4J,A2c]
theorem C7c(d:F0)(h:A6c d.1):A4g d=some (A2c d.1,()):=by
 simp only [A4g,B2J,B8m _ h,A4]
theorem D0G(s:ByteArray):(D4 s).1.1≤10000:=by
 unfold D4;split
 ·rename_i h;simp only [A9S,Bool.and_eq_true] at h;exact (A0T h.1.2).2.1
 ·simp [D7Q]
theorem C42(l:List ByteArray):-1≤A2c l∧A2c l≤10000:=by
 unfold A2c;have:∀ (l:List ByteArray) (t:Int),-1≤t∧t≤10000→-1≤l.foldl A3x t∧l.foldl A3x t≤10000:=by
  intro l
  induction l with
  | nil=>exact fun t h=>h
  | cons s l ih=>
   intro t h;refine ih _ ?_;have h2:=D0G s;unfold A3x;cases (D4 s).2.1 with
   | false=>exact h
   | true=>
    by_cases h3:(D4 s).1.1>t
    ·rw [A0 h3];simp only [cond_true];omega
    ·rw [A3 h3];exact h
 exact this l (-1) (by omega)
theorem B8n{l:List ByteArray}(h:A6c l)(i:Nat){s:ByteArray}(hs:s.size≤1048576):A6c (l.set i s):=⟨by rw [List.length_set];exact h.1,fun x hx=>(List.mem_or_eq_of_mem_set hx).elim (h.2 x) (fun e=>by rw [e];exact hs)⟩
theorem E2Y(d:F0)(k:List Bool)(h:A3y d):∃ d',A0j d k=some (d',())∧A2Q d k=some (d',())∧A3y d':=by
 obtain ⟨b,hb,hb2⟩:=B4V d h.1.1;have hl:=h.1.1;simp only [A0j,A7N,A2Q,B2K,A08 d h,B0D d h,C0d,hb,A4];cases b with
 | false=>exact ⟨d,rfl,rfl,h⟩
 | true=>
  have hlen:=(hb2 rfl).1;simp only [Bool.not_true,cond_false];have step:∀ l:Int×List ByteArray×List ByteArray×Unit,0≤l.1∧l.2.1.length=d.1.length∧l.2.2.1.length=d.1.length∧A6c l.2.1∧A6c l.2.2.1→
    (∃ y:Int×List ByteArray×List ByteArray×Unit,J2 k l=some (.inl y)∧(0≤y.1∧y.2.1.length=d.1.length∧y.2.2.1.length=d.1.length∧A6c y.2.1∧A6c y.2.2.1)∧((d.1.length:Int)-y.1).toNat<((d.1.length:Int)-l.1).toNat)∨
    ∃ z,J2 k l=some (.inr z)∧A3y z.1:=by
   intro l ⟨h0,h1,h2,h3,h4⟩;simp only [J2,h1,h2];by_cases hi:l.1<(d.1.length:Int)
   ·obtain ⟨i,hn⟩:∃ i:Nat,l.1=(i:Int):=⟨l.1.toNat,by omega⟩;rw [hn] at hi h0 ⊢;have s1:=A6C h3 (i:=i) (by omega);have s2:=A6C h4 (i:=i) (by omega);rw [A0 hi,A0 h0,w64 (by omega) (by omega)];simp only [cond_true,Int.toNat_natCast];refine .inl ?_;by_cases hk:(i:Int)<(k.length:Int)
    ·rw [A0 hk];simp only [cond_true,A4];cases rd .bool k (i:Int) with
     | true=>exact ⟨_,rfl,⟨by simp only;omega,h1,by simp [h2],h3,B8n h4 i s1⟩,by simp only;omega⟩
     | false=>exact ⟨_,rfl,⟨by simp only;omega,by simp [h1],h2,B8n h3 i s2,h4⟩,by simp only;omega⟩
    ·rw [A3 hk];simp only [cond_false,A4];exact ⟨_,rfl,⟨by simp only;omega,by simp [h1],h2,B8n h3 i s2,h4⟩,by simp only;omega⟩
   ·rw [A3 hi];exact .inr ⟨_,rfl,h3,h4⟩
  have h0:0≤(0:Int)∧d.1.length=d.1.length∧d.2.length=d.1.length∧A6c d.1∧A6c d.2:=⟨by omega,rfl,hlen.symm,h.1,h.2⟩;obtain ⟨z,e,hz⟩:=Y4 (J2 k) (fun l=>((d.1.length:Int)-l.1).toNat) _ (fun z=>A3y z.1) step (0,d.1,d.2,()) h0;refine ⟨z.1,e,?_,hz⟩;rw [A9N (g:=J2 k) (fun l=>0≤l.1∧l.2.1.length=d.1.length∧l.2.2.1.length=d.1.length∧A6c l.2.1∧A6c l.2.2.1) (fun l hl=>?_) (fun l y hl ey=>?_) h0]
  ·exact e
  ·simp only [A4h,J2,hl.2.1]
  ·have e3:A4h (d,()) k l=J2 k l:=by simp only [A4h,J2,hl.2.1]
   rw [e3] at ey;rcases step l hl with ⟨y',e1,e2,_⟩ | ⟨z',e1,_⟩
   ·rw [e1] at ey;injection ey with ey;injection ey with ey;subst ey;exact e2
   ·rw [e1] at ey;injection ey with ey;cases ey
theorem E2Z(d:F0)(h:A3y d):∃ st b,E1 d=some (st,b,())∧A06 d=some (st,b,())∧A3y st.1∧Ups st.2.2.2:=by
 have hl:=h.1.1;obtain ⟨bd,hd,hdt⟩:=B4V d hl;obtain ⟨l,hs,hi,hll,hrg⟩:=D7S d h.1;have hfs:=A2u l (by simp only [maxLen];omega) hrg;have hfi:=B6O l (by simp only [maxLen];omega) hrg;have htop:=C42 d.1;have h00:A3y ([],[]):=⟨⟨by simp,fun s hs=>by cases hs⟩,⟨by simp,fun s hs=>by cases hs⟩⟩;have hups:(Q8 l).2.1=true→Ups (Q8 l).1:=by
  intro e;unfold Q8 at e ⊢;split
  ·rename_i us' e1;exact A6b A9T hrg e1
  ·rename_i e1;rw [e1] at e;cases e
 simp only [E1,P5,A06,B08,C0d,hd,hs,hi,hfs,hfi,A6E d h.1,C7c d h.1,A08 d h,B0D d h,A4];cases bd with
 | false=>exact ⟨_,_,rfl,rfl,h00,A9T⟩
 | true=>
  simp only [Bool.not_true,cond_false];generalize Q8 l=fr at hups;cases hk:fr.2.1 with
  | false=>exact ⟨_,_,rfl,rfl,h00,A9T⟩
  | true=>
   rw [w64 (n:=A2c d.1+1) (by omega) (by omega)];cases decide (A2c d.1+1>10000) with
   | true=>exact ⟨_,_,rfl,rfl,h00,A9T⟩
   | false=>exact ⟨_,_,rfl,rfl,h,hups hk⟩
def B2Q(op:Int):Int:=if op=1 then 1000000000 else if op=3 then 1000000000 else if op=4 then 4294967295 else 0
def A1I(r:A1e):Bool:=decide (1≤r.1∧r.1≤6)&&idB r.2.1&&decide (0≤r.2.2∧r.2.2≤B2Q r.1)
theorem C59(r:A1e)(h:r.2.1.size≤maxLen):A5U r=some (A1I r,()):=by
 simp only [A5U,C0S,N1,A8N _ h,A4,A1I,A9B,B4D,B2Q];cases decide (1≤r.1∧r.1≤6)
 ·rfl
 cases idB r.2.1
 ·rfl
 simp only [Bool.not_true,cond_false,B7,Bool.true_and];have hz:decide (0≤r.2.2∧r.2.2≤0)=decide (r.2.2=0):=by
  by_cases h0:r.2.2=0
  ·rw [A0 h0,A0 (by omega)]
  ·rw [A3 h0,A3 (by omega)]
 by_cases h1:r.1=1
 ·simp [h1]
 by_cases h3:r.1=3
 ·simp [h3]
 by_cases h4:r.1=4
 ·simp [h4]
 simp [h1,h3,h4];rw [Bool.eq_iff_iff];simp;omega
theorem C5A(r:A1e)(h:r.2.1.size≤maxLen):A3u r=some (A1I r,()):=by
 simp only [A3u,C0U,L3,B2N _ h,A4,A1I,A3N,A6p,B2Q];by_cases h1:r.1=1
 ·simp [h1];cases idB r.2.1<;>simp
 by_cases h3:r.1=3
 ·simp [h3];cases idB r.2.1<;>simp
 by_cases h4:r.1=4
 ·simp [h4];cases idB r.2.1<;>simp
 simp only [A3 h1,A3 h3,A3 h4,if_neg h1,if_neg h3,if_neg h4,cond_false];cases decide (1≤r.1∧r.1≤6)<;>cases idB r.2.1<;>simp
def C96(n:Nat)(h:C4):Bool:=T3 h.2&&decide (0≤h.1∧h.1≤(n:Int)-1)
def A1J(n:Nat)(l:List C4):Bool:=(List.range l.length).all fun i=>C96 n (rd B2 l (i:Int))
theorem B8o(w:A5)(l:List C4)(h:l.length≤maxLen)(hc:w.2.1.length≤1048576):A83 w l=some (A1J w.2.1.length l,()):=by
 simp only [A83,B7Y,A1J];refine B6N _ l.length h (fun i=>C96 w.2.1.length (rd B2 l (i:Int))) (fun i hi=>?_) (by simp [B1y]);have g1:((i:Int)<(l.length:Int)):=by omega
 have g2:(0:Int)≤(i:Int):=by omega
 simp only [B1y,A0 g1,A0 g2,cond_true,N1,A9Q,A4,C96];rw [w64 (n:=(w.2.1.length:Int)-1) (by omega) (by omega)];cases decide (0≤(rd B2 l (i:Int)).1∧(rd B2 l (i:Int)).1≤(w.2.1.length:Int)-1)<;>cases T3 (rd B2 l (i:Int)).2<;>rfl
theorem D2E(w:A5)(l:List C4)(h:l.length≤maxLen)(hc:w.2.1.length≤1048576):A8D w l=some (A1J w.2.1.length l,()):=by
 simp only [A8D,B7g,A1J];refine B6N _ l.length h (fun i=>C96 w.2.1.length (rd B2 l (i:Int))) (fun i hi=>?_) (by simp [B2E]);have g1:((i:Int)<(l.length:Int)):=by omega
 have g2:(0:Int)≤(i:Int):=by omega
 simp only [B2E,A0 g1,A0 g2,cond_true,L3,B4R,A4,C96];rw [w64 (n:=(w.2.1.length:Int)-1) (by omega) (by omega)];cases decide (0≤(rd B2 l (i:Int)).1∧(rd B2 l (i:Int)).1≤(w.2.1.length:Int)-1)<;>cases T3 (rd B2 l (i:Int)).2<;>rfl
def D8c(w:A5):Prop:=w.2.1.length≤1048576∧∀ c∈w.2.1,c.1.size≤maxLen
theorem D2F(w:A5)(h:D8c w)(i:Nat)(hi:i<w.2.1.length):∃ z,B8 (L5 ((i:Int),()) w) (0,())=some z∧(z=.inl ((i:Int)+1,())∨z=.inr (.inr (false,()))):=by
 have hl:=h.1;refine Y4 (L5 ((i:Int),()) w) (fun l=>((i:Int)-l.1).toNat) (fun l=>0≤l.1) (fun z=>z=.inl ((i:Int)+1,())∨z=.inr (.inr (false,()))) (fun l h0=>?_) (0,()) (by simp);simp only [L5];by_cases hj:l.1<(i:Int)
 ·rw [A0 hj,A0 h0,A0 (show l.1<(w.2.1.length:Int) by omega),A0 (show (0:Int)≤(i:Int) by omega),A0 (show (i:Int)<(w.2.1.length:Int) by omega)];simp only [cond_true];rw [w64 (n:=l.1+1) (by omega) (by omega)];cases ((rd B3 w.2.1 l.1).1.toList == (rd B3 w.2.1 (i:Int)).1.toList)
  ·exact .inl ⟨_,rfl,by simp only;omega,by simp only;omega⟩
  ·exact .inr ⟨_,rfl,.inr rfl⟩
 ·rw [A3 hj,w64 (n:=(i:Int)+1) (by omega) (by omega)];exact .inr ⟨_,rfl,.inl rfl⟩
theorem D2G(w:A5)(h:D8c w)(i:Nat)(hi:i<w.2.1.length):B8 (A3K w ((i:Int),())) (0,())=B8 (L5 ((i:Int),()) w) (0,()):=by
 have hl:=h.1;have hlen:((w.2.1.take i).drop 0).length=i:=by simp;omega
 refine A9N (fun l=>0≤l.1) (fun l h0=>?_) (fun l y h0 e=>?_) (by simp)
 ·simp only [A3K,L5,Int.toNat_natCast,hlen];by_cases hj:l.1<(i:Int)
  ·obtain ⟨j,hn⟩:∃ j:Nat,l.1=(j:Int):=⟨l.1.toNat,by omega⟩;rw [hn] at hj h0 ⊢;rw [A0 hj,A0 h0,A0 (show (j:Int)<(w.2.1.length:Int) by omega),A0 (show (0:Int)≤(i:Int) by omega),A0 (show (i:Int)<(w.2.1.length:Int) by omega)];simp only [cond_true];have e:rd B3 ((w.2.1.take i).drop 0) (j:Int)=rd B3 w.2.1 (j:Int):=by
    rw [C3 (k:=B3) (xs:=(w.2.1.take i).drop 0) (by rw [hlen];omega),C3 (k:=B3) (xs:=w.2.1) (by omega)];simp
   rw [e]
  ·rw [A3 hj];rfl
 ·simp only [A3K,Int.toNat_natCast,hlen] at e;by_cases hj:l.1<(i:Int)
  ·rw [A0 hj,A0 h0] at e;simp only [cond_true] at e;rw [w64 (n:=l.1+1) (by omega) (by omega)] at e;revert e;cases ((rd B3 ((w.2.1.take i).drop 0) l.1).1.toList == (rd B3 w.2.1 (i:Int)).1.toList)
   ·intro e;simp only [cond_false] at e;injection e with e;injection e with e;subst e
    simp only;omega
   ·intro e;simp only [cond_true] at e;injection e with e;cases e
  ·rw [A3 hj] at e;simp only [cond_false] at e;injection e with e;cases e
theorem B8p(w:A5)(h:D8c w)(l:Int×Unit)(h0:0≤l.1) :
  A3L L6 w l=H2 G1 w l∧((∃ y,H2 G1 w l=some (.inl y)∧y.1=l.1+1∧l.1<(w.2.1.length:Int))∨H2 G1 w l=some (.inr (.inl ()))∨H2 G1 w l=some (.inr (.inr (false,())))):=by
 have hl:=h.1;simp only [A3L,H2];by_cases hi:l.1<(w.2.1.length:Int)
 ·obtain ⟨i,hn⟩:∃ i:Nat,l.1=(i:Int):=⟨l.1.toNat,by omega⟩;obtain ⟨l1,u⟩:=l;simp only at hn hi h0;subst hn;have hi':i<w.2.1.length:=by omega
  have hsz:(rd B3 w.2.1 (i:Int)).1.size≤maxLen:=by
   rw [C3 (k:=B3) (xs:=w.2.1) hi'];exact h.2 _ (List.getElem_mem hi')
  simp only;rw [A0 hi,A0 h0,A6B _ hsz,A2r _ hsz,A0 (show (i:Int)≤(w.2.1.length:Int) by omega),D2G w h i hi'];simp only [cond_true,A4];cases G7 (rd B3 w.2.1 (i:Int)) with
  | false=>exact ⟨trivial,.inr (.inr rfl)⟩
  | true=>
   obtain ⟨z,e,hz⟩:=D2F w h i hi';simp only [Bool.not_true,cond_false];refine ⟨trivial,?_⟩;rw [e];rcases hz with rfl | rfl
   ·exact .inl ⟨_,rfl,rfl,hi⟩
   ·exact .inr (.inr rfl)
 ·rw [A3 hi];exact ⟨rfl,.inr (.inl rfl)⟩
theorem D5I(w:A5)(h:D8c w):∃ b,W5 w=some (b,())∧A2m w=some (b,())∧(b=true→w.2.1.length≤6∧w.2.2.1.length=w.2.1.length∧w.2.2.2.2.2.length=w.2.1.length):=by
 have hl:=h.1;have e1:B8 (A3L L6 w) (0,())=B8 (H2 G1 w) (0,()):=by
  refine A9N (fun l=>0≤l.1) (fun l h0=>(B8p w h l h0).1) (fun l y h0 e=>?_) (by simp);rw [(B8p w h l h0).1] at e;rcases (B8p w h l h0).2 with ⟨y',e2,e3,_⟩ | e2 | e2
  ·rw [e2] at e;injection e with e;injection e with e;subst e;omega
  ·rw [e2] at e;injection e with e;cases e
  ·rw [e2] at e;injection e with e;cases e
 obtain ⟨z,e2,hz⟩:=Y4 (H2 G1 w) (fun l=>((w.2.1.length:Int)-l.1).toNat) (fun l=>0≤l.1) (fun z=>z=.inl ()∨z=.inr (false,())) (fun l h0=>by
  rcases (B8p w h l h0).2 with ⟨y',e2,e3,e4⟩ | e2 | e2
  ·exact .inl ⟨y',e2,by omega,by omega⟩
  ·exact .inr ⟨_,e2,.inl rfl⟩
  ·exact .inr ⟨_,e2,.inr rfl⟩) (0,()) (by simp)
 simp only [W5,A4M,A2m,B03,e1,e2];rcases hz with rfl | rfl
 ·simp only [B7];by_cases h1:(w.2.1.length:Int)≤6
  ·rw [A0 h1];by_cases h2:(w.2.2.1.length:Int)=(w.2.1.length:Int)
   ·rw [A0 h2];refine ⟨_,rfl,rfl,fun e=>?_⟩;have e3:=of_decide_eq_true e;omega
   ·rw [A3 h2];exact ⟨_,rfl,rfl,fun e=>by cases e⟩
  ·rw [A3 h1];exact ⟨_,rfl,rfl,fun e=>by cases e⟩
 ·exact ⟨_,rfl,rfl,fun e=>by cases e⟩
def D2H(n:Nat)(a:K9):Bool:=A1I a.2.1&&decide (0≤a.1∧a.1≤(n:Int)-1)
def E3j(w:A5):Prop:=A6c w.1.1.1.1∧w.1.2.length≤1048576∧D8c w∧(w.2.2.2.1.length≤1048576∧∀ a∈w.2.2.2.1,a.2.1.2.1.size≤maxLen)∧w.2.2.2.2.1.length≤1048576
theorem C5B(w:A5)(h:E3j w):∃ b,Z0 w=some (b,())∧A0Z w=some (b,()):=by
 obtain ⟨h1,h2,h3,⟨h4,h4'⟩,h5⟩:=h;have hc:=h3.1;obtain ⟨bs,es,ei,_⟩:=D2C w.1 h1 h2;obtain ⟨bc,cs,ci,_⟩:=D5I w h3;have ht:=B8o w w.2.2.2.2.1 (by simp only [maxLen];omega) hc;have ht':=D2E w w.2.2.2.2.1 (by simp only [maxLen];omega) hc;have hh:=B8o w w.1.2 (by simp only [maxLen];omega) hc;have hh':=D2E w w.1.2 (by simp only [maxLen];omega) hc;have hloop:=B6N (A01 A5U E4 w) w.2.2.2.1.length (by simp only [maxLen];omega) (fun i=>D2H w.2.1.length (rd G0 w.2.2.2.1 (i:Int))) (fun i hi=>by
  have g1:((i:Int)<(w.2.2.2.1.length:Int)):=by omega
  have g2:(0:Int)≤(i:Int):=by omega
  have hsz:(rd G0 w.2.2.2.1 (i:Int)).2.1.2.1.size≤maxLen:=by
   rw [C3 (k:=G0) (xs:=w.2.2.2.1) hi];exact h4' _ (List.getElem_mem hi)
  simp only [A01,A0 g1,A0 g2,cond_true,N1,C59 _ hsz,A4,D2H];rw [w64 (n:=(w.2.1.length:Int)-1) (by omega) (by omega)];cases decide (0≤(rd G0 w.2.2.2.1 (i:Int)).1∧(rd G0 w.2.2.2.1 (i:Int)).1≤(w.2.1.length:Int)-1)<;>cases A1I (rd G0 w.2.2.2.1 (i:Int)).2.1<;>rfl) (by simp [A01])
 have istep:∀ i:Nat,i<w.2.2.2.1.length→A63 A3u C2 w ((i:Int),())=bif D2H w.2.1.length (rd G0 w.2.2.2.1 (i:Int)) then some (.inl (((i+1:Nat):Int),())) else some (.inr (.inr (false,()))):=fun i hi=>by
  have g1:((i:Int)<(w.2.2.2.1.length:Int)):=by omega
  have g2:(0:Int)≤(i:Int):=by omega
  have hsz:(rd G0 w.2.2.2.1 (i:Int)).2.1.2.1.size≤maxLen:=by
   rw [C3 (k:=G0) (xs:=w.2.2.2.1) hi];exact h4' _ (List.getElem_mem hi)
  have e1:((i+1:Nat):Int)=(i:Int)+1:=by omega
  simp only [A63,A0 g1,A0 g2,cond_true,L3,C5A _ hsz,A4,D2H,e1];rw [w64 (n:=(w.2.1.length:Int)-1) (by omega) (by omega),w64 (n:=(i:Int)+1) (by omega) (by omega)];cases decide (0≤(rd G0 w.2.2.2.1 (i:Int)).1∧(rd G0 w.2.2.2.1 (i:Int)).1≤(w.2.1.length:Int)-1)<;>cases A1I (rd G0 w.2.2.2.1 (i:Int)).2.1<;>rfl
 simp only [Z0,A9D,A0Z,B4J,es,ei,cs,ci,ht,ht',hh,hh',hloop,A4];have hirest:(bif A1J w.2.1.length w.2.2.2.2.1 then bif A1J w.2.1.length w.1.2 then some (bs,()) else some (false,()) else some (false,()))=some (A1J w.2.1.length w.2.2.2.2.1&&A1J w.2.1.length w.1.2&&bs,()):=by
  cases A1J w.2.1.length w.2.2.2.2.1<;>cases A1J w.2.1.length w.1.2<;>rfl
 have hi:=E2U istep (by simp [A63]) (fun _=>(bif A1J w.2.1.length w.2.2.2.2.1 then bif A1J w.2.1.length w.1.2 then some (bs,()) else some (false,()) else some (false,()))) _ hirest;rw [C54] at hi;generalize ((List.range w.2.2.2.1.length).all fun i=>D2H w.2.1.length (rd G0 w.2.2.2.1 (i:Int)))=ba at hi ⊢;cases bc with
 | false=>
  cases bs<;>exact ⟨_,rfl,rfl⟩
 | true=>
  simp only [Bool.not_true,cond_false];cases decide ((w.2.2.2.1.length:Int)>60) with
  | true=>cases bs<;>exact ⟨_,rfl,rfl⟩
  | false=>
   cases decide ((w.2.2.2.2.1.length:Int)>60) with
   | true=>cases bs<;>exact ⟨_,rfl,rfl⟩
   | false=>
    simp only [cond_false];have e0:∀ g:Unit→Option (Bool×Unit),B7 (some (.inl ():Unit⊕(Bool×Unit))) g=g ():=fun g=>rfl
    simp only [e0];refine ⟨_,?_,hi⟩;cases bs<;>cases A1J w.2.1.length w.2.2.2.2.1<;>cases A1J w.2.1.length w.1.2<;>simp [B7]
theorem D8d{a b:List Int}(ha:Byt a)(hb:Byt b)(h:(strOf a).toList=(strOf b).toList):a=b:=by
 rw [ByteArray.toList_eq,ByteArray.toList_eq] at h;have h2:(a.map fun n=>UInt8.ofNat n.toNat)=b.map fun n=>UInt8.ofNat n.toNat:=h
 have hl:a.length=b.length:=by simpa using congrArg List.length h2
 refine List.ext_getElem hl fun i h1 h3=>?_
 have h4:=congrArg (fun l=>l[i]?) h2;simp only [List.getElem?_map,List.getElem?_eq_getElem h1,List.getElem?_eq_getElem h3,Option.map_some,Option.some.injEq] at h4;exact E0m (ha _ (List.getElem_mem h1)) (hb _ (List.getElem_mem h3)) h4
theorem B5k{a b:ByteArray}(h:a.toList=b.toList):a=b:=by
 rw [ByteArray.toList_eq,ByteArray.toList_eq] at h;obtain ⟨⟨a⟩⟩:=a;obtain ⟨⟨b⟩⟩:=b;have h:a=b:=h;rw [h]
theorem D8e{a b:TUp}(ha:Byt a.2.2.1)(hb:Byt b.2.2.1)(h:A6D a b=true):a=b:=by
 simp only [A6D,Bool.and_eq_true,beq_iff_eq,decide_eq_true_eq] at h;obtain ⟨⟨⟨h1,h2⟩,h3⟩,h4⟩:=h;obtain ⟨a1,a2,a3,a4⟩:=a;obtain ⟨b1,b2,b3,b4⟩:=b;simp only at h1 h2 h3 h4 ha hb;rw [B5k h1,h2,h3,D8d ha hb h4]
theorem D5J{a b:List TUp}(ha:∀ u∈a,Byt u.2.2.1)(hb:∀ u∈b,Byt u.2.2.1)(h:A14 a b=true):a=b:=by
 simp only [A14,Bool.and_eq_true,decide_eq_true_eq,List.all_eq_true,List.mem_range] at h;refine List.ext_getElem h.1 fun i h1 h3=>?_
 have h4:=h.2 i h1;rw [C3 (k:=kUp) (xs:=a) h1,C3 (k:=kUp) (xs:=b) h3] at h4;exact D8e (ha _ (List.getElem_mem h1)) (hb _ (List.getElem_mem h3)) h4
def wrote(st:A7)(r:H5)(us:List TUp):A7:=((st.1.1.set st.2.2.1.toNat (X2 r),st.1.2),st.2.1,st.2.2.1+1,us)
theorem B2R(st:A7)(a b kind:Int)(id:ByteArray)(n:Int)(data:List Int)(hU:Ups st.2.2.2)(hr:Q0 (st.2.1,st.2.2.1,kind,id,n,data)=true)(hb:Byt data)(h0:0≤st.2.2.1)(h1:st.2.2.1<(st.1.1.length:Int))(hl:st.1.1.length≤1048576)
  (us:List TUp) (hf:J4 st.2.2.2 (st.2.1,st.2.2.1,kind,id,n,data)=some us):F3 st (a,b,kind,id,n,data)=some (wrote st (st.2.1,st.2.2.1,kind,id,n,data) us,()):=by
 have hbd:=A0T hr;simp only at hbd;simp only [F3,A4H];rw [C1u (st.2.1,st.2.2.1,kind,id,n,data) (by simp only;omega) (by simp only;omega) hb,A0 h0,A0 h1];simp only [A4,cond_true];obtain ⟨x,hx,hx2⟩:=D29 st.2.2.2 (st.2.1,st.2.2.1,kind,id,n,data) hU (by simp only;omega);have hI:B2y st.2.2.2 (st.2.1,st.2.2.1,kind,id,n,data)=(us,true,()):=by unfold B2y;rw [hf]
 rw [hI] at hx hx2;rw [hx,hx2 rfl,w64 (by omega) (by omega)];rfl
theorem B2S(st:A7)(kind:Int)(id:ByteArray)(n:Int)(data:List Int)(hU:Ups st.2.2.2)(hr:Q0 (st.2.1,st.2.2.1,kind,id,n,data)=true)(hb:Byt data)(h0:0≤st.2.2.1)(h1:st.2.2.1<(st.1.1.length:Int))(hl:st.1.1.length≤1048576)
  (us:List TUp) (hf:J4 st.2.2.2 (st.2.1,st.2.2.1,kind,id,n,data)=some us):C8 st kind id n data=some (wrote st (st.2.1,st.2.2.1,kind,id,n,data) us,()):=by
 have hbd:=A0T hr;simp only at hbd;simp only [C8,A1H];rw [C1v (st.2.1,st.2.2.1,kind,id,n,data) (by simp only [maxLen];omega) hb,if_pos hr,A0 h0,A0 h1];simp only [A4,cond_true];have hI:B2y st.2.2.2 (st.2.1,st.2.2.1,kind,id,n,data)=(us,true,()):=by unfold B2y;rw [hf]
 rw [C91 st.2.2.2 (st.2.1,st.2.2.1,kind,id,n,data) hU (by simp only;omega),hI,w64 (by omega) (by omega)];rfl
theorem D2I{r:H5}(h:Q0 r=true):(X2 r).size≤1000:=by
 have hb:=A0T h;unfold X2;rw [B2O,List.length_append,B4T,J9];omega
theorem D5K{st:A7}(h:A3y st.1){r:H5}(hr:Q0 r=true)(us:List TUp):A3y (wrote st r us).1:=⟨B8n h.1 _ (by have:=D2I hr;omega),h.2⟩
theorem A7j(us:List TUp)(id:ByteArray)(h:us.length≤maxLen):G4 us id=some (if F5 us id=true then (A9 us id:Int) else -1):=by
 simp only [G4,C90 us id h,A4];cases F5 us id<;>rfl
theorem B8q(us:List TUp)(id:ByteArray)(h:Ups us):P4 us id=some (if F5 us id=true then (A9 us id:Int) else -1,()):=by
 have hl:=h.2.1;rw [D21 us id (by simp only [maxLen];omega)];cases hh:F5 us id with
 | true=>
  obtain ⟨hlt,_⟩:=H4.1 hh;rw [B8k h.1 hh,if_pos hlt,if_pos rfl]
 | false=>rw [B8l h.1 hh,if_neg (Nat.lt_irrefl _),if_neg (by simp)]
theorem D2J{id:ByteArray}(h:idB id=true):id.size≤8:=by
 simp only [idB,Bool.and_eq_true,decide_eq_true_eq] at h;omega
theorem B5l(st:A7)(h0:0≤st.2.2.1)(h1:st.2.2.1≤(st.1.1.length:Int))(hl:st.1.1.length≤1048576):L2 st=some ((st.1.1.length:Int)-st.2.2.1,st,()):=by
 simp only [L2,A8H];rw [w64 (by omega) (by omega)]
theorem B5m(st:A7)(h0:0≤st.2.2.1)(h1:st.2.2.1≤(st.1.1.length:Int))(hl:st.1.1.length≤1048576):S5 st=some ((st.1.1.length:Int)-st.2.2.1,()):=by
 simp only [S5,B48];rw [w64 (by omega) (by omega)]
def D6(n:Int):F0:=if 0≤n∧n≤200 then (List.replicate n.toNat ⟨#[]⟩,List.replicate n.toNat ⟨#[]⟩) else ([],[])
theorem D2K(n:Int):List.length (D6 n).1≤200∧List.length (D6 n).2≤200:=by
 unfold D6;split
 ·simp;omega
 ·simp
theorem D0H(n:Int):A6Q n=some (D6 n,()):=by
 simp only [A6Q,B4E,D6];by_cases h:0≤n∧n≤200
 ·rw [if_pos h];have key:=D3 (A2i n) (fun i=>((i:Int),List.replicate i ⟨#[]⟩,List.replicate i ⟨#[]⟩,())) n.toNat ((List.replicate n.toNat ⟨#[]⟩,List.replicate n.toNat ⟨#[]⟩),()) (fun i hi=>?_) ?_
  ·exact key
  ·have h1:(i:Int)<n:=by omega
   simp only [A2i,A0 h1,A0 h.2,cond_true,B7];rw [A0 (by simp;omega),A0 (by simp;omega)];simp only [cond_true];rw [w64 (by omega) (by omega),List.replicate_succ'];rfl
  ·have h1:¬ ((n.toNat:Int)<n):=by omega
   simp only [A2i,A3 h1,cond_false,B7]
 ·rw [if_neg h];refine D8Z ?_;simp only [A2i];by_cases h1:(0:Int)<n
  ·rw [A0 h1,A3 (show ¬ n≤200 by omega)];rfl
  ·rw [A3 h1];rfl
def A1F(n:Int):D8:=((D6 n,0,0,[]),[])
theorem C5C(n:Int):A2j n=some (A1F n,()):=by
 simp only [A2j,B01,A7R,B20,D0H,A4,A1F]
theorem bO{α β:Type}(x:α)(f:α→Option β):A4 (some x) f=f x:=rfl
theorem D8f(c:H7)(n:Int)(h:Cur c)(hn:0<n∧n<9223372036854775808):∃ b c',A5L c n=some (b,c',())∧Cur c':=by
 obtain ⟨r,c',e,hc,_⟩:=A8O c n h hn;simp only [A5L,B7P,e,A4];exact ⟨_,_,rfl,hc⟩
theorem C0f{us:List TUp}{id:ByteArray}(hh:F5 us id=true)(u:TUp)(hu:u.1=(rd kUp us (A9 us id:Int)).1):F5 (us.set (A9 us id) u) id=true∧A9 (us.set (A9 us id) u) id=A9 us id∧rd kUp (us.set (A9 us id) u) (A9 us id:Int)=u:=by
 obtain ⟨hlt,hid⟩:=H4.1 hh;rw [C3 (k:=kUp) (xs:=us) hlt] at hu;have hk:∀ q (hq:q<us.length),((us.set (A9 us id) u)[q]'(by simpa using hq)).1=us[q].1:=fun q hq=>by
  rw [List.getElem_set];split
  ·rename_i e;subst e;exact hu
  ·rfl
 have hrd:rd kUp (us.set (A9 us id) u) (A9 us id:Int)=u:=E3i (k:=kUp) hlt u;have e1:A9 (us.set (A9 us id) u) id=A9 us id:=by
  refine A6a _ (us.set (A9 us id) u).length _ (by simp;omega) (fun j hj=>?_) (fun _=>?_)
  ·rw [C3 (k:=kUp) (xs:=us.set (A9 us id) u) (by simp;omega),hk j (by omega)];exact B0l hj
  ·rw [hrd,hu];exact B8i hlt
 refine ⟨?_,e1,hrd⟩;unfold F5;rw [e1,hrd,hu,hid];simp;omega
theorem D7T{l:List ByteArray}{s:ByteArray}(hs:s∈l)(hk:(D4 s).2.1=true):(D4 s).1.1≤A2c l:=by
 have h:=B5j (D4 s).1.1 l (-1);by_cases hx:(D4 s).1.1≤A2c l
 ·exact hx
 ·exfalso;have h1:decide (l.foldl A3x (-1)<(D4 s).1.1)=true:=decide_eq_true (by have:A2c l=l.foldl A3x (-1):=rfl;omega);rw [h1] at h;have h2:=(Bool.and_eq_true _ _▸h.symm:_∧_).2;have h3:=List.all_eq_true.1 h2 s hs;simp only [A2v,hk,Bool.true_and] at h3;rw [A0 (by omega)] at h3;cases h3
def A3z(d:F0):Bool:=decide (d.1.length=d.2.length∧d.1.length≤200)&&((List.range d.1.length).all fun i=>!decide (((rd .str d.1 (i:Int)).size:Int)>64)&&!decide (((rd .str d.2 (i:Int)).size:Int)>64))
theorem A6d(d:F0):T7 d=some (A3z d,()):=by
 simp only [T7,B1r,A3z];by_cases h1:(d.1.length:Int)=(d.2.length:Int)
 ·rw [A0 h1];by_cases h2:(d.1.length:Int)>200
  ·rw [A0 h2,A3 (show ¬ (d.1.length=d.2.length∧d.1.length≤200) by omega)];rfl
  ·rw [A3 h2,A0 (show d.1.length=d.2.length∧d.1.length≤200 by omega)];simp only [Bool.not_true,cond_false,B7,Bool.true_and];refine B6N (A0g d) d.1.length (by simp only [maxLen];omega) (fun i=>!decide (((rd .str d.1 (i:Int)).size:Int)>64)&&!decide (((rd .str d.2 (i:Int)).size:Int)>64)) (fun i hi=>?_) (by simp [A0g]);have g1:((i:Int)<(d.1.length:Int)):=by omega
   have g2:(0:Int)≤(i:Int):=by omega
   have g3:((i:Int)<(d.2.length:Int)):=by omega
   simp only [A0g,A0 g1,A0 g2,A0 g3,cond_true];cases decide (((rd .str d.1 (i:Int)).size:Int)>64)<;>cases decide (((rd .str d.2 (i:Int)).size:Int)>64)<;>rfl
 ·rw [A3 h1,A3 (show ¬ (d.1.length=d.2.length∧d.1.length≤200) by omega)];rfl
theorem D8g{d:F0}(h:A3z d=true):A3z (d.1,d.1)=true:=by
 simp only [A3z,Bool.and_eq_true] at h ⊢;refine ⟨decide_eq_true ⟨trivial,(of_decide_eq_true h.1).2⟩,List.all_eq_true.2 fun i hi=>?_⟩;have:=List.all_eq_true.1 h.2 i hi;simp only [Bool.and_eq_true] at this ⊢;exact ⟨this.1,this.1⟩
theorem B6P(us:List TUp):A14 us us=true:=by
 simp only [A14,Bool.and_eq_true];refine ⟨decide_eq_true trivial,List.all_eq_true.2 fun i hi=>?_⟩;simp [A6D]
def B0m(us:List TUp)(id:ByteArray)(ch:List Int):List TUp:=
 us.set (A9 us id) ((rd kUp us (A9 us id:Int)).1,(rd kUp us (A9 us id:Int)).2.1,(rd kUp us (A9 us id:Int)).2.2.1++ch,(rd kUp us (A9 us id:Int)).2.2.2)
def D0I(st:A7)(id:ByteArray)(n:Int)(ch:List Int):A7:=wrote st (st.2.1,st.2.2.1,2,id,n,ch) (B0m st.2.2.2 id ch)
def putAt(st:A7)(id:ByteArray)(off:Int)(dat:List Int):Nat→A7
 | 0=>st
 | j+1=>D0I (putAt st id off dat j) id (off+((j*24:Nat):Int)) (K0 24 dat j)
def nPc(dat:List Int):Nat:=(dat.length+24-1) / 24
structure D5L (st:A7) (id:ByteArray) (off:Int) (dat:List Int):Prop where
 idok:idB id=true
 ep:0≤st.2.1∧st.2.1≤10000
 nx:0≤st.2.2.1∧st.2.2.1+(nPc dat:Int)≤(st.1.1.length:Int)
 len:st.1.1.length≤200
 dk:A3y st.1
 up:Ups st.2.2.2
 has:F5 st.2.2.2 id=true
 nd:(rd kUp st.2.2.2 (A9 st.2.2.2 id:Int)).2.2.2=false
 at':off=(List.length (rd kUp st.2.2.2 (A9 st.2.2.2 id:Int)).2.2.1:Int)
 fits:off+(dat.length:Int)≤(rd kUp st.2.2.2 (A9 st.2.2.2 id:Int)).2.1
 byt:Byt dat
 lo:1≤dat.length
structure E2a (st:A7) (id:ByteArray) (off:Int) (dat:List Int) (j:Nat) (s:A7):Prop where
 ep:s.2.1=st.2.1
 nx:s.2.2.1=st.2.2.1+(j:Int)
 len:s.1.1.length=st.1.1.length
 dk:A3y s.1
 up:Ups s.2.2.2
 has:F5 s.2.2.2 id=true
 ix:A9 s.2.2.2 id=A9 st.2.2.2 id
 val:rd kUp s.2.2.2 (A9 s.2.2.2 id:Int)=((rd kUp st.2.2.2 (A9 st.2.2.2 id:Int)).1,(rd kUp st.2.2.2 (A9 st.2.2.2 id:Int)).2.1,(rd kUp st.2.2.2 (A9 st.2.2.2 id:Int)).2.2.1++dat.take (j*24),false)
theorem B7l(dat:List Int)(j:Nat)(h:j*24<dat.length):1≤(K0 24 dat j).length∧(K0 24 dat j).length≤24∧(K0 24 dat j).length=min (j*24+24) dat.length-j*24:=by
 have e:(K0 24 dat j).length=min (j*24+24) dat.length-j*24:=by unfold K0;rw [List.length_drop,List.length_take]
 rw [e];refine ⟨by omega,by omega,rfl⟩
theorem D2L(dat:List Int)(j:Nat):dat.take (j*24)++K0 24 dat j=dat.take ((j+1)*24):=by
 have h:=List.take_append_drop (j*24) (dat.take (j*24+24));rw [List.take_take,Nat.min_eq_left (by omega)] at h;rw [show (j+1)*24=j*24+24 by omega];exact h
theorem B4W{dat:List Int}{j:Nat}:j<nPc dat↔j*24<dat.length:=by
 unfold nPc;omega
theorem B0n{st:A7}{id:ByteArray}{off:Int}{dat:List Int}(hc:D5L st id off dat){j:Nat}{s:A7}(h:E2a st id off dat j s)(hj:j<nPc dat) :
  Q0 (s.2.1,s.2.2.1,2,id,off+((j*24:Nat):Int),K0 24 dat j)=true∧J4 s.2.2.2 (s.2.1,s.2.2.1,2,id,off+((j*24:Nat):Int),K0 24 dat j)=some (B0m s.2.2.2 id (K0 24 dat j))∧
   E2a st id off dat (j+1) (D0I s id (off+((j*24:Nat):Int)) (K0 24 dat j)):=by
 obtain ⟨p1,p2,p3⟩:=B7l dat j (B4W.1 hj);have hj2:=B4W.1 hj;have hlen0:(List.length (dat.take (j*24)):Int)=((j*24:Nat):Int):=by rw [List.length_take];omega
 obtain ⟨hlt,_⟩:=H4.1 hc.has;have hu:=hc.up.2.2 _ (List.getElem_mem hlt);rw [← C3 (k:=kUp) hlt] at hu;have hu1:=hu.1;have hu2:=hu.2.1;have hat:=hc.at';have hft:=hc.fits;have hn1:=hc.nx.1;have hn2:=hc.nx.2;have hl:=hc.len;have hnx:=h.nx;have hbp:Byt (K0 24 dat j):=A4i (A22 hc.byt _) _;have hr:Q0 (s.2.1,s.2.2.1,2,id,off+((j*24:Nat):Int),K0 24 dat j)=true:=by
  simp only [Q0,hc.idok,h.ep];rw [A0 hc.ep,A0 (show 0≤s.2.2.1∧s.2.2.1≤199 by omega),if_neg (by omega),if_pos trivial,A0 (show 0≤off+((j*24:Nat):Int)∧off+((j*24:Nat):Int)≤1000000000 by omega),A0 (show 1≤(List.length (K0 24 dat j):Int)∧(List.length (K0 24 dat j):Int)≤24 by omega)];rfl
 have hf:J4 s.2.2.2 (s.2.1,s.2.2.1,2,id,off+((j*24:Nat):Int),K0 24 dat j)=some (B0m s.2.2.2 id (K0 24 dat j)):=by
  have e1:(List.length (rd kUp s.2.2.2 (A9 s.2.2.2 id:Int)).2.2.1:Int)=off+((j*24:Nat):Int):=by
   rw [h.val];simp only [List.length_append];omega
  have e2:(rd kUp s.2.2.2 (A9 s.2.2.2 id:Int)).2.2.2=false:=by rw [h.val]
  have e3:@Eq Int (rd kUp s.2.2.2 (A9 s.2.2.2 id:Int)).2.1 (rd kUp st.2.2.2 (A9 st.2.2.2 id:Int)).2.1:=by rw [h.val]
  simp only [J4,h.has,e2,B0m];rw [if_neg (by omega),if_neg (by simp),if_pos trivial,if_neg (fun hx=>by
   rcases hx with hx | hx | hx
   ·cases hx
   ·exact hx e1.symm
   ·have hx2:(List.length (rd kUp s.2.2.2 (A9 s.2.2.2 id:Int)).2.2.1:Int)+(List.length (K0 24 dat j):Int)>(rd kUp st.2.2.2 (A9 st.2.2.2 id:Int)).2.1:=by rw [← e3];exact hx
    omega)]
 have hus:=A3w h.up ⟨hr,hbp⟩ hf;obtain ⟨k1,k2,k3⟩:=C0f h.has ((rd kUp s.2.2.2 (A9 s.2.2.2 id:Int)).1,(rd kUp s.2.2.2 (A9 s.2.2.2 id:Int)).2.1,(rd kUp s.2.2.2 (A9 s.2.2.2 id:Int)).2.2.1++K0 24 dat j,(rd kUp s.2.2.2 (A9 s.2.2.2 id:Int)).2.2.2) rfl;refine ⟨hr,hf,h.ep,?_,?_,D5K h.dk hr _,hus,k1,k2.trans h.ix,?_⟩
 ·show s.2.2.1+1=st.2.2.1+((j+1:Nat):Int);omega
 ·show (s.1.1.set _ _).length=_;rw [List.length_set];exact h.len
 ·show rd kUp (s.2.2.2.set (A9 s.2.2.2 id) _) ((A9 (s.2.2.2.set (A9 s.2.2.2 id) _) id:Nat):Int)=_;rw [k2,k3,h.val];simp only [List.append_assoc,D2L]
theorem D5M{st:A7}{id:ByteArray}{off:Int}{dat:List Int}(hc:D5L st id off dat):E2a st id off dat 0 st:=
 ⟨rfl,by simp,rfl,hc.dk,hc.up,hc.has,rfl,by
  have e2:(rd kUp st.2.2.2 (A9 st.2.2.2 id:Int)).2.2.2=false:=hc.nd;rw [Nat.zero_mul,List.take_zero,List.append_nil,← e2]⟩
theorem B5n{st:A7}{id:ByteArray}{off:Int}{dat:List Int}(hc:D5L st id off dat):∀ j,j≤nPc dat→E2a st id off dat j (putAt st id off dat j)
 | 0,_=>D5M hc
 | j+1,hj=>(B0n hc (B5n hc j (by omega)) (by omega)).2.2
theorem C5D{st:A7}{id:ByteArray}{off:Int}{dat:List Int}(hc:D5L st id off dat):∀ (k j:Nat),j+k=nPc dat→∀ o:Int,(j<nPc dat→o=off+((j*24:Nat):Int))→
  ∃ o',B6F (A1M C8 id) ((pieces 24 dat).drop j) (o,(putAt st id off dat j).2.1,(putAt st id off dat j).2.2.1,(putAt st id off dat j).1.1,(putAt st id off dat j).1.2,(putAt st id off dat j).2.2.2,()) =
   some (o',(putAt st id off dat (nPc dat)).2.1,(putAt st id off dat (nPc dat)).2.2.1,(putAt st id off dat (nPc dat)).1.1,(putAt st id off dat (nPc dat)).1.2,(putAt st id off dat (nPc dat)).2.2.2,())
 | 0,j,hj,o,_=>by
  rw [Nat.add_zero] at hj;subst hj;have:(pieces 24 dat).length=nPc dat:=by simp [pieces,nPc]
  rw [← this,List.drop_length];exact ⟨o,rfl⟩
 | k+1,j,hj,o,ho=>by
  have hlt:j<nPc dat:=by omega
  have hlen:(pieces 24 dat).length=nPc dat:=by simp [pieces,nPc]
  have hdrop:(pieces 24 dat).drop j=K0 24 dat j::(pieces 24 dat).drop (j+1):=by
   rw [List.drop_eq_getElem_cons (by omega)];simp [pieces]
  have ho:=ho hlt;have hI:=B5n hc j (by omega);obtain ⟨hr,hf,hn⟩:=B0n hc hI hlt;have hl:=hc.len;have hn1:=hc.nx.1;have hn2:=hc.nx.2;have hnx:=hI.nx;have hle:=hI.len;obtain ⟨hlt',_⟩:=H4.1 hc.has;have hu:=hc.up.2.2 _ (List.getElem_mem hlt');rw [← C3 (k:=kUp) hlt'] at hu;have hu2:=hu.2.1;have hat:=hc.at';have hft:=hc.fits;obtain ⟨p1,p2,p3⟩:=B7l dat j (B4W.1 hlt);have hj2:=B4W.1 hlt;have hw:=B2S (putAt st id off dat j) 2 id (off+((j*24:Nat):Int)) (K0 24 dat j) hI.up hr (A4i (A22 hc.byt _) _) (by omega) (by omega) (by omega) _ hf;rw [hdrop];simp only [B6F,A1M];have hw':C8 (((putAt st id off dat j).1.1,(putAt st id off dat j).1.2),((putAt st id off dat j).2.1,((putAt st id off dat j).2.2.1,(putAt st id off dat j).2.2.2))) 2 id o (K0 24 dat j)=some (putAt st id off dat (j+1),()):=by
   rw [ho];exact hw
  rw [hw',w64 (by omega) (by omega)];simp only [A4];exact C5D hc k (j+1) (by omega) _ (fun hl2=>by have:=B4W.1 hl2;omega)
theorem D5N{st:A7}{id:ByteArray}{off:Int}{dat:List Int}(hc:D5L st id off dat)(h400:dat.length≤400) :
  B8 (A1K F3 dat id off) (0,st.2.1,st.2.2.1,st.2.2.2,st.1.1,st.1.2,()) =
   some ((putAt st id off dat (nPc dat)).2.1,(putAt st id off dat (nPc dat)).2.2.1,(putAt st id off dat (nPc dat)).2.2.2,(putAt st id off dat (nPc dat)).1.1,(putAt st id off dat (nPc dat)).1.2,()):=by
 obtain ⟨z,e,hz⟩:=Y4 (A1K F3 dat id off) (fun l=>((dat.length:Int)+24-l.1).toNat)
  (fun l=>∃ j:Nat,j≤nPc dat∧l=(((j*24:Nat):Int),(putAt st id off dat j).2.1,(putAt st id off dat j).2.2.1,(putAt st id off dat j).2.2.2,(putAt st id off dat j).1.1,(putAt st id off dat j).1.2,()))
  (fun z=>z=((putAt st id off dat (nPc dat)).2.1,(putAt st id off dat (nPc dat)).2.2.1,(putAt st id off dat (nPc dat)).2.2.2,(putAt st id off dat (nPc dat)).1.1,(putAt st id off dat (nPc dat)).1.2,())) (fun l hl=>by
   obtain ⟨j,hj,rfl⟩:=hl;have hI:=B5n hc j hj;have hl:=hc.len;have hn1:=hc.nx.1;have hn2:=hc.nx.2;have hnx:=hI.nx;have hle:=hI.len;obtain ⟨hlt',_⟩:=H4.1 hc.has;have hu:=hc.up.2.2 _ (List.getElem_mem hlt');rw [← C3 (k:=kUp) hlt'] at hu;have hu2:=hu.2.1;have hat:=hc.at';have hft:=hc.fits;simp only [A1K];by_cases hi:j<nPc dat
   ·have hj2:=B4W.1 hi;obtain ⟨hr,hf,hn⟩:=B0n hc hI hi;obtain ⟨p1,p2,p3⟩:=B7l dat j hj2;rw [A0 (show ((j*24:Nat):Int)<(dat.length:Int) by omega),w64 (n:=((j*24:Nat):Int)+24) (by omega) (by omega)];obtain ⟨to,hto,hto2⟩:∃ to:Int,(bif decide (((j*24:Nat):Int)+24>(dat.length:Int)) then some ((dat.length:Int),()) else some (((j*24:Nat):Int)+24,()))=some (to,())∧(to.toNat=min (j*24+24) dat.length∧0≤to):=by
     by_cases hcc:((j*24:Nat):Int)+24>(dat.length:Int)
     ·rw [A0 hcc];exact ⟨_,rfl,by omega,by omega⟩
     ·rw [A3 hcc];exact ⟨_,rfl,by omega,by omega⟩
    simp only [cond_true,hto,bO];have hpc:(dat.take to.toNat).drop ((j*24:Nat):Int).toNat=K0 24 dat j:=by
     rw [hto2.1,Int.toNat_natCast,K0,List.take_eq_take_iff.2 (show min (min (j*24+24) dat.length) dat.length=min (j*24+24) dat.length by omega)]
    rw [hpc,A0 (show 0≤((j*24:Nat):Int) by omega),A0 (show ((j*24:Nat):Int)≤to by omega),A0 (show to≤(dat.length:Int) by omega),A0 (by simp;omega),A0 (by simp;omega),w64 (n:=off+((j*24:Nat):Int)) (by omega) (by omega)];simp only [cond_true,List.nil_append];have hw:=B2R (putAt st id off dat j) 0 0 2 id (off+((j*24:Nat):Int)) (K0 24 dat j) hI.up hr (A4i (A22 hc.byt _) _) (by omega) (by omega) (by omega) _ hf;have hw':F3 (((putAt st id off dat j).1.1,(putAt st id off dat j).1.2),((putAt st id off dat j).2.1,((putAt st id off dat j).2.2.1,(putAt st id off dat j).2.2.2))) (0,(0,(2,(id,(off+((j*24:Nat):Int),K0 24 dat j)))))=some (putAt st id off dat (j+1),()):=hw;rw [hw'];simp only [bO];refine .inl ⟨_,rfl,⟨j+1,by omega,?_⟩,by simp only;omega⟩;rw [show ((j*24:Nat):Int)+24=(((j+1)*24:Nat):Int) by omega]
   ·have:j=nPc dat:=by omega
    subst this;have:¬ nPc dat*24<dat.length:=fun h=>hi (B4W.2 h)
    rw [A3 (show ¬ ((nPc dat*24:Nat):Int)<(dat.length:Int) by omega)];exact .inr ⟨_,rfl,rfl⟩) (0,st.2.1,st.2.2.1,st.2.2.2,st.1.1,st.1.2,()) ⟨0,by omega,rfl⟩
 rw [e,hz]
def A23(st:A7)(id:ByteArray)(off:Int)(dat:List Int):A7×Int:=
 if idB id=true∧1≤dat.length∧dat.length≤400 then
  (if F5 st.2.2.2 id=true then
   (if (rd kUp st.2.2.2 (A9 st.2.2.2 id:Int)).2.2.2=true∨off≠(List.length (rd kUp st.2.2.2 (A9 st.2.2.2 id:Int)).2.2.1:Int)∨off+(dat.length:Int)>(rd kUp st.2.2.2 (A9 st.2.2.2 id:Int)).2.1 then (st,4)
    else if (st.1.1.length:Int)-st.2.2.1<(nPc dat:Int) then (st,5) else (putAt st id off dat (nPc dat),0))
   else (st,2))
 else (st,1)
theorem E0t(dat:List Int)(h:dat.length≤400):(IntKind.i64.wrap ((IntKind.i64.wrap ((IntKind.i64.wrap ((dat.length:Int)+24))-1)).tdiv 24))=(nPc dat:Int):=by
 have htd:((dat.length:Int)+24-1).tdiv 24=(nPc dat:Int):=by
  rw [Int.tdiv_eq_ediv_of_nonneg (by omega)];unfold nPc;omega
 rw [w64 (n:=(dat.length:Int)+24) (by omega) (by omega),w64 (n:=(dat.length:Int)+24-1) (by omega) (by omega),htd,w64 (by unfold nPc;omega) (by unfold nPc;omega)]
structure Rt (st:A7):Prop where
 g:C55 st
 up:Ups st.2.2.2
 dk:A3y st.1
theorem B2T{st:A7}{id:ByteArray}{off:Int}{dat:List Int}(h:Rt st)(hb:Byt dat)(h1:idB id=true)(h2:1≤dat.length∧dat.length≤400)(h3:F5 st.2.2.2 id=true)
  (h4:¬ ((rd kUp st.2.2.2 (A9 st.2.2.2 id:Int)).2.2.2=true∨off≠(List.length (rd kUp st.2.2.2 (A9 st.2.2.2 id:Int)).2.2.1:Int)∨off+(dat.length:Int)>(rd kUp st.2.2.2 (A9 st.2.2.2 id:Int)).2.1))
  (h5:¬ (st.1.1.length:Int)-st.2.2.1<(nPc dat:Int)):D5L st id off dat:=by
 obtain ⟨g1,g2,g3,g4,⟨g5,g6⟩,_⟩:=h.g;rw [not_or,not_or] at h4;refine ⟨h1,⟨g1,g2⟩,⟨g5,by omega⟩,g4,h.dk,h.up,h3,by simpa using h4.1,Decidable.not_not.1 h4.2.1,by have h6:=h4.2.2;exact Int.not_lt.1 h6,hb,h2.1⟩
theorem D5O(st:A7)(id:ByteArray)(off:Int)(dat:List Int)(hid:id.size≤maxLen)(h:Rt st)(hb:Byt dat)(hd:dat.length≤1048576)(ho:-9223372036854775808≤off∧off≤9223372036854775807) :
  A0y st id off dat=some ((A23 st id off dat).2,(A23 st id off dat).1,()):=by
 obtain ⟨g1,g2,g3,g4,⟨g5,g6⟩,_⟩:=h.g;have hU:=h.up;have hl:st.1.1.length≤1048576:=by omega
 have hul:=hU.2.1;simp only [A0y,A6q,B2N id hid,L3,bO,A23];cases hidb:idB id with
 | false=>simp [B7]
 | true=>
  simp only [Bool.not_true,cond_false,true_and];by_cases hlen:1≤(dat.length:Int)∧(dat.length:Int)≤400
  ·rw [A0 hlen,if_pos (show 1≤dat.length∧dat.length≤400 by omega)];simp only [Bool.not_true,cond_false,B7];rw [A7j st.2.2.2 id (by simp only [maxLen];omega),B5l st g5 g6 hl,E0t dat (by omega)];cases hh:F5 st.2.2.2 id with
   | false=>
    simp only [Bool.false_eq_true,if_false,bO];rw [A0 (show (-1:Int)<0 by omega)];rfl
   | true=>
    obtain ⟨hlt,hid2⟩:=H4.1 hh;have hu:=hU.2.2 _ (List.getElem_mem hlt);rw [← C3 (k:=kUp) hlt] at hu;have hu1:=hu.1;have hu2:=hu.2.1;simp only [if_true,bO];rw [A3 (show ¬ (A9 st.2.2.2 id:Int)<0 by omega)];simp only [cond_false];cases hdn:(rd kUp st.2.2.2 (A9 st.2.2.2 id:Int)).2.2.2 with
    | true=>simp [bO]
    | false=>
     simp only [cond_false];cases ho':decide (off=(List.length (rd kUp st.2.2.2 (A9 st.2.2.2 id:Int)).2.2.1:Int)) with
     | false=>
      have ho:=of_decide_eq_false ho';rw [if_pos (.inr (.inl ho))];rfl
     | true=>
      have ho:=of_decide_eq_true ho';simp only [Bool.not_true,cond_false,bO];rw [w64 (n:=off+(dat.length:Int)) (by omega) (by omega)];by_cases hw:off+(dat.length:Int)>(rd kUp st.2.2.2 (A9 st.2.2.2 id:Int)).2.1
      ·rw [A0 hw,if_pos (.inr (.inr hw))];rfl
      ·have hno:¬ ((rd kUp st.2.2.2 (A9 st.2.2.2 id:Int)).2.2.2=true∨off≠(List.length (rd kUp st.2.2.2 (A9 st.2.2.2 id:Int)).2.2.1:Int)∨off+(dat.length:Int)>(rd kUp st.2.2.2 (A9 st.2.2.2 id:Int)).2.1):=by
        rw [hdn];rintro (hx | hx | hx)
        ·cases hx
        ·exact hx ho
        ·exact hw hx
       have hno':=hno;rw [hdn] at hno';rw [A3 hw,if_neg hno'];simp only [cond_false,bO];by_cases hleft:(st.1.1.length:Int)-st.2.2.1<(nPc dat:Int)
       ·rw [A0 hleft,if_pos hleft];rfl
       ·rw [A3 hleft,if_neg hleft,A0 (show dat.length≤1152921504606846976 by omega)];simp only [cond_false,cond_true];have hc:=B2T h hb hidb ⟨by omega,by omega⟩ hh hno hleft;obtain ⟨o',e⟩:=C5D hc (nPc dat) 0 (by omega) off (fun _=>by simp);rw [List.drop_zero] at e;have e':B6F (A1M C8 id) (pieces 24 dat) (off,st.2.1,st.2.2.1,st.1.1,st.1.2,st.2.2.2,())=_:=e;rw [e'];rfl
  ·rw [A3 hlen,if_neg (show ¬ (1≤dat.length∧dat.length≤400) by omega)];rfl
theorem D5P(st:A7)(id:ByteArray)(off:Int)(dat:List Int)(hid:id.size≤maxLen)(h:Rt st)(hS:A8P st)(hok:F7 st=some (true,()))(hb:Byt dat)(hd:dat.length≤1048576)(ho:-9223372036854775808≤off∧off≤9223372036854775807) :
  A0w st id off dat=some ((A23 st id off dat).1,(A23 st id off dat).2,()):=by
 obtain ⟨g1,g2,g3,g4,⟨g5,g6⟩,_⟩:=h.g;have hU:=h.up;have hl:st.1.1.length≤1048576:=by omega
 simp only [A0w,A6o,A4l st hS,hok,A8N id hid,N1,bO,A23];cases hidb:idB id with
 | false=>simp [B7]
 | true=>
  simp only [Bool.not_true,cond_false,true_and];by_cases hlen:1≤(dat.length:Int)∧(dat.length:Int)≤400
  ·rw [A0 hlen,if_pos (show 1≤dat.length∧dat.length≤400 by omega)];simp only [Bool.not_true,cond_false,B7];rw [B8q st.2.2.2 id hU,B5m st g5 g6 hl,E0t dat (by omega)];cases hh:F5 st.2.2.2 id with
   | false=>
    simp only [Bool.false_eq_true,if_false,bO];rw [A0 (show (-1:Int)<0 by omega)];rfl
   | true=>
    obtain ⟨hlt,hid2⟩:=H4.1 hh;have hu:=hU.2.2 _ (List.getElem_mem hlt);rw [← C3 (k:=kUp) hlt] at hu;have hu1:=hu.1;have hu2:=hu.2.1;simp only [if_true,bO];rw [A3 (show ¬ (A9 st.2.2.2 id:Int)<0 by omega),A0 (show (0:Int)≤(A9 st.2.2.2 id:Int) by omega),A0 (show (A9 st.2.2.2 id:Int)<(st.2.2.2.length:Int) by omega)];simp only [cond_true,cond_false];cases hdn:(rd kUp st.2.2.2 (A9 st.2.2.2 id:Int)).2.2.2 with
    | true=>simp [bO]
    | false=>
     simp only [cond_false];cases ho':decide (off=(List.length (rd kUp st.2.2.2 (A9 st.2.2.2 id:Int)).2.2.1:Int)) with
     | false=>
      have ho:=of_decide_eq_false ho';rw [if_pos (.inr (.inl ho))];rfl
     | true=>
      have ho:=of_decide_eq_true ho';simp only [Bool.not_true,cond_false,bO];rw [w64 (n:=off+(dat.length:Int)) (by omega) (by omega)];by_cases hw:off+(dat.length:Int)>(rd kUp st.2.2.2 (A9 st.2.2.2 id:Int)).2.1
      ·rw [A0 hw,if_pos (.inr (.inr hw))];rfl
      ·have hno:¬ ((rd kUp st.2.2.2 (A9 st.2.2.2 id:Int)).2.2.2=true∨off≠(List.length (rd kUp st.2.2.2 (A9 st.2.2.2 id:Int)).2.2.1:Int)∨off+(dat.length:Int)>(rd kUp st.2.2.2 (A9 st.2.2.2 id:Int)).2.1):=by
        rw [hdn];rintro (hx | hx | hx)
        ·cases hx
        ·exact hx ho
        ·exact hw hx
       have hno':=hno;rw [hdn] at hno';rw [A3 hw,if_neg hno'];simp only [cond_false,bO];by_cases hleft:(st.1.1.length:Int)-st.2.2.1<(nPc dat:Int)
       ·rw [A0 hleft,if_pos hleft];rfl
       ·rw [A3 hleft,if_neg hleft];simp only [cond_false];have hc:=B2T h hb hidb ⟨by omega,by omega⟩ hh hno hleft;rw [D5N hc (by omega)];rfl
  ·rw [A3 hlen,if_neg (show ¬ (1≤dat.length∧dat.length≤400) by omega)];rfl
theorem D2M{st:A7}{id:ByteArray}{off:Int}{dat:List Int}(h:Rt st)(hb:Byt dat):Ups (A23 st id off dat).1.2.2.2∧A3y (A23 st id off dat).1.1:=by
 unfold A23;split
 ·rename_i h1;split
  ·rename_i h3;split
   ·exact ⟨h.up,h.dk⟩
   ·rename_i h4;split
    ·exact ⟨h.up,h.dk⟩
    ·rename_i h5;have:=B5n (B2T h hb h1.1 h1.2 h3 h4 h5) _ (Nat.le_refl _);exact ⟨this.up,this.dk⟩
  ·exact ⟨h.up,h.dk⟩
 ·exact ⟨h.up,h.dk⟩
theorem D5Q{s:A7}(hd:A3y s.1)(hu:Ups s.2.2.2):A8P s:=⟨hd,by have:=hu.2.1;omega,B2P hu⟩
def A0a(st:A7)(id:ByteArray)(want:Int):A7×Int:=
 if idB id=true∧0≤want∧want≤1000000 then
  (if F5 st.2.2.2 id=true then (st,3)
   else if (st.1.1.length:Int)-st.2.2.1<1∨10≤st.2.2.2.length then (st,5)
   else (wrote st (st.2.1,st.2.2.1,1,id,want,[]) (st.2.2.2.take (A9 st.2.2.2 id)++(id,want,[],false)::st.2.2.2.drop (A9 st.2.2.2 id)),0))
 else (st,1)
def X3(st:A7)(id:ByteArray)(sum:Int):A7×Int:=
 if idB id=true then
  (if F5 st.2.2.2 id=true then
   (if (List.length (rd kUp st.2.2.2 (A9 st.2.2.2 id:Int)).2.2.1:Int)<(rd kUp st.2.2.2 (A9 st.2.2.2 id:Int)).2.1 then (st,4)
    else if sum≠((A2t (rd kUp st.2.2.2 (A9 st.2.2.2 id:Int)).2.2.1 ^^^ 4294967295:Nat):Int) then (st,6)
    else if (rd kUp st.2.2.2 (A9 st.2.2.2 id:Int)).2.2.2=true then (st,0)
    else if (st.1.1.length:Int)-st.2.2.1<1 then (st,5)
    else (wrote st (st.2.1,st.2.2.1,3,id,0,[]) (st.2.2.2.set (A9 st.2.2.2 id) ((rd kUp st.2.2.2 (A9 st.2.2.2 id:Int)).1,(rd kUp st.2.2.2 (A9 st.2.2.2 id:Int)).2.1,(rd kUp st.2.2.2 (A9 st.2.2.2 id:Int)).2.2.1,true)),0))
   else (st,2))
 else (st,1)
def A5A(st:A7)(id:ByteArray):A7×Int:=
 if idB id=true then
  (if F5 st.2.2.2 id=true then
   (if (st.1.1.length:Int)-st.2.2.1<1 then (st,5)
    else (wrote st (st.2.1,st.2.2.1,4,id,0,[]) (st.2.2.2.take (A9 st.2.2.2 id)++st.2.2.2.drop (A9 st.2.2.2 id+1)),0))
   else (st,2))
 else (st,1)
theorem A5i{st:A7}(h:C55 st)(k n:Int)(id:ByteArray)(hid:idB id=true)(hl:¬ (st.1.1.length:Int)-st.2.2.1<1)(hk:k=1∧0≤n∧n≤1000000000∨(k=3∨k=4)∧n=0):Q0 (st.2.1,st.2.2.1,k,id,n,[])=true:=by
 obtain ⟨g1,g2,g3,g4,⟨g5,g6⟩,_⟩:=h;simp only [Q0,hid,List.length_nil];rw [A0 (show 0≤st.2.1∧st.2.1≤10000 by omega),A0 (show 0≤st.2.2.1∧st.2.2.1≤199 by omega)];rcases hk with ⟨rfl,h0,h1⟩ | ⟨rfl | rfl,rfl⟩
 ·rw [if_pos rfl,A0 (show 0≤n∧n≤1000000000 from ⟨h0,h1⟩)];rfl
 ·rfl
 ·rfl
theorem B0o{st:A7}{id:ByteArray}{want:Int}(h1:¬ F5 st.2.2.2 id=true)(h2:¬ 10≤st.2.2.2.length):J4 st.2.2.2 (st.2.1,st.2.2.1,1,id,want,[])=some (st.2.2.2.take (A9 st.2.2.2 id)++(id,want,[],false)::st.2.2.2.drop (A9 st.2.2.2 id)):=by
 simp only [J4,if_true];rw [if_neg (fun h=>h.elim h1 h2)]
theorem B0p{st:A7}{id:ByteArray}(hU:Ups st.2.2.2)(h1:F5 st.2.2.2 id=true)(h2:¬ (List.length (rd kUp st.2.2.2 (A9 st.2.2.2 id:Int)).2.2.1:Int)<(rd kUp st.2.2.2 (A9 st.2.2.2 id:Int)).2.1)(h3:¬ (rd kUp st.2.2.2 (A9 st.2.2.2 id:Int)).2.2.2=true) :
  J4 st.2.2.2 (st.2.1,st.2.2.1,3,id,0,[])=some (st.2.2.2.set (A9 st.2.2.2 id) ((rd kUp st.2.2.2 (A9 st.2.2.2 id:Int)).1,(rd kUp st.2.2.2 (A9 st.2.2.2 id:Int)).2.1,(rd kUp st.2.2.2 (A9 st.2.2.2 id:Int)).2.2.1,true)):=by
 obtain ⟨hlt,hid2⟩:=H4.1 h1;have hu:=hU.2.2 _ (List.getElem_mem hlt);rw [← C3 (k:=kUp) hlt] at hu;have hu1:=hu.1;simp only [J4,h1];rw [if_neg (by omega),if_neg (by simp),if_neg (by omega),if_pos trivial,if_neg (fun h=>h.elim h3 (fun h=>h (Int.le_antisymm hu1 (Int.not_lt.1 h2))))]
theorem C0g{st:A7}{id:ByteArray}(h1:F5 st.2.2.2 id=true):J4 st.2.2.2 (st.2.1,st.2.2.1,4,id,0,[])=some (st.2.2.2.take (A9 st.2.2.2 id)++st.2.2.2.drop (A9 st.2.2.2 id+1)):=by
 simp only [J4,h1];rw [if_neg (by omega),if_neg (by simp),if_neg (by omega),if_neg (by omega),if_pos trivial]
theorem D2N(st:A7)(id:ByteArray)(want:Int)(hid:id.size≤maxLen)(h:Rt st):A0M st id want=some ((A0a st id want).2,(A0a st id want).1,()):=by
 obtain ⟨g1,g2,g3,g4,⟨g5,g6⟩,_⟩:=h.g;have hU:=h.up;have hl:st.1.1.length≤1048576:=by omega
 have hul:=hU.2.1;simp only [A0M,A5Y,B2N id hid,L3,bO,A0a];cases hidb:idB id with
 | false=>simp [B7,bO]
 | true=>
  simp only [Bool.not_true,cond_false,true_and];by_cases hw:0≤want∧want≤1000000
  ·rw [A0 hw,if_pos hw];simp only [Bool.not_true,cond_false,B7];rw [A7j st.2.2.2 id (by simp only [maxLen];omega),B5l st g5 g6 hl];cases hh:F5 st.2.2.2 id with
   | true=>
    simp only [if_true,bO];rw [A3 (show ¬ (A9 st.2.2.2 id:Int)<0 by omega)];rfl
   | false=>
    simp only [Bool.false_eq_true,if_false,bO];rw [A0 (show (-1:Int)<0 by omega)];simp only [cond_true];by_cases hleft:(st.1.1.length:Int)-st.2.2.1<1
    ·rw [A0 hleft,if_pos (.inl hleft)];rfl
    ·rw [A3 hleft];simp only [cond_false];by_cases h10:10≤st.2.2.2.length
     ·rw [A0 (show (st.2.2.2.length:Int)≥10 by omega),if_pos (.inr h10)];rfl
     ·rw [A3 (show ¬ (st.2.2.2.length:Int)≥10 by omega),if_neg (fun hx=>hx.elim hleft h10)];simp only [cond_false];have hr:=A5i h.g 1 want id hidb hleft (.inl ⟨rfl,hw.1,by omega⟩);have hf:=B0o (st:=st) (id:=id) (want:=want) (by rw [hh];simp) h10;rw [B2S st 1 id want [] hU hr T4 g5 (by omega) hl _ hf];rfl
  ·rw [A3 hw,if_neg hw];rfl
theorem D2O(st:A7)(id:ByteArray)(want:Int)(hid:id.size≤maxLen)(h:Rt st)(hS:A8P st)(hok:F7 st=some (true,())):A0I st id want=some ((A0a st id want).1,(A0a st id want).2,()):=by
 obtain ⟨g1,g2,g3,g4,⟨g5,g6⟩,_⟩:=h.g;have hU:=h.up;have hl:st.1.1.length≤1048576:=by omega
 have hul:=hU.2.1;simp only [A0I,A5Q,A4l st hS,hok,A8N id hid,N1,bO,A0a];cases hidb:idB id with
 | false=>simp [B7,bO]
 | true=>
  simp only [Bool.not_true,cond_false,true_and];by_cases hw:0≤want∧want≤1000000
  ·rw [A0 hw,if_pos hw];simp only [Bool.not_true,cond_false,B7];rw [B8q st.2.2.2 id hU,B5m st g5 g6 hl];cases hh:F5 st.2.2.2 id with
   | true=>
    simp only [if_true,bO];rw [A0 (show (A9 st.2.2.2 id:Int)≥0 by omega)];rfl
   | false=>
    simp only [Bool.false_eq_true,if_false,bO];rw [A3 (show ¬ (-1:Int)≥0 by omega)];simp only [cond_false];by_cases hleft:(st.1.1.length:Int)-st.2.2.1<1
    ·rw [A0 hleft,if_pos (.inl hleft)];rfl
    ·rw [A3 hleft];simp only [cond_false];by_cases h10:10≤st.2.2.2.length
     ·rw [A0 (show (st.2.2.2.length:Int)=10 by omega),if_pos (.inr h10)];rfl
     ·rw [A3 (show ¬ (st.2.2.2.length:Int)=10 by omega),if_neg (fun hx=>hx.elim hleft h10)];simp only [cond_false];have hr:=A5i h.g 1 want id hidb hleft (.inl ⟨rfl,hw.1,by omega⟩);have hf:=B0o (st:=st) (id:=id) (want:=want) (by rw [hh];simp) h10;rw [B2R st 0 0 1 id want [] hU hr T4 g5 (by omega) hl _ hf];rfl
  ·rw [A3 hw,if_neg hw];rfl
theorem D2P(st:A7)(id:ByteArray)(sum:Int)(hid:id.size≤maxLen)(h:Rt st):A0N st id sum=some ((X3 st id sum).2,(X3 st id sum).1,()):=by
 obtain ⟨g1,g2,g3,g4,⟨g5,g6⟩,_⟩:=h.g;have hU:=h.up;have hl:st.1.1.length≤1048576:=by omega
 have hul:=hU.2.1;simp only [A0N,A5Z,B2N id hid,bO,X3];cases hidb:idB id with
 | false=>rfl
 | true=>
  simp only [Bool.not_true,cond_false,if_true];rw [A7j st.2.2.2 id (by simp only [maxLen];omega),B5l st g5 g6 hl];cases hh:F5 st.2.2.2 id with
  | false=>
   simp only [Bool.false_eq_true,if_false,bO];rw [A0 (show (-1:Int)<0 by omega)];rfl
  | true=>
   obtain ⟨hlt,hid2⟩:=H4.1 hh;have hu:=hU.2.2 _ (List.getElem_mem hlt);have hdl:=B2P hU _ (List.getElem_mem hlt);rw [← C3 (k:=kUp) hlt] at hu hdl;simp only [if_true,bO];rw [A3 (show ¬ (A9 st.2.2.2 id:Int)<0 by omega)];simp only [cond_false];rw [C4z _ hu.2.2.2 (by simp only [maxLen];omega)];simp only [bO];by_cases hd1:(List.length (rd kUp st.2.2.2 (A9 st.2.2.2 id:Int)).2.2.1:Int)<(rd kUp st.2.2.2 (A9 st.2.2.2 id:Int)).2.1
   ·rw [A0 hd1,if_pos hd1];rfl
   rw [A3 hd1,if_neg hd1];simp only [cond_false];by_cases hc:sum=((A2t (rd kUp st.2.2.2 (A9 st.2.2.2 id:Int)).2.2.1 ^^^ 4294967295:Nat):Int)
   ·rw [A0 hc,if_neg (fun hx=>hx hc)];simp only [Bool.not_true,cond_false];cases hdn:(rd kUp st.2.2.2 (A9 st.2.2.2 id:Int)).2.2.2 with
    | true=>rfl
    | false=>
     simp only [Bool.not_false,cond_true,cond_false,Bool.false_eq_true,if_false,bO];by_cases hleft:(st.1.1.length:Int)-st.2.2.1<1
     ·rw [A0 hleft,if_pos hleft];rfl
     ·rw [A3 hleft,if_neg hleft];simp only [cond_false];have hr:=A5i h.g 3 0 id hidb hleft (.inr ⟨.inl rfl,rfl⟩);have hf:=B0p hU hh hd1 (by rw [hdn];simp);have hwi:C8 ((st.1.1,st.1.2),(st.2.1,(st.2.2.1,st.2.2.2))) 3 id 0 []=_:=B2S st 3 id 0 [] hU hr T4 g5 (by omega) hl _ hf;simp only [B7,Bool.not_false,cond_true];rw [hwi];rfl
   ·rw [A3 hc,if_pos hc];rfl
theorem D2Q(st:A7)(id:ByteArray)(sum:Int)(hid:id.size≤maxLen)(h:Rt st)(hS:A8P st)(hok:F7 st=some (true,())):A0J st id sum=some ((X3 st id sum).1,(X3 st id sum).2,()):=by
 obtain ⟨g1,g2,g3,g4,⟨g5,g6⟩,_⟩:=h.g;have hU:=h.up;have hl:st.1.1.length≤1048576:=by omega
 have hul:=hU.2.1;simp only [A0J,A5R,A4l st hS,hok,A8N id hid,bO,X3];cases hidb:idB id with
 | false=>rfl
 | true=>
  simp only [Bool.not_true,cond_false,B7,if_true];rw [B8q st.2.2.2 id hU,B5m st g5 g6 hl];cases hh:F5 st.2.2.2 id with
  | false=>
   simp only [Bool.false_eq_true,if_false,bO];rw [A0 (show (-1:Int)<0 by omega)];rfl
  | true=>
   obtain ⟨hlt,hid2⟩:=H4.1 hh;have hu:=hU.2.2 _ (List.getElem_mem hlt);have hdl:=B2P hU _ (List.getElem_mem hlt);rw [← C3 (k:=kUp) hlt] at hu hdl;simp only [if_true,bO];rw [A3 (show ¬ (A9 st.2.2.2 id:Int)<0 by omega),A0 (show (0:Int)≤(A9 st.2.2.2 id:Int) by omega),A0 (show (A9 st.2.2.2 id:Int)<(st.2.2.2.length:Int) by omega)];simp only [cond_true,cond_false];rw [C4y _ hu.2.2.2 (by simp only [maxLen];omega)];simp only [bO];by_cases hd1:(List.length (rd kUp st.2.2.2 (A9 st.2.2.2 id:Int)).2.2.1:Int)<(rd kUp st.2.2.2 (A9 st.2.2.2 id:Int)).2.1
   ·rw [A0 hd1,if_pos hd1];rfl
   rw [A3 hd1,if_neg hd1];simp only [cond_false];by_cases hc:sum=((A2t (rd kUp st.2.2.2 (A9 st.2.2.2 id:Int)).2.2.1 ^^^ 4294967295:Nat):Int)
   ·rw [A0 hc,if_neg (fun hx=>hx hc)];simp only [Bool.not_true,cond_false];cases hdn:(rd kUp st.2.2.2 (A9 st.2.2.2 id:Int)).2.2.2 with
    | true=>rfl
    | false=>
     simp only [Bool.not_false,cond_true,cond_false,Bool.false_eq_true,if_false,bO];by_cases hleft:(st.1.1.length:Int)-st.2.2.1<1
     ·rw [A0 hleft,if_pos hleft];rfl
     ·rw [A3 hleft,if_neg hleft];simp only [cond_false];have hr:=A5i h.g 3 0 id hidb hleft (.inr ⟨.inl rfl,rfl⟩);have hf:=B0p hU hh hd1 (by rw [hdn];simp);rw [B2R st 0 0 3 id 0 [] hU hr T4 g5 (by omega) hl _ hf];rfl
   ·rw [A3 hc,if_pos hc];rfl
theorem D2R(st:A7)(id:ByteArray)(hid:id.size≤maxLen)(h:Rt st):A0O st id=some ((A5A st id).2,(A5A st id).1,()):=by
 obtain ⟨g1,g2,g3,g4,⟨g5,g6⟩,_⟩:=h.g;have hU:=h.up;have hl:st.1.1.length≤1048576:=by omega
 have hul:=hU.2.1;simp only [A0O,A5a,B2N id hid,bO,A5A];cases hidb:idB id with
 | false=>rfl
 | true=>
  simp only [Bool.not_true,cond_false,if_true,B7];rw [A7j st.2.2.2 id (by simp only [maxLen];omega),B5l st g5 g6 hl];cases hh:F5 st.2.2.2 id with
  | false=>
   simp only [Bool.false_eq_true,if_false,bO];rw [A0 (show (-1:Int)<0 by omega)];rfl
  | true=>
   simp only [if_true,bO];rw [A3 (show ¬ (A9 st.2.2.2 id:Int)<0 by omega)];simp only [cond_false,Bool.not_true];by_cases hleft:(st.1.1.length:Int)-st.2.2.1<1
   ·rw [A0 hleft,if_pos hleft];rfl
   ·rw [A3 hleft,if_neg hleft];simp only [cond_false];have hr:=A5i h.g 4 0 id hidb hleft (.inr ⟨.inr rfl,rfl⟩);have hf:=C0g (st:=st) hh;have hwi:C8 ((st.1.1,st.1.2),(st.2.1,(st.2.2.1,st.2.2.2))) 4 id 0 []=_:=B2S st 4 id 0 [] hU hr T4 g5 (by omega) hl _ hf;rw [hwi];rfl
theorem D2S(st:A7)(id:ByteArray)(hid:id.size≤maxLen)(h:Rt st)(hS:A8P st)(hok:F7 st=some (true,())):A0K st id=some ((A5A st id).1,(A5A st id).2,()):=by
 obtain ⟨g1,g2,g3,g4,⟨g5,g6⟩,_⟩:=h.g;have hU:=h.up;have hl:st.1.1.length≤1048576:=by omega
 have hul:=hU.2.1;simp only [A0K,A5S,A4l st hS,hok,A8N id hid,bO,A5A];cases hidb:idB id with
 | false=>rfl
 | true=>
  simp only [Bool.not_true,cond_false,B7,if_true];rw [B8q st.2.2.2 id hU,B5m st g5 g6 hl];cases hh:F5 st.2.2.2 id with
  | false=>
   simp only [Bool.false_eq_true,if_false,bO];rw [A0 (show (-1:Int)<0 by omega)];rfl
  | true=>
   simp only [if_true,bO];rw [A3 (show ¬ (A9 st.2.2.2 id:Int)<0 by omega)];simp only [cond_false];by_cases hleft:(st.1.1.length:Int)-st.2.2.1<1
   ·rw [A0 hleft,if_pos hleft];rfl
   ·rw [A3 hleft,if_neg hleft];simp only [cond_false];have hr:=A5i h.g 4 0 id hidb hleft (.inr ⟨.inr rfl,rfl⟩);have hf:=C0g (st:=st) hh;rw [B2R st 0 0 4 id 0 [] hU hr T4 g5 (by omega) hl _ hf];rfl
theorem C7d{xs:List Int}(h:Byt xs):bytesOf (strOf xs)=xs:=by
 show ((strOfNums xs).data.toList.map fun b=>(b.toNat:Int))=xs;rw [strOfNums_data,List.map_map];refine (List.map_congr_left fun x hx=>?_).trans (List.map_id _);have:=h x hx;simp only [Function.comp,id];have e:(UInt8.ofNat x.toNat).toNat=x.toNat % 256:=UInt8.toNat_ofNat;rw [e];omega
theorem C7e(s:ByteArray):strOf (bytesOf s)=s:=by
 refine B5k ?_;rw [ByteArray.toList_eq,ByteArray.toList_eq];show ((bytesOf s).map fun n=>UInt8.ofNat n.toNat)=s.data.toList;rw [bytesOf,List.map_map];refine (List.map_congr_left fun x hx=>?_).trans (List.map_id _);simp
theorem D2T(n:Nat):IntKind.u8.wrap (n:Int)=((n % 256:Nat):Int):=by
 simp only [IntKind.wrap,IntKind.bits,IntKind.signed];simp
theorem D2U(x y:Nat)(h:y<256):(x*256) ||| y=x*256+y:=by
 have:=Nat.two_pow_add_eq_or_of_lt (i:=8) (b:=y) (by simpa using h) x;rw [Nat.mul_comm x 256];exact this.symm
theorem D2V(p q:List Int)(n k:Nat):∀ j,j≤k→X9 (p++(big (n:Int) k++q)) p.length j=n / 2 ^ (8*(k-j)) % 2 ^ (8*j)
 | 0,_=>by simp [X9,Nat.mod_one]
 | j+1,hj=>by
  have ih:=D2V p q n k j (by omega);have hget:(p++(big (n:Int) k++q)).getD (p.length+j) 0=C4v (n:Int) k j:=by
   simp only [List.getD];rw [List.getElem?_append_right (by omega),Nat.add_sub_cancel_left,List.getElem?_append_left (by rw [J9];omega)];simp only [big,List.getElem?_map,List.getElem?_range (show j<k by omega),Option.map_some,Option.getD_some]
  have hat:C4v (n:Int) k j=((n / 2 ^ (8*(k-1-j)) % 256:Nat):Int):=by
   unfold C4v;rw [← D2T]
   congr 1
   rw [show (2:Int) ^ (8*(k-1-j))=((2 ^ (8*(k-1-j)):Nat):Int) by rw [Int.natCast_pow];rfl,Int.fdiv_eq_ediv_of_nonneg _ (Int.natCast_nonneg _),← Int.natCast_ediv]
  simp only [X9];rw [ih,hget,hat,Int.toNat_natCast,D2U _ _ (Nat.mod_lt _ (by omega))];rw [show k-1-j=k-(j+1) by omega];have e1:2 ^ (8*(k-j))=2 ^ (8*(k-(j+1)))*256:=by rw [show 8*(k-j)=8*(k-(j+1))+8 by omega,Nat.pow_add]
  have e2:2 ^ (8*(j+1))=256*2 ^ (8*j):=by rw [show 8*(j+1)=8+8*j by omega,Nat.pow_add]
  rw [e1,← Nat.div_div_eq_div_mul,e2,Nat.mod_mul];omega
theorem A7k{b:List Int}(p q:List Int)(n:Int)(k a:Nat)(h:b=p++(big n k++q))(ha:a=p.length)(h0:0≤n)(h1:n<2 ^ (8*k)):(X9 b a k:Int)=n:=by
 subst h;subst ha;obtain ⟨m,rfl⟩:∃ m:Nat,n=(m:Int):=⟨n.toNat,by omega⟩;rw [D2V p q m k k (Nat.le_refl _),Nat.sub_self,Nat.mul_zero,Nat.pow_zero,Nat.div_one];rw [show (2:Int) ^ (8*k)=((2 ^ (8*k):Nat):Int) by rw [Int.natCast_pow];rfl] at h1;rw [Nat.mod_eq_of_lt (by omega)]
theorem D0J{r:H5}(h:B3b r):bytesOf (X2 r)=B3a r++big (A0R (E3h (B3a r))) 4:=by
 unfold X2;exact C7d (D0D (C52 r h.2) (D7P _ _))
theorem E2b{r:H5}(h:Q0 r=true)(c:List Int):B3a r++c=big r.1 3++(big r.2.1 2++(big r.2.2.1 1++(big (r.2.2.2.1.size:Int) 1++(bytesOf r.2.2.2.1++(big r.2.2.2.2.1 4++(big (List.length r.2.2.2.2.2:Int) 1++(r.2.2.2.2.2++c))))))):=by
 have hb:=A0T h;have hq:0≤r.2.1:=by
  simp only [Q0,Bool.and_eq_true] at h;exact (of_decide_eq_true h.1.1.2).1
 unfold B3a;rw [A4j (n:=r.1) (by omega),A4j (n:=r.2.1) hq,A4j (n:=r.2.2.1) (by omega),A4j (n:=(r.2.2.2.1.size:Int)) (by omega),A4j (n:=r.2.2.2.2.1) (by omega),A4j (n:=(List.length r.2.2.2.2.2:Int)) (by omega)];simp only [List.append_assoc]
theorem D8h{r:H5}(h:Q0 r=true):0≤r.2.1∧r.2.1≤199:=by
 simp only [Q0,Bool.and_eq_true] at h;exact of_decide_eq_true h.1.1.2
theorem D8i{r:H5}(h:Q0 r=true)(c:List Int):D9 (B3a r++c)=r.2.2.2.1.size∧P2 (B3a r++c)=List.length r.2.2.2.2.2∧recAt (B3a r++c)=r:=by
 have hb:=A0T h;have hq:=D8h h;have e:=E2b h c;generalize B3a r++c=b at e;have b6:(X9 b 6 1:Int)=(r.2.2.2.1.size:Int):=A7k (big r.1 3++(big r.2.1 2++big r.2.2.1 1)) _ _ 1 6 (by rw [e];simp only [List.append_assoc];rfl) (by simp [J9]) (by omega) (by omega);have hid:D9 b=r.2.2.2.1.size:=by unfold D9;omega
 have b11:(X9 b (11+D9 b) 1:Int)=(List.length r.2.2.2.2.2:Int):=
  A7k (big r.1 3++(big r.2.1 2++(big r.2.2.1 1++(big (r.2.2.2.1.size:Int) 1++(bytesOf r.2.2.2.1++big r.2.2.2.2.1 4))))) _ _ 1 _ (by rw [e];simp only [List.append_assoc];rfl) (by simp [J9,bytesOf_length,hid];omega) (by omega) (by omega)
 have hdl:P2 b=List.length r.2.2.2.2.2:=by unfold P2;omega
 refine ⟨hid,hdl,?_⟩;have b0:(X9 b 0 3:Int)=r.1:=A7k [] _ _ 3 0 (by rw [e];rfl) rfl (by omega) (by omega);have b3:(X9 b 3 2:Int)=r.2.1:=A7k (big r.1 3) _ _ 2 3 (by rw [e]) (by simp [J9]) (by omega) (by omega);have b5:(X9 b 5 1:Int)=r.2.2.1:=A7k (big r.1 3++big r.2.1 2) _ _ 1 5 (by rw [e];simp only [List.append_assoc];rfl) (by simp [J9]) (by omega) (by omega);have b7:(X9 b (7+D9 b) 4:Int)=r.2.2.2.2.1:=A7k (big r.1 3++(big r.2.1 2++(big r.2.2.1 1++(big (r.2.2.2.1.size:Int) 1++bytesOf r.2.2.2.1)))) _ _ 4 _ (by rw [e];simp only [List.append_assoc];rfl) (by simp [J9,bytesOf_length,hid];omega) (by omega) (by omega);have t1:(b.take (7+D9 b)).drop 7=bytesOf r.2.2.2.1:=by
  have e7:b=(big r.1 3++(big r.2.1 2++(big r.2.2.1 1++big (r.2.2.2.1.size:Int) 1)))++(bytesOf r.2.2.2.1++(big r.2.2.2.2.1 4++(big (List.length r.2.2.2.2.2:Int) 1++(r.2.2.2.2.2++c)))):=by rw [e];simp only [List.append_assoc]
  have hl7:(big r.1 3++(big r.2.1 2++(big r.2.2.1 1++big (r.2.2.2.1.size:Int) 1))).length=7:=by simp [J9]
  rw [hid,List.drop_take,Nat.add_sub_cancel_left,e7,← hl7,List.drop_left,← bytesOf_length,List.take_left]
 have t2:(b.take (12+D9 b+P2 b)).drop (12+D9 b)=r.2.2.2.2.2:=by
  have e12:b=(big r.1 3++(big r.2.1 2++(big r.2.2.1 1++(big (r.2.2.2.1.size:Int) 1++(bytesOf r.2.2.2.1++(big r.2.2.2.2.1 4++big (List.length r.2.2.2.2.2:Int) 1))))))++(r.2.2.2.2.2++c):=by rw [e];simp only [List.append_assoc]
  have hl12:(big r.1 3++(big r.2.1 2++(big r.2.2.1 1++(big (r.2.2.2.1.size:Int) 1++(bytesOf r.2.2.2.1++(big r.2.2.2.2.1 4++big (List.length r.2.2.2.2.2:Int) 1)))))).length=12+r.2.2.2.1.size:=by simp [J9,bytesOf_length];omega
  rw [hid,hdl,List.drop_take,Nat.add_sub_cancel_left,e12,← hl12,List.drop_left,List.take_left]
 unfold recAt;rw [b0,b3,b5,b7,t1,t2,C7e]
theorem C5E{r:H5}(h:B3b r):D4 (X2 r)=(r,true,()):=by
 have hpb:=D0J h;obtain ⟨h1,h2,h3⟩:=D8i h.1 (big (A0R (E3h (B3a r))) 4);have hsz:(X2 r).size=12+r.2.2.2.1.size+List.length r.2.2.2.2.2+4:=by
  unfold X2;rw [B2O,List.length_append,B4T,J9]
 have hg:A9S (X2 r)=true:=by
  unfold A9S;rw [hpb,h1,h2,h3,hsz,A0 (by omega),h.1];simp
 unfold D4;rw [if_pos hg,hpb,h3]
theorem D8j{r:H5}(h:Q0 r=true):(X2 r).size≤64:=by
 have hb:=A0T h;unfold X2;rw [B2O,List.length_append,B4T,J9];omega
def A24(last:Int)(i:Nat)(s:ByteArray):Bool:=(D4 s).2.1&&decide ((D4 s).1.2.1=(i:Int))&&!decide ((D4 s).1.1<last)
def J0(last:Int)(i:Nat):List ByteArray→List H5
 | []=> []
 | s::l=>if A24 last i s=true then (D4 s).1::J0 (D4 s).1.1 (i+1) l else []
def B6(now:List ByteArray):List H5:=J0 0 0 now
def A15:Int→List H5→Int
 | e,[]=>e
 | _,r::l=>A15 r.1 l
theorem A5j(last:Int)(i:Nat)(l:List ByteArray):(J0 last i l).length≤l.length:=by
 induction l generalizing last i with
 | nil=>exact Nat.le_refl _
 | cons s l ih=>
  simp only [J0];split
  ·have:=ih (D4 s).1.1 (i+1);simp only [List.length_cons];omega
  ·simp
theorem B2U(last:Int)(i:Nat)(l:List ByteArray):∀ r∈J0 last i l,B3b r:=by
 induction l generalizing last i with
 | nil=>intro r hr;cases hr
 | cons s l ih=>
  intro r hr;simp only [J0] at hr;split at hr
  ·rename_i hg;simp only [A24,Bool.and_eq_true] at hg;rcases List.mem_cons.1 hr with rfl | hr
   ·exact C1w hg.1.1
   ·exact ih _ _ r hr
  ·cases hr
theorem E0u(last:Int)(i:Nat)(l:List ByteArray):last≤A15 last (J0 last i l)∧∀ r∈J0 last i l,r.1≤A15 last (J0 last i l):=by
 induction l generalizing last i with
 | nil=>exact ⟨Int.le_refl _,fun r hr=>by cases hr⟩
 | cons s l ih=>
  simp only [J0];split
  ·rename_i hg;obtain ⟨h1,h2⟩:=ih (D4 s).1.1 (i+1);simp only [A24,Bool.and_eq_true,Bool.not_eq_true',decide_eq_false_iff_not] at hg;have h3:=hg.2;simp only [A15];refine ⟨by omega,fun r hr=>?_⟩;rcases List.mem_cons.1 hr with rfl | hr
   ·exact h1
   ·exact h2 r hr
  ·exact ⟨Int.le_refl _,fun r hr=>by cases hr⟩
theorem C97(last:Int)(i:Nat)(a b:List ByteArray)(h:(J0 last i a).length=a.length):J0 last i (a++b)=J0 last i a++J0 (A15 last (J0 last i a)) (i+a.length) b:=by
 induction a generalizing last i with
 | nil=>simp [J0,A15]
 | cons s a ih=>
  simp only [J0,List.cons_append] at h ⊢;split
  ·rename_i hg;rw [if_pos hg] at h;simp only [List.length_cons,Nat.add_right_cancel_iff] at h;rw [ih _ _ h,List.cons_append,A15,List.length_cons]
   congr 3
   omega
  ·rename_i hg;rw [if_neg hg] at h;simp at h
theorem D5R(last:Int)(i:Nat)(l:List ByteArray):J0 last i (l.take (J0 last i l).length)=J0 last i l:=by
 induction l generalizing last i with
 | nil=>rfl
 | cons s l ih=>
  simp only [J0];split
  ·rename_i hg;simp only [List.length_cons,List.take_succ_cons,J0,if_pos hg,ih]
  ·rfl
theorem B7m(last:Int)(i:Nat)(l:List ByteArray)(h:∀ s,l.head? = some s→A24 last i s=false):J0 last i l = []:=by
 cases l with
 | nil=>rfl
 | cons s l=>simp only [J0,h s rfl,Bool.false_eq_true,if_false]
theorem B2V(last:Int)(i:Nat)(s:ByteArray)(l:List ByteArray):J0 last i (s::l)=bif A24 last i s then (D4 s).1::J0 (D4 s).1.1 (i+1) l else []:=by
 simp only [J0];cases A24 last i s<;>rfl
set_option maxRecDepth 100000 in
theorem B5o(d:F0)(h:A6c d.1):Y8 d=some (B6 d.1,()):=by
 have hl:=h.1;obtain ⟨z,e,hz⟩:=Y4 (S4 L0 d) (fun l=>((d.1.length:Int)-l.2.1).toNat) (fun l=>∃ i:Nat,l.2.1=(i:Int)∧i≤d.1.length∧List.length l.2.2.1=i∧B6 d.1=l.2.2.1++J0 l.1 i (d.1.drop i))
  (fun z=>z=(B6 d.1,())) (fun l hl=>by
   obtain ⟨i,h0,h1,h2,h3⟩:=hl;simp only [S4];by_cases hi:i<d.1.length
   ·rw [h0,A0 (show (i:Int)<(d.1.length:Int) by omega),A0 (show (0:Int)≤(i:Int) by omega)];simp only [cond_true];rw [A6Y _ (A6C h hi)];simp only [A4];rw [A5f hi];have hdrop:d.1.drop i=d.1[i]::d.1.drop (i+1):=List.drop_eq_getElem_cons hi;rw [hdrop] at h3;rw [B2V] at h3;simp only [A24] at h3;obtain ⟨g,hg⟩:∃ g,D4 d.1[i]=g:=⟨_,rfl⟩;rw [hg] at h3 ⊢;cases hk:g.2.1 with
    | false=>
     rw [hk] at h3;simp only [Bool.false_and,cond_false,List.append_nil] at h3;exact .inr ⟨_,rfl,by rw [h3]⟩
    | true=>
     rw [hk] at h3;simp only [Bool.true_and] at h3;simp only [Bool.not_true,cond_false];by_cases e1:g.1.2.1=(i:Int)
     ·rw [A0 e1] at h3 ⊢;by_cases e2:g.1.1<l.1
      ·rw [A0 e2] at h3 ⊢;simp only [Bool.not_true,Bool.and_false,cond_false,List.append_nil] at h3;exact .inr ⟨_,rfl,by rw [h3]⟩
      ·rw [A3 e2] at h3 ⊢;simp only [Bool.not_false,Bool.and_true,cond_true,Bool.true_and] at h3;simp only [Bool.not_true,cond_false];rw [A0 (by simp;omega),A0 (by simp;omega),w64 (by omega) (by omega)];refine .inl ⟨_,rfl,⟨i+1,by simp only;omega,by omega,by simp;omega,?_⟩,by simp only;omega⟩;simp only;rw [h3,List.append_assoc];rfl
     ·rw [A3 e1] at h3 ⊢;simp only [Bool.false_and,cond_false,List.append_nil] at h3;exact .inr ⟨_,rfl,by rw [h3]⟩
   ·rw [h0,A3 (show ¬ (i:Int)<(d.1.length:Int) by omega)];rw [List.drop_eq_nil_of_le (by omega)] at h3;simp only [J0,List.append_nil] at h3;exact .inr ⟨_,rfl,by rw [h3]⟩) (0,0,[],()) ⟨0,rfl,by omega,rfl,by simp [B6]⟩
 have e':Y8 d=some z:=e;rw [e',hz]
structure GoodS (st:A7):Prop where
 dk:A3z st.1=true
 ep:0≤st.2.1∧st.2.1≤10000
 up:G2 [] (B6 st.1.1)=some st.2.2.2
 nx:st.2.2.1=(List.length (B6 st.1.1):Int)
 le:A15 0 (B6 st.1.1)≤st.2.1
 tl:((st.1.1.drop (B6 st.1.1).length).all fun s=>!A2v st.2.1 s)=true
theorem A4m{d:F0}(h:A3z d=true):A3y d∧d.1.length=d.2.length∧d.1.length≤200∧(∀ s∈d.1,s.size≤64)∧∀ s∈d.2,s.size≤64:=by
 simp only [A3z,Bool.and_eq_true] at h;obtain ⟨h1,h2⟩:=h;have h1:=of_decide_eq_true h1;have k1:∀ s∈d.1,s.size≤64:=fun s hs=>by
  obtain ⟨i,hi,rfl⟩:=List.getElem_of_mem hs;have:=List.all_eq_true.1 h2 i (List.mem_range.2 hi);simp only [Bool.and_eq_true,Bool.not_eq_true',decide_eq_false_iff_not] at this;have h3:=this.1;rw [A5f hi] at h3;omega
 have k2:∀ s∈d.2,s.size≤64:=fun s hs=>by
  obtain ⟨i,hi,rfl⟩:=List.getElem_of_mem hs;have:=List.all_eq_true.1 h2 i (List.mem_range.2 (by omega));simp only [Bool.and_eq_true,Bool.not_eq_true',decide_eq_false_iff_not] at this;have h3:=this.2;rw [A5f hi] at h3;omega
 exact ⟨⟨⟨by omega,fun s hs=>by have:=k1 s hs;omega⟩,by omega,fun s hs=>by have:=k2 s hs;omega⟩,h1.1,h1.2,k1,k2⟩
theorem B8r{d:F0}(h1:d.1.length=d.2.length)(h2:d.1.length≤200)(h3:∀ s∈d.1,s.size≤64)(h4:∀ s∈d.2,s.size≤64):A3z d=true:=by
 simp only [A3z,Bool.and_eq_true];refine ⟨decide_eq_true ⟨h1,h2⟩,List.all_eq_true.2 fun i hi=>?_⟩;have hi:=List.mem_range.1 hi;rw [A5f hi,A5f (show i<d.2.length by omega)];have k1:=h3 _ (List.getElem_mem hi);have k2:=h4 _ (List.getElem_mem (show i<d.2.length by omega));rw [A3 (by omega),A3 (by omega)];rfl
theorem D5S(l:List H5)(h:0<l.length)(e:Int):(rd A7I l ((l.length:Int)-1)).1=A15 e l:=by
 induction l generalizing e with
 | nil=>simp at h
 | cons r l ih=>
  cases l with
  | nil=>rfl
  | cons r' l=>
   have h2:=ih (by simp) r.1;simp only [A15] at h2 ⊢;rw [← h2];have e1:((r::r'::l).length:Int)-1=(((l.length+1):Nat):Int):=by simp only [List.length_cons];omega
   have e2:((r'::l).length:Int)-1=((l.length:Nat):Int):=by simp only [List.length_cons];omega
   rw [e1,e2,C3 (k:=A7I) (xs:=r::r'::l) (by simp),C3 (k:=A7I) (xs:=r'::l) (by simp)];rfl
theorem D2W(st:A7)(h:A6c st.1.1)(hb:∀ u∈st.2.2.2,Byt u.2.2.1):∃ b,F7 st=some (b,())∧A1u st=some (b,())∧(b=true↔GoodS st):=by
 obtain ⟨b,hs,hi,_⟩:=C56 st h;refine ⟨b,hs,hi,?_⟩;have hl:=h.1;have hrg:=B2U 0 0 st.1.1;have hll:=A5j 0 0 st.1.1;have hfs:=A2u (B6 st.1.1) (by simp only [maxLen,B6];omega) hrg;simp only [F7,A95,A6d,B5o st.1 h,hfs,N1,A4] at hs;have hsc:J0 0 0 st.1.1=B6 st.1.1:=rfl;rw [hsc] at hrg hll;cases hbd:A3z st.1 with
 | false=>
  rw [hbd] at hs;have:b=false:=by
   simp only [Bool.not_false,cond_true] at hs
   first | (injection hs with hs;injection hs with hs;exact hs.symm) | (simp [B7] at hs;exact hs.symm)
  rw [this];exact ⟨fun e=>by (cases e),fun g=>by rw [g.dk] at hbd;cases hbd⟩
 | true=>
  rw [hbd] at hs;simp only [Bool.not_true,cond_false] at hs;by_cases he:0≤st.2.1∧st.2.1≤10000
  ·rw [A0 he] at hs;simp only [Bool.not_true,cond_false,B7] at hs;unfold Q8 at hs;cases hf:G2 [] (B6 st.1.1) with
   | none=>
    rw [hf] at hs;have:b=false:=by
     first | (injection hs with hs;injection hs with hs;exact hs.symm) | (simp at hs;exact hs.symm)
    rw [this];exact ⟨fun e=>by (cases e),fun g=>by rw [g.up] at hf;cases hf⟩
   | some us=>
    have hu:=A6b A9T hrg hf;have hul:=hu.2.1;rw [hf] at hs;simp only at hs;rw [C93 _ _ (show us.length≤maxLen by simp only [maxLen];omega)] at hs;simp only [Bool.not_true,cond_false] at hs;cases hsm:A14 us st.2.2.2 with
    | false=>
     rw [hsm] at hs;have:b=false:=by
      first | (injection hs with hs;injection hs with hs;exact hs.symm) | (simp at hs;exact hs.symm)
     rw [this];refine ⟨fun e=>by (cases e),fun g=>?_⟩;have:=g.up;rw [hf] at this;injection this with this
     rw [this,B6P] at hsm;cases hsm
    | true=>
     have heq:=D5J (fun u hu'=>(hu.2.2 u hu').2.2.2) hb hsm;rw [hsm] at hs;simp only [Bool.not_true,cond_false] at hs;by_cases hn:st.2.2.1=(List.length (B6 st.1.1):Int)
     ·rw [A0 hn] at hs;simp only [Bool.not_true,cond_false] at hs;have htail:=C94 st h (B6 st.1.1).length hll;rw [hn] at hs;rw [htail] at hs;by_cases hl0:(List.length (B6 st.1.1):Int)>0
      ·rw [A0 hl0,w64 (n:=(List.length (B6 st.1.1):Int)-1) (by omega) (by omega),A0 (show (0:Int)≤(List.length (B6 st.1.1):Int)-1 by omega),A0 (show (List.length (B6 st.1.1):Int)-1<(List.length (B6 st.1.1):Int) by omega),D5S (B6 st.1.1) (by omega) 0] at hs;simp only [cond_true] at hs;by_cases hle:A15 0 (B6 st.1.1)>st.2.1
       ·rw [A0 hle] at hs;have:b=false:=by
         first | (injection hs with hs;injection hs with hs;exact hs.symm) | (simp at hs;exact hs.symm)
        rw [this];exact ⟨fun e=>by (cases e),fun g=>by have:=g.le;omega⟩
       ·rw [A3 hle] at hs;simp only [cond_false] at hs;have:b=((st.1.1.drop (B6 st.1.1).length).all fun s=>!A2v st.2.1 s):=by
         first | (injection hs with hs;injection hs with hs;exact hs.symm) | (simp at hs;exact hs.symm)
        rw [this];exact ⟨fun e=>⟨hbd,he,by rw [hf,heq],hn,by omega,e⟩,fun g=>g.tl⟩
      ·rw [A3 hl0] at hs;simp only [cond_false] at hs;have:b=((st.1.1.drop (B6 st.1.1).length).all fun s=>!A2v st.2.1 s):=by
        first | (injection hs with hs;injection hs with hs;exact hs.symm) | (simp at hs;exact hs.symm)
       rw [this];have hnil:B6 st.1.1 = []:=List.length_eq_zero_iff.1 (by omega);exact ⟨fun e=>⟨hbd,he,by rw [hf,heq],hn,by rw [hnil];exact he.1,e⟩,fun g=>g.tl⟩
     ·rw [A3 hn] at hs;have:b=false:=by
       first | (injection hs with hs;injection hs with hs;exact hs.symm) | (simp at hs;exact hs.symm)
      rw [this];exact ⟨fun e=>by (cases e),fun g=>absurd g.nx hn⟩
  ·rw [A3 he] at hs;have:b=false:=by
    first | (injection hs with hs;injection hs with hs;exact hs.symm) | (simp [B7] at hs;exact hs.symm)
   rw [this];exact ⟨fun e=>by (cases e),fun g=>absurd g.ep he⟩
theorem D0K{st:A7}(h:GoodS st)(hr:Ups st.2.2.2):Rt st:=by
 obtain ⟨k1,k2,k3,k4,k5⟩:=A4m h.dk;have:=A5j 0 0 st.1.1;have hn:=h.nx;exact ⟨⟨h.ep.1,h.ep.2,k2,k3,by simp only [B6] at hn;omega,st.2.2.2,hr,B6P _⟩,hr,k1⟩
theorem B4X{st:A7}(h:GoodS st):Ups st.2.2.2:=A6b A9T (B2U 0 0 st.1.1) h.up
theorem A9U:∀ (l l':List H5) (us:List TUp),G2 us (l++l')=(G2 us l).bind fun us'=>G2 us' l'
 | [],l',us=>rfl
 | r::l,l',us=>by
  simp only [List.cons_append,G2];cases J4 us r with
  | none=>rfl
  | some us'=>exact A9U l l' us'
theorem D8k(l:List H5)(r:H5)(e:Int):A15 e (l ++ [r])=r.1:=by
 induction l generalizing e with
 | nil=>rfl
 | cons x l ih=>exact ih x.1
theorem B2W{st:A7}(h:GoodS st){r:H5}(hr:B3b r)(h1:r.1=st.2.1)(h2:r.2.1=st.2.2.1)(hlt:st.2.2.1<(st.1.1.length:Int)){us:List TUp}(hf:J4 st.2.2.2 r=some us) :
  GoodS (wrote st r us)∧B6 (wrote st r us).1.1=B6 st.1.1 ++ [r]:=by
 obtain ⟨k1,k2,k3,k4,k5⟩:=A4m h.dk;have hn:=h.nx;generalize hL:B6 st.1.1=L at *
 have hll:L.length≤st.1.1.length:=by rw [← hL];exact A5j 0 0 st.1.1
 have hlt':L.length<st.1.1.length:=by omega
 have hto:st.2.2.1.toNat=L.length:=by omega
 have hset:st.1.1.set L.length (X2 r)=st.1.1.take L.length++X2 r::st.1.1.drop (L.length+1):=by
  rw [List.set_eq_take_append_cons_drop,if_pos hlt']
 have htake:J0 0 0 (st.1.1.take L.length)=L:=by
  have:=D5R 0 0 st.1.1;rw [show J0 0 0 st.1.1=L from hL] at this;exact this
 have hgo:A24 (A15 0 L) L.length (X2 r)=true:=by
  simp only [A24,C5E hr,Bool.true_and];rw [h1,h2,A0 (by omega),A3 (by have:=h.le;rw [hL] at this;omega)];rfl
 have htl:=h.tl;rw [hL] at htl;have hscan:B6 (wrote st r us).1.1=L ++ [r]:=by
  show J0 0 0 (st.1.1.set st.2.2.1.toNat (X2 r))=_;rw [hto,hset,C97 _ _ _ _ (by rw [htake,List.length_take];omega),htake]
  congr 1
  have hle:(st.1.1.take L.length).length=L.length:=by rw [List.length_take];omega
  simp only [J0,hle,Nat.zero_add,hgo,if_true,C5E hr]
  congr 1
  refine B7m _ _ _ fun s hs=>?_
  have hmem:s∈st.1.1.drop (L.length+1):=List.mem_of_mem_head? hs;have hmem2:s∈st.1.1.drop L.length:=by
   rw [List.drop_eq_getElem_cons hlt'];exact List.mem_cons_of_mem _ hmem
  have:=List.all_eq_true.1 htl s hmem2;simp only [A2v,Bool.not_eq_true',Bool.and_eq_false_iff,decide_eq_false_iff_not] at this;simp only [A24,h1];rcases this with h3 | h3
  ·rw [h3];rfl
  ·rw [A0 (show (D4 s).1.1<st.2.1 by omega)];simp
 have hlen:(L ++ [r]).length=L.length+1:=by simp
 refine ⟨⟨?_,h.ep,?_,?_,?_,?_⟩,hscan⟩
 ·refine B8r ?_ ?_ (fun s hs=>?_) k5
  ·show (st.1.1.set _ _).length=_;rw [List.length_set];exact k2
  ·show (st.1.1.set _ _).length≤_;rw [List.length_set];exact k3
  ·rcases List.mem_or_eq_of_mem_set hs with hs | rfl
   ·exact k4 s hs
   ·exact D8j hr.1
 ·have hup:=h.up;rw [hL] at hup;rw [hscan,A9U,hup];show G2 st.2.2.2 [r]=some us;simp only [G2,hf]
 ·rw [hscan,hlen];show st.2.2.1+1=_;omega
 ·rw [hscan,D8k,h1];exact Int.le_refl _
 ·rw [hscan,hlen];show ((st.1.1.set st.2.2.1.toNat (X2 r)).drop (L.length+1)).all _=true;rw [hto,List.drop_set_of_lt (by omega)];rw [List.drop_eq_getElem_cons hlt',List.all_cons,Bool.and_eq_true] at htl;exact htl.2
def R6(now sure:List ByteArray)(k:List Bool):List ByteArray:=(List.range now.length).map fun i=>bif k.getD i false then now.getD i ⟨#[]⟩ else sure.getD i ⟨#[]⟩
def B6Q(d:F0)(k:List Bool):F0:=(R6 d.1 d.2 k,R6 d.1 d.2 k)
theorem B0q(now sure:List ByteArray)(k:List Bool):(R6 now sure k).length=now.length:=by simp [R6]
theorem B8s{now sure:List ByteArray}{k:List Bool}(h:now.length=sure.length){i:Nat}(hi:i<now.length):(R6 now sure k)[i]? = if k.getD i false=true then now[i]? else sure[i]?:=by
 simp only [R6,List.getElem?_map,List.getElem?_range hi,Option.map_some];rw [List.getElem?_eq_getElem hi,List.getElem?_eq_getElem (show i<sure.length by omega)];have e1:now.getD i ⟨#[]⟩=now[i]:=by simp [List.getD,hi]
 have e2:sure.getD i ⟨#[]⟩=sure[i]'(by omega):=by simp [List.getD,show i<sure.length by omega]
 rw [e1,e2];by_cases hb:k.getD i false=true
 ·rw [if_pos hb,hb];rfl
 ·rw [if_neg hb,Bool.eq_false_iff.2 hb];rfl
def A25{α:Type}(l x:List α)(i:Nat):List α:=l.take i++x.drop i
theorem A8Q{α:Type}{l x:List α}(h:l.length=x.length)(i:Nat):(A25 l x i).length=x.length:=by simp [A25];omega
theorem A6e{α:Type}{l x:List α}(h:l.length=x.length){i:Nat}(hi:i<l.length):(A25 l x i).set i l[i]=A25 l x (i+1):=by
 have hl:(l.take i).length=i:=by rw [List.length_take];omega
 unfold A25;rw [List.drop_eq_getElem_cons (show i<x.length by omega)];have e:(l.take i++x[i]'(by omega)::x.drop (i+1)).set i l[i]=l.take i++(x[i]'(by omega)::x.drop (i+1)).set (i-(l.take i).length) l[i]:=List.set_append_right _ _ (by omega);rw [e,hl,Nat.sub_self,List.set_cons_zero,List.take_succ_eq_append_getElem hi,List.append_assoc];rfl
theorem C98{α:Type}{l x:List α}(h:l.length=x.length){i:Nat}(hi:i<l.length)(he:l[i]? = x[i]?):A25 l x i=A25 l x (i+1):=by
 unfold A25;rw [List.drop_eq_getElem_cons (show i<x.length by omega),List.take_succ_eq_append_getElem hi,List.append_assoc];rw [List.getElem?_eq_getElem hi,List.getElem?_eq_getElem (show i<x.length by omega)] at he;injection he with he
 rw [he];rfl
theorem B4Y{α:Type}{l x:List α}(h:l.length=x.length){i:Nat}(hi:i<x.length):(A25 l x i)[i]? = x[i]?:=by
 unfold A25;rw [List.getElem?_append_right (by rw [List.length_take];omega),List.length_take,Nat.min_eq_left (by omega),Nat.sub_self,List.getElem?_drop,Nat.add_zero]
theorem C0h(d:F0)(k:List Bool)(hd:A3z d=true):A0j d k=some (B6Q d k,()):=by
 obtain ⟨hS,hlen,h200,_,_⟩:=A4m hd;have hml:=B0q d.1 d.2 k;simp only [A0j,A7N,A08 d hS,A6d,hd,bO,Bool.not_true,cond_false];have key:=D3 (J2 k) (fun i=>((i:Int),A25 (R6 d.1 d.2 k) d.1 i,A25 (R6 d.1 d.2 k) d.2 i,())) d.1.length (B6Q d k,()) (fun i hi=>?_) ?_
 ·exact key
 ·have l1:=A8Q (l:=R6 d.1 d.2 k) (x:=d.1) hml i;have l2:=A8Q (l:=R6 d.1 d.2 k) (x:=d.2) (by omega) i;have g1:=B4Y (l:=R6 d.1 d.2 k) (x:=d.1) hml hi;have g2:=B4Y (l:=R6 d.1 d.2 k) (x:=d.2) (by omega) (show i<d.2.length by omega);have hm:=B8s (k:=k) hlen hi;have hmi:i<(R6 d.1 d.2 k).length:=by omega
  simp only [J2,l1];rw [A0 (show (i:Int)<(d.1.length:Int) by omega)];have hb:(bif decide ((i:Int)<(k.length:Int)) then bif decide (0≤(i:Int)) then bif decide ((i:Int)<(k.length:Int)) then (some ((rd .bool k (i:Int)),()):Option (Bool×Unit)) else none else none else some (false,()))=some (k.getD i false,()):=by
   by_cases hik:i<k.length
   ·rw [A0 (show (i:Int)<(k.length:Int) by omega),A0 (show (0:Int)≤(i:Int) by omega)];simp only [cond_true];rw [C3 (k:=.bool) hik];simp [List.getD,hik]
   ·rw [A3 (show ¬ (i:Int)<(k.length:Int) by omega)];simp [List.getD,List.getElem?_eq_none (show k.length≤i by omega)]
  rw [hb];simp only [cond_true,bO,l2,hlen];rw [A0 (show (0:Int)≤(i:Int) by omega),A0 (show (i:Int)<(d.2.length:Int) by omega),w64 (by omega) (by omega)];have r1:rd .str (A25 (R6 d.1 d.2 k) d.1 i) (i:Int)=d.1[i]:=by
   rw [A5f (by omega)];have:=g1;rw [List.getElem?_eq_getElem (by omega),List.getElem?_eq_getElem hi] at this;injection this
  have r2:rd .str (A25 (R6 d.1 d.2 k) d.2 i) (i:Int)=d.2[i]:=by
   rw [A5f (by omega)];have:=g2;rw [List.getElem?_eq_getElem (by omega),List.getElem?_eq_getElem (show i<d.2.length by omega)] at this;injection this
  rw [r1,r2,Int.toNat_natCast];rw [List.getElem?_eq_getElem hmi,List.getElem?_eq_getElem hi,List.getElem?_eq_getElem (show i<d.2.length by omega)] at hm;cases hkb:k.getD i false with
  | true=>
   rw [hkb,if_pos rfl] at hm;injection hm with hm
   simp only [cond_true];rw [← hm,A6e (by omega) hmi,C98 (l:=R6 d.1 d.2 k) (x:=d.1) hml hmi (by rw [List.getElem?_eq_getElem hmi,List.getElem?_eq_getElem hi,hm])];rfl
  | false=>
   rw [hkb,if_neg (by simp)] at hm;injection hm with hm
   simp only [cond_true,cond_false];rw [← hm,A6e hml hmi,C98 (l:=R6 d.1 d.2 k) (x:=d.2) (by omega) hmi (by rw [List.getElem?_eq_getElem hmi,List.getElem?_eq_getElem (show i<d.2.length by omega),hm])];rfl
 ·have e1:A25 (R6 d.1 d.2 k) d.1 d.1.length=R6 d.1 d.2 k:=by unfold A25;rw [List.drop_length,List.append_nil,List.take_of_length_le (by omega)]
  have e2:A25 (R6 d.1 d.2 k) d.2 d.1.length=R6 d.1 d.2 k:=by unfold A25;rw [hlen,List.drop_length,List.append_nil,List.take_of_length_le (by omega)]
  simp only [J2,e1,e2];rw [A3 (by omega)];rfl
theorem D8l(d:F0)(k:List Bool)(hd:A3z d=true):A2Q d k=some (B6Q d k,()):=by
 obtain ⟨d',h1,h2,_⟩:=E2Y d k (A4m hd).1;rw [C0h d k hd] at h1;rw [h2,← h1]
theorem D2X(last:Int)(i:Nat)(l:List ByteArray)(j:Nat):J0 last i (l.take j)=(J0 last i l).take j:=by
 induction l generalizing last i j with
 | nil=>simp [J0]
 | cons s l ih=>
  cases j with
  | zero=>simp [J0]
  | succ j=>
   simp only [List.take_succ_cons,B2V,ih];cases A24 last i s<;>simp
theorem C99(last:Int)(j:Nat)(l:List ByteArray)(i:Nat)(hi:i<(J0 last j l).length):∃ s,l[i]? = some s∧D4 s=((J0 last j l)[i],true,()):=by
 induction l generalizing last j i with
 | nil=>simp [J0] at hi
 | cons s l ih=>
  have e:=B2V last j s l;cases hg:A24 last j s with
  | false=>rw [hg] at e;rw [e] at hi;simp at hi
  | true=>
   rw [hg] at e;simp only [cond_true] at e;cases i with
   | zero=>
    refine ⟨s,rfl,?_⟩;simp only [A24,Bool.and_eq_true] at hg;have h0:(J0 last j (s::l))[0]=(D4 s).1:=by simp only [e];rfl
    rw [h0];have:=hg.1.1;generalize D4 s=g at this;obtain ⟨a,b,u⟩:=g;simp only at this;rw [this]
   | succ i=>
    have hi2:i<(J0 (D4 s).1.1 (j+1) l).length:=by rw [e] at hi;simpa using hi
    obtain ⟨s',h1,h2⟩:=ih _ _ i hi2;refine ⟨s',h1,?_⟩;rw [h2]
    congr 1
    simp only [e,List.getElem_cons_succ]
theorem B2X{now x:List ByteArray}{j:Nat}(hj:j≤(B6 now).length)(hx:x.take j=now.take j)(hlen:x.length=now.length):B6 x=(B6 now).take j++J0 (A15 0 ((B6 now).take j)) j (x.drop j):=by
 have hll:=A5j 0 0 now;have hs:J0 0 0 (x.take j)=(B6 now).take j:=by rw [hx,D2X];rfl
 have h1:(J0 0 0 (x.take j)).length=(x.take j).length:=by
  rw [hs,List.length_take,List.length_take];simp only [B6] at hj ⊢;omega
 have:=C97 0 0 (x.take j) (x.drop j) h1;rw [List.take_append_drop,hs] at this;have hj2:(x.take j).length=j:=by rw [List.length_take];simp only [B6] at hj;omega
 rw [hj2,Nat.zero_add] at this;exact this
theorem E0v{now:List ByteArray}{j:Nat}(hj:(B6 now).length=j):J0 (A15 0 (B6 now)) j (now.drop j) = []:=by
 have h:=B2X (now:=now) (x:=now) (j:=j) (by omega) rfl rfl;rw [← hj,List.take_length] at h;rw [← hj];have h2:B6 now ++ []=B6 now++J0 (A15 0 (B6 now)) (B6 now).length (now.drop (B6 now).length):=by rw [List.append_nil];exact h
 exact (List.append_cancel_left h2).symm
theorem D7U{st:A7}(h:GoodS st):∀ s∈st.1.1,(D4 s).2.1=true→(D4 s).1.1≤st.2.1:=by
 intro s hs hr;obtain ⟨i,hi,rfl⟩:=List.getElem_of_mem hs;by_cases hl:i<(B6 st.1.1).length
 ·obtain ⟨s',h1,h2⟩:=C99 0 0 st.1.1 i hl;rw [List.getElem?_eq_getElem hi] at h1;injection h1 with h1
  rw [h1,h2];have:=(E0u 0 0 st.1.1).2 _ (List.getElem_mem hl);exact Int.le_trans this h.le
 ·have hm:st.1.1[i]∈st.1.1.drop (B6 st.1.1).length:=by
   rw [List.mem_iff_getElem];refine ⟨i-(B6 st.1.1).length,by rw [List.length_drop];omega,?_⟩;rw [List.getElem_drop]
   congr 1
   omega
  have:=List.all_eq_true.1 h.tl _ hm;simp only [A2v,hr,Bool.true_and,Bool.not_eq_true',decide_eq_false_iff_not] at this;omega
structure Dur (st:A7) (c:Nat):Prop where
 g:GoodS st
 le:c≤(B6 st.1.1).length
 out:∀ i,¬ (c≤i∧i<(B6 st.1.1).length)→st.1.2[i]? = st.1.1[i]?
 inn:∀ i s,c≤i→i<(B6 st.1.1).length→st.1.2[i]? = some s→A2v st.2.1 s=false
 ep:∀ i (h:i<(B6 st.1.1).length),c≤i→(B6 st.1.1)[i].1=st.2.1
 sc:B6 st.1.2=(B6 st.1.1).take c
theorem D2Y{e:Int}{s:ByteArray}(h:A2v e s=false)(i:Nat):A24 e i s=false:=by
 simp only [A2v,Bool.and_eq_false_iff,decide_eq_false_iff_not] at h;simp only [A24];rcases h with h | h
 ·rw [h];rfl
 ·rw [A0 (show (D4 s).1.1<e by omega)];simp
theorem C5F{L:List H5}{e:Int}{j:Nat}(h0:0<j)(hj:j≤L.length):A15 e (L.take j)=(L[j-1]'(by omega)).1:=by
 induction L generalizing e j with
 | nil=>simp at hj;omega
 | cons r L ih=>
  cases j with
  | zero=>omega
  | succ j=>
   simp only [List.take_succ_cons,A15];cases j with
   | zero=>simp [A15]
   | succ j=>
    rw [ih (by omega) (by simpa using hj)];simp
theorem B4Z{st:A7}{c:Nat}(h:Dur st c)(k:List Bool){i:Nat}(hi:i<st.1.1.length)(hk:k.getD i false=true∨¬ (c≤i∧i<(B6 st.1.1).length)):(R6 st.1.1 st.1.2 k)[i]? = st.1.1[i]?:=by
 obtain ⟨_,k2,_⟩:=A4m h.g.dk;rw [B8s k2 hi];split
 ·rfl
 ·rename_i hn;rcases hk with hk | hk
  ·exact absurd hk hn
  ·exact h.out i hk
theorem D8m{α:Type}{x now:List α}{j:Nat}(hx:x.take j=now.take j)(hj:j<now.length)(hlen:x.length=now.length)(he:x[j]? = now[j]?):x.take (j+1)=now.take (j+1):=by
 rw [List.take_succ_eq_append_getElem (show j<x.length by omega),List.take_succ_eq_append_getElem hj,hx];rw [List.getElem?_eq_getElem (show j<x.length by omega),List.getElem?_eq_getElem hj] at he;injection he with he
 rw [he]
theorem E0w{st:A7}{c:Nat}(h:Dur st c)(k:List Bool):∃ m,c≤m∧m≤(B6 st.1.1).length∧B6 (R6 st.1.1 st.1.2 k)=(B6 st.1.1).take m:=by
 obtain ⟨_,k2,k3,_⟩:=A4m h.g.dk;have hml:=B0q st.1.1 st.1.2 k;have hll:(B6 st.1.1).length≤st.1.1.length:=A5j 0 0 st.1.1;have go:∀ (n j:Nat),j+n=(B6 st.1.1).length→c≤j→(R6 st.1.1 st.1.2 k).take j=st.1.1.take j→∃ m,c≤m∧m≤(B6 st.1.1).length∧B6 (R6 st.1.1 st.1.2 k)=(B6 st.1.1).take m:=by
  intro n
  induction n with
  | zero=>
   intro j hj hc hx;rw [Nat.add_zero] at hj;refine ⟨j,hc,by omega,?_⟩;rw [B2X (by omega) hx hml,hj,List.take_length];have hdrop:(R6 st.1.1 st.1.2 k).drop (B6 st.1.1).length=st.1.1.drop (B6 st.1.1).length:=by
    refine List.ext_getElem? fun i=>?_
    rw [List.getElem?_drop,List.getElem?_drop];by_cases hi:(B6 st.1.1).length+i<st.1.1.length
    ·exact B4Z h k hi (.inr (by omega))
    ·rw [List.getElem?_eq_none (by omega),List.getElem?_eq_none (by omega)]
   rw [hdrop,E0v rfl,List.append_nil]
  | succ n ih=>
   intro j hj hc hx;have hjl:j<st.1.1.length:=by omega
   cases hk:k.getD j false with
   | true=>exact ih (j+1) (by omega) (by omega) (D8m hx hjl hml (B4Z h k hjl (.inl hk)))
   | false=>
    refine ⟨j,hc,by omega,?_⟩;rw [B2X (by omega) hx hml];have hs:J0 (A15 0 ((B6 st.1.1).take j)) j ((R6 st.1.1 st.1.2 k).drop j) = []:=by
     refine B7m _ _ _ fun s hs=>?_
     have hs2:(R6 st.1.1 st.1.2 k)[j]? = some s:=by
      rw [List.head?_eq_getElem?,List.getElem?_drop,Nat.add_zero] at hs;exact hs
     rw [B8s k2 hjl,hk,if_neg (by simp)] at hs2;by_cases hjc:j=c
     ·have hsp:=B2X (now:=st.1.2) (x:=st.1.2) (j:=c) (by rw [h.sc,List.length_take];omega) rfl rfl;rw [h.sc,List.take_take,Nat.min_self] at hsp;have hnil:J0 (A15 0 ((B6 st.1.1).take c)) c (st.1.2.drop c) = []:=by
       have h2:(B6 st.1.1).take c ++ []=(B6 st.1.1).take c++J0 (A15 0 ((B6 st.1.1).take c)) c (st.1.2.drop c):=by rw [List.append_nil];exact hsp
       exact (List.append_cancel_left h2).symm
      rw [hjc] at hs2 ⊢;have hcl:c<st.1.2.length:=(List.getElem?_eq_some_iff.1 hs2).1;rw [List.drop_eq_getElem_cons hcl,B2V] at hnil;have:st.1.2[c]=s:=by rw [List.getElem?_eq_getElem hcl] at hs2;injection hs2
      rw [this] at hnil;cases hg:A24 (A15 0 ((B6 st.1.1).take c)) c s with
      | false=>rfl
      | true=>rw [hg] at hnil;cases hnil
     ·rw [C5F (by omega) (by omega),h.ep (j-1) (by omega) (by omega)];exact D2Y (h.inn j s hc (by omega) hs2) _
    rw [hs,List.append_nil]
 refine go ((B6 st.1.1).length-c) c (by have:=h.le;omega) (Nat.le_refl _) ?_;refine List.ext_getElem? fun i=>?_
 by_cases hi:i<c
 ·rw [List.getElem?_take_of_lt hi,List.getElem?_take_of_lt hi];exact B4Z h k (by have:=h.le;omega) (.inr (by omega))
 ·rw [List.getElem?_eq_none (by rw [List.length_take];omega),List.getElem?_eq_none (by rw [List.length_take];omega)]
theorem D0L{now sure:List ByteArray}{k:List Bool}(h:now.length=sure.length){s:ByteArray}(hs:s∈R6 now sure k):s∈now∨s∈sure:=by
 obtain ⟨i,hi,rfl⟩:=List.getElem_of_mem hs;have hi':i<now.length:=by rw [B0q] at hi;exact hi
 have:=B8s (k:=k) h hi';rw [List.getElem?_eq_getElem hi] at this;split at this
 ·exact .inl (List.mem_of_getElem? this.symm)
 ·exact .inr (List.mem_of_getElem? this.symm)
theorem D2Z{st:A7}{c:Nat}(h:Dur st c):∀ s∈st.1.2,(D4 s).2.1=true→(D4 s).1.1≤st.2.1:=by
 intro s hs hr;obtain ⟨i,hi,rfl⟩:=List.getElem_of_mem hs;by_cases hb:c≤i∧i<(B6 st.1.1).length
 ·have:=h.inn i _ hb.1 hb.2 (List.getElem?_eq_getElem hi);simp only [A2v,hr,Bool.true_and,decide_eq_false_iff_not] at this;omega
 ·have:=h.out i hb;rw [List.getElem?_eq_getElem hi] at this;exact D7U h.g _ (List.mem_of_getElem? this.symm) hr
theorem B8t:∀ (l:List H5) (us us':List TUp) (m:Nat),G2 us l=some us'→∃ u,G2 us (l.take m)=some u
 | _,us,_,0,_=>⟨us,by simp [G2]⟩
 | [],us,us',m+1,h=>⟨us',by simpa using h⟩
 | r::l,us,us',m+1,h=>by
  simp only [G2] at h;simp only [List.take_succ_cons,G2];split at h
  ·rename_i u1 e1;exact B8t l u1 us' m h
  ·cases h
theorem E2c{l:List ByteArray}{b:Int}(hb:-1≤b)(h:∀ s∈l,(D4 s).2.1=true→(D4 s).1.1≤b):A2c l≤b:=by
 have h1:=B5j (b+1) l (-1);have h2:(l.all fun s=>!A2v (b+1) s)=true:=List.all_eq_true.2 fun s hs=>by
  simp only [A2v,Bool.not_eq_true',Bool.and_eq_false_iff,decide_eq_false_iff_not];cases hr:(D4 s).2.1 with
  | false=>exact .inl rfl
  | true=>have:=h s hs hr;exact .inr (by omega)
 rw [h2,A0 (show (-1:Int)<b+1 by omega),Bool.and_true] at h1;have:=of_decide_eq_true h1;show l.foldl A3x (-1)≤b;omega
def V0(x:List ByteArray)(us:List TUp):A7:=((x,x),(A2c x+1,((List.length (B6 x):Int),us)))
theorem C1x{x:List ByteArray}{us:List TUp}(hd:A3z (x,x)=true)(hu:G2 [] (B6 x)=some us)(ht:A2c x+1≤10000):GoodS (V0 x us):=by
 have h0:=C42 x;refine ⟨hd,⟨by show 0≤A2c x+1;omega,ht⟩,hu,rfl,?_,?_⟩
 ·show A15 0 (B6 x)≤A2c x+1;have hg:∀ (i:Nat) (hi:i<(B6 x).length),∃ s,x[i]? = some s∧D4 s=((B6 x)[i],true,()):=C99 0 0 x;by_cases hl:0<(B6 x).length
  ·have e:=C5F (L:=B6 x) (e:=0) (j:=(B6 x).length) hl (Nat.le_refl _);rw [List.take_length] at e;rw [e];obtain ⟨s,h1,h2⟩:=hg ((B6 x).length-1) (by omega);have h3:=D7T (List.mem_of_getElem? h1) (by rw [h2]);rw [h2] at h3;have h5:((B6 x)[(B6 x).length-1]'(by omega)).1≤A2c x:=h3;have h6:@LE.le Int _ ((B6 x)[(B6 x).length-1]'(by omega)).1 (A2c x+1):=by omega
   exact h6
  ·rw [List.length_eq_zero_iff.1 (show (B6 x).length=0 by omega)];show (0:Int)≤_;omega
 ·refine List.all_eq_true.2 fun s hs=>?_
  have hs2:s∈x:=List.mem_of_mem_drop hs;simp only [A2v,Bool.not_eq_true',Bool.and_eq_false_iff,decide_eq_false_iff_not];cases hr:(D4 s).2.1 with
  | false=>exact .inl rfl
  | true=>
   have:=D7T hs2 hr;refine .inr ?_;show ¬ (D4 s).1.1≥A2c x+1;omega
theorem B7n{st:A7}(h:GoodS st):Dur ((st.1.1,st.1.1),st.2) (B6 st.1.1).length:=
 ⟨⟨D8g h.dk,h.ep,h.up,h.nx,h.le,h.tl⟩,Nat.le_refl _,fun i _=>rfl,fun i s h1 h2 _=>by (have h3:i<(B6 st.1.1).length:=h2;omega),fun i h1 h2=>by (have h3:i<(B6 st.1.1).length:=h1;omega),(List.take_length).symm⟩
theorem D5T{x:List ByteArray}{us:List TUp}(h:GoodS (V0 x us)):Dur (V0 x us) (B6 x).length:=B7n h
theorem D8n{st:A7}{c:Nat}(h:Dur st c){r:H5}(hr:B3b r)(h1:r.1=st.2.1)(h2:r.2.1=st.2.2.1)(hlt:st.2.2.1<(st.1.1.length:Int)){us:List TUp}(hf:J4 st.2.2.2 r=some us):Dur (wrote st r us) c:=by
 obtain ⟨hg,hsc⟩:=B2W h.g hr h1 h2 hlt hf;have hnx:=h.g.nx;have hto:st.2.2.1.toNat=(B6 st.1.1).length:=by omega
 have hll:(B6 st.1.1).length<st.1.1.length:=by omega
 have hlen:((B6 st.1.1) ++ [r]).length=(B6 st.1.1).length+1:=by simp
 have hle:=h.le;refine ⟨hg,by rw [hsc,hlen];omega,fun i hi=>?_,fun i s hc hi hs=>?_,fun i hi hc=>?_,?_⟩
 ·rw [hsc,hlen] at hi;show st.1.2[i]? = (st.1.1.set st.2.2.1.toNat (X2 r))[i]?;rw [hto,List.getElem?_set_ne (by omega)];exact h.out i (by omega)
 ·rw [hsc,hlen] at hi;by_cases hi2:i<(B6 st.1.1).length
  ·exact h.inn i s hc hi2 hs
  ·have e:=h.out i (by omega);have hs':st.1.2[i]? = some s:=hs;rw [e] at hs';have hm:s∈st.1.1.drop (B6 st.1.1).length:=by
    rw [List.mem_iff_getElem?];exact ⟨i-(B6 st.1.1).length,by rw [List.getElem?_drop,show (B6 st.1.1).length+(i-(B6 st.1.1).length)=i by omega];exact hs'⟩
   have:=List.all_eq_true.1 h.g.tl s hm;have h7:A2v st.2.1 s=false:=by simpa using this
   exact h7
 ·have hi':=hi;rw [hsc,hlen] at hi';have e:(B6 (wrote st r us).1.1)[i]=((B6 st.1.1) ++ [r])[i]'(by omega):=by simp only [hsc]
  rw [e];by_cases hi2:i<(B6 st.1.1).length
  ·rw [List.getElem_append_left hi2];exact h.ep i hi2 hc
  ·rw [List.getElem_append_right (by omega)];simp only [show i-(B6 st.1.1).length=0 by omega,List.getElem_cons_zero];exact h1
 ·show B6 st.1.2=_;rw [hsc,List.take_append_of_le_length hle];exact h.sc
theorem C9A{st:A7}{c:Nat}(h:Dur st c)(k:List Bool)(hep:st.2.1≤9999):∃ m us,c≤m∧m≤(B6 st.1.1).length∧B6 (R6 st.1.1 st.1.2 k)=(B6 st.1.1).take m∧G2 [] ((B6 st.1.1).take m)=some us∧
  A2c (R6 st.1.1 st.1.2 k)≤st.2.1∧A3z (B6Q st.1 k)=true∧GoodS (V0 (R6 st.1.1 st.1.2 k) us):=by
 obtain ⟨_,k2,k3,k4,k5⟩:=A4m h.g.dk;obtain ⟨m,h1,h2,h3⟩:=E0w h k;obtain ⟨us,hu⟩:=B8t _ _ _ m h.g.up;have hml:=B0q st.1.1 st.1.2 k;have hdb:A3z (R6 st.1.1 st.1.2 k,R6 st.1.1 st.1.2 k)=true:=by
  have hall:∀ s∈R6 st.1.1 st.1.2 k,s.size≤64:=fun s hs=>(D0L k2 hs).elim (k4 s) (k5 s)
  exact B8r rfl (by simp only [hml];exact k3) hall hall
 have ht:A2c (R6 st.1.1 st.1.2 k)≤st.2.1:=E2c (by have:=h.g.ep.1;omega) fun s hs hr=>(D0L k2 hs).elim (fun hs=>D7U h.g s hs hr) (fun hs=>D2Z h s hs hr)
 exact ⟨m,us,h1,h2,h3,hu,ht,hdb,C1x hdb (by rw [h3];exact hu) (by omega)⟩
inductive Steps (id:ByteArray) (st:A7):A7→Prop
 | refl:Steps id st st
 | step {st1:A7} {r:H5} {us:List TUp}:Steps id st st1→B3b r→r.1=st1.2.1→r.2.1=st1.2.2.1→st1.2.2.1<(st1.1.1.length:Int)→r.2.2.2.1=id→(r.2.2.1=1→r.2.2.2.2.1≤1000000)→J4 st1.2.2.2 r=some us→Steps id st (wrote st1 r us)
theorem E3k{st:A7}(h:Rt st):0≤st.2.2.1∧st.1.1.length≤200:=⟨h.g.2.2.2.2.1.1,h.g.2.2.2.1⟩
theorem D2a{st:A7}{id:ByteArray}{n:Int}(h:Rt st):Steps id st (A0a st id n).1:=by
 unfold A0a;split
 ·rename_i h1;split
  ·exact Steps.refl
  ·rename_i h2;split
   ·exact Steps.refl
   ·rename_i h3;have hr:=A5i h.g 1 n id h1.1 (fun hx=>h3 (.inl hx)) (.inl ⟨rfl,h1.2.1,by omega⟩);exact .step Steps.refl ⟨hr,T4⟩ rfl rfl (by omega) rfl (fun _=>h1.2.2) (B0o h2 (fun hx=>h3 (.inr hx)))
 ·exact Steps.refl
theorem D2b{st:A7}{id:ByteArray}{n:Int}(h:Rt st):Steps id st (X3 st id n).1:=by
 unfold X3;split
 ·rename_i h1;split
  ·rename_i h2;split
   ·exact Steps.refl
   ·rename_i h3;split
    ·exact Steps.refl
    ·split
     ·exact Steps.refl
     ·rename_i h5;split
      ·exact Steps.refl
      ·rename_i h6;have hr:=A5i h.g 3 0 id h1 h6 (.inr ⟨.inl rfl,rfl⟩);exact .step Steps.refl ⟨hr,T4⟩ rfl rfl (by omega) rfl (fun e=>by cases e) (B0p h.up h2 h3 h5)
  ·exact Steps.refl
 ·exact Steps.refl
theorem D2c{st:A7}{id:ByteArray}(h:Rt st):Steps id st (A5A st id).1:=by
 unfold A5A;split
 ·rename_i h1;split
  ·rename_i h2;split
   ·exact Steps.refl
   ·rename_i h3;have hr:=A5i h.g 4 0 id h1 h3 (.inr ⟨.inr rfl,rfl⟩);exact .step Steps.refl ⟨hr,T4⟩ rfl rfl (by omega) rfl (fun e=>by cases e) (C0g h2)
  ·exact Steps.refl
 ·exact Steps.refl
theorem C1y{st:A7}{id:ByteArray}{off:Int}{dat:List Int}(hc:D5L st id off dat):∀ j,j≤nPc dat→Steps id st (putAt st id off dat j)
 | 0,_=>Steps.refl
 | j+1,hj=>by
  have hI:=B5n hc j (by omega);obtain ⟨hr,hf,_⟩:=B0n hc hI (by omega);have h1:=hc.nx.2;have h2:=hI.nx;have h3:=hI.len;exact .step (C1y hc j (by omega)) ⟨hr,A4i (A22 hc.byt _) _⟩ rfl rfl (by omega) rfl (fun e=>by cases e) hf
theorem D5U{st:A7}{id:ByteArray}{off:Int}{dat:List Int}(h:Rt st)(hb:Byt dat):Steps id st (A23 st id off dat).1:=by
 unfold A23;split
 ·rename_i h1;split
  ·rename_i h3;split
   ·exact Steps.refl
   ·rename_i h4;split
    ·exact Steps.refl
    ·rename_i h5;exact C1y (B2T h hb h1.1 h1.2 h3 h4 h5) _ (Nat.le_refl _)
  ·exact Steps.refl
 ·exact Steps.refl
theorem B8u{st:A7}(h:GoodS st):Rt st∧A8P st∧F7 st=some (true,())∧A1u st=some (true,()):=by
 have hU:=B4X h;have hS:=A4m h.dk;obtain ⟨b,h1,h2,h3⟩:=D2W st hS.1.1 (fun u hu=>(hU.2.2 u hu).2.2.2);rw [h3.2 h] at h1 h2;exact ⟨D0K h hU,D5Q hS.1 hU,h1,h2⟩
def E3l(st:A7):Prop:=∀ r∈B6 st.1.1,r.2.2.1=1→r.2.2.2.2.1≤1000000
structure E4E (k:Nat) (st:A7):Prop where
 dur:∃ c,Dur st c
 ep:st.2.1≤(k:Int)
 ids:∀ s,s∈st.1.1∨s∈st.1.2→(D4 s).2.1=true→(D4 s).1.2.2.2.1∈ [(⟨#[97]⟩:ByteArray),(⟨#[98]⟩:ByteArray),(⟨#[99]⟩:ByteArray)]
 wn:E3l st
theorem C0i{x:List ByteArray}{us:List TUp}(h:GoodS (V0 x us)):E1 (x,x)=some (V0 x us,true,()):=by
 obtain ⟨hS,_,h200,_⟩:=A4m h.dk;have hdk:A3z (x,x)=true:=h.dk;have hl:x.length≤200:=h200;have hll:=A5j 0 0 x;have hfs:=A2u (B6 x) (by simp only [maxLen,B6];omega) (B2U 0 0 x);have hf:Q8 (B6 x)=(us,true,()):=by
  unfold Q8;rw [show G2 [] (B6 x)=some us from h.up]
 have htop:=C42 x;have hep:A2c x+1≤10000:=h.ep.2;simp only [E1,P5,A6d,hdk,B5o (x,x) hS.1,hfs,hf,A6E (x,x) hS.1,A08 (x,x) hS,bO,Bool.not_true,cond_false];rw [w64 (n:=A2c x+1) (by omega) (by omega),A3 (show ¬ A2c x+1>10000 by omega)];rfl
theorem D5V(last:Int)(i:Nat)(l:List ByteArray)(h:∀ s∈l,(D4 s).2.1=false):J0 last i l = []:=B7m _ _ _ fun s hs=>by
 simp only [A24,h s (List.mem_of_mem_head? hs),Bool.false_and]
theorem B8v:(D4 ⟨#[]⟩).2.1=false:=by
 unfold D4 A9S;have h0:(⟨#[]⟩:ByteArray).size=0:=rfl;rw [h0,A3 (by omega)];rfl
theorem B6R(n:Int)(hn:n≤200):E4E 0 (D6 n,(0,(0,[]))):=by
 have hall:∀ s,s∈(D6 n).1∨s∈(D6 n).2→s=⟨#[]⟩:=by
  intro s hs;unfold D6 at hs;split at hs
  ·rcases hs with hs | hs<;>exact (List.mem_replicate.1 hs).2
  ·rcases hs with hs | hs<;>cases hs
 have hg:∀ s∈(D6 n).1,(D4 s).2.1=false:=fun s hs=>by rw [hall s (.inl hs)];exact B8v
 have hsc:B6 (D6 n).1 = []:=D5V _ _ _ hg;have hsz:∀ s,s∈(D6 n).1∨s∈(D6 n).2→s.size≤64:=fun s hs=>by rw [hall s hs];show 0≤64;omega
 have hlen:(D6 n).1.length=(D6 n).2.length∧(D6 n).1.length≤200:=by
  unfold D6;split<;>simp<;>omega
 have heq:(D6 n).2=(D6 n).1:=by
  unfold D6;split<;>rfl
 have hG:GoodS (D6 n,(0,(0,[]))):=by
  refine ⟨B8r hlen.1 hlen.2 (fun s hs=>hsz s (.inl hs)) (fun s hs=>hsz s (.inr hs)),by simp,?_,?_,?_,?_⟩
  ·show G2 [] (B6 (D6 n).1)=_;rw [hsc];rfl
  ·show (0:Int)=((B6 (D6 n).1).length:Int);rw [hsc];rfl
  ·show A15 0 (B6 (D6 n).1)≤0;rw [hsc];exact Int.le_refl _
  ·refine List.all_eq_true.2 fun s hs=>?_
   have:=hg s (List.mem_of_mem_drop hs);simp only [A2v,this,Bool.false_and,Bool.not_false]
 refine ⟨⟨0,hG,Nat.zero_le _,fun i _=>by rw [show ((D6 n,((0:Int),((0:Int),([]:List TUp)))):A7).1.2=(D6 n).1 from heq],fun i s _ h2 _=>?_,fun i h1 _=>?_,?_⟩,by simp,fun s hs hr=>?_,fun r hr=>by (have hr':r∈B6 (D6 n).1:=hr;rw [hsc] at hr';cases hr')⟩
 ·have h2':i<(B6 (D6 n).1).length:=h2;rw [hsc] at h2';simp at h2'
 ·have h1':i<(B6 (D6 n).1).length:=h1;rw [hsc] at h1';simp at h1'
 ·show B6 (D6 n).2=(B6 (D6 n).1).take 0;rw [heq,hsc];rfl
 ·rw [hall s hs,B8v] at hr;cases hr
def lenOf(st:A7)(id:ByteArray):Int:=if F5 st.2.2.2 id=true then (List.length (rd kUp st.2.2.2 (A9 st.2.2.2 id:Int)).2.2.1:Int) else 0
def G3(st:A7)(code:Int)(id:ByteArray):L8:=
 if code=2 then (404,-1) else if code=3∨code=4 then (409,lenOf st id) else if code=5 then (507,-1) else if code=6 then (422,-1) else (400,-1)
def D0M(st:A7)(r:A1e):L8:=
 if F5 st.2.2.2 r.2.1=true then (if r.1=5∧(rd kUp st.2.2.2 (A9 st.2.2.2 r.2.1:Int)).2.2.2=false then (409,lenOf st r.2.1) else (200,lenOf st r.2.1)) else (404,-1)
def A5k(st:A7)(r:A1e)(dat:List Int):A7×L8:=
 if r.1=1 then ((A0a st r.2.1 r.2.2).1,if (A0a st r.2.1 r.2.2).2=0 then (201,0) else G3 st (A0a st r.2.1 r.2.2).2 r.2.1)
 else if r.1=3 then ((A23 st r.2.1 r.2.2 dat).1,if (A23 st r.2.1 r.2.2 dat).2=0 then (204,r.2.2+(dat.length:Int)) else G3 st (A23 st r.2.1 r.2.2 dat).2 r.2.1)
 else if r.1=4 then ((X3 st r.2.1 r.2.2).1,if (X3 st r.2.1 r.2.2).2=0 then (200,-1) else G3 st (X3 st r.2.1 r.2.2).2 r.2.1)
 else if r.1=6 then ((A5A st r.2.1).1,if (A5A st r.2.1).2=0 then (204,-1) else G3 st (A5A st r.2.1).2 r.2.1)
 else (st,D0M st r)
theorem B7o{st:A7}{id:ByteArray}{n:Int}(h:¬ (A0a st id n).2=0):(A0a st id n).1=st:=by
 unfold A0a at h ⊢;split
 ·rename_i h1;rw [if_pos h1] at h;split
  ·rfl
  ·rename_i h2;rw [if_neg h2] at h;split
   ·rfl
   ·rename_i h3;rw [if_neg h3] at h;exact absurd rfl h
 ·rfl
theorem C0j{st:A7}{id:ByteArray}{n:Int}{d:List Int}(h:¬ (A23 st id n d).2=0):(A23 st id n d).1=st:=by
 unfold A23 at h ⊢;split
 ·rename_i h1;rw [if_pos h1] at h;split
  ·rename_i h2;rw [if_pos h2] at h;split
   ·rfl
   ·rename_i h3;rw [if_neg h3] at h;split
    ·rfl
    ·rename_i h4;rw [if_neg h4] at h;exact absurd rfl h
  ·rfl
 ·rfl
theorem B7p{st:A7}{id:ByteArray}{n:Int}(h:¬ (X3 st id n).2=0):(X3 st id n).1=st:=by
 unfold X3 at h ⊢;split
 ·rename_i h1;rw [if_pos h1] at h;split
  ·rename_i h2;rw [if_pos h2] at h;split
   ·rfl
   ·rename_i h3;rw [if_neg h3] at h;split
    ·rfl
    ·rename_i h4;rw [if_neg h4] at h;split
     ·rfl
     ·rename_i h5;rw [if_neg h5] at h;split
      ·rfl
      ·rename_i h6;rw [if_neg h6] at h;exact absurd rfl h
  ·rfl
 ·rfl
theorem C5G{st:A7}{id:ByteArray}(h:¬ (A5A st id).2=0):(A5A st id).1=st:=by
 unfold A5A at h ⊢;split
 ·rename_i h1;rw [if_pos h1] at h;split
  ·rename_i h2;rw [if_pos h2] at h;split
   ·rfl
   ·rename_i h4;rw [if_neg h4] at h;exact absurd rfl h
  ·rfl
 ·rfl
theorem B8w{st:A7}{id:ByteArray}{off:Int}{dat:List Int}(h:Rt st)(hb:Byt dat)(h0:(A23 st id off dat).2=0):lenOf (A23 st id off dat).1 id=off+(dat.length:Int)∧off=lenOf st id∧0≤off:=by
 unfold A23 at h0 ⊢;split at h0
 ·rename_i h1;rw [if_pos h1];split at h0
  ·rename_i h3;rw [if_pos h3];split at h0
   ·simp at h0
   ·rename_i h4;rw [if_neg h4];split at h0
    ·simp at h0
    ·rename_i h5;rw [if_neg h5];have hc:=B2T h hb h1.1 h1.2 h3 h4 h5;have hI:=B5n hc _ (Nat.le_refl _);have hn:dat.length≤nPc dat*24:=by
      have:¬ nPc dat<nPc dat:=Nat.lt_irrefl _;rw [B4W] at this;omega
     have hat:=hc.at';refine ⟨?_,?_,by omega⟩
     ·unfold lenOf;rw [if_pos hI.has,hI.val];simp only [List.length_append,List.take_of_length_le hn];omega
     ·unfold lenOf;rw [if_pos h3];exact hat
  ·simp at h0
 ·simp at h0
theorem C0k(x:D8)(n:Int)(id:ByteArray)(hU:Ups x.1.2.2.2):N0 x n id=some ((n,lenOf x.1 id),x,()):=by
 have hul:=hU.2.1;simp only [N0,A6r,lenOf];rw [A7j x.1.2.2.2 id (by simp only [maxLen];omega)];cases hh:F5 x.1.2.2.2 id with
 | false=>
  simp only [Bool.false_eq_true,if_false,bO];rw [A0 (show (-1:Int)<0 by omega)];rfl
 | true=>
  simp only [if_true,bO];rw [A3 (show ¬ (A9 x.1.2.2.2 id:Int)<0 by omega)];rfl
theorem A7b(x:D8)(c:Int)(id:ByteArray)(hU:Ups x.1.2.2.2):I9 x c id=some (G3 x.1 c id,x,()):=by
 simp only [I9,A3f,C0k x 409 id hU,G3,bO];by_cases h2:c=2
 ·rw [A0 h2,if_pos h2];rfl
 rw [A3 h2,if_neg h2];by_cases h3:c=3
 ·rw [A0 h3,if_pos (.inl h3)];rfl
 rw [A3 h3];by_cases h4:c=4
 ·rw [A0 h4,if_pos (.inr h4)];rfl
 rw [A3 h4,if_neg (fun h=>h.elim h3 h4)];simp only [cond_false,bO];by_cases h5:c=5
 ·rw [A0 h5,if_pos h5];rfl
 rw [A3 h5,if_neg h5];by_cases h6:c=6
 ·rw [A0 h6,if_pos h6];rfl
 rw [A3 h6,if_neg h6];rfl
theorem D8o(x:D8)(r:A1e)(hU:Ups x.1.2.2.2):A0z x r=some (D0M x.1 r,x,()):=by
 have hul:=hU.2.1;simp only [A0z,A6s,C0k x _ r.2.1 hU,D0M,bO];rw [A7j x.1.2.2.2 r.2.1 (by simp only [maxLen];omega)];cases hh:F5 x.1.2.2.2 r.2.1 with
 | false=>
  simp only [Bool.false_eq_true,if_false,bO];rw [A0 (show (-1:Int)<0 by omega)];rfl
 | true=>
  simp only [if_true,bO];rw [A3 (show ¬ (A9 x.1.2.2.2 r.2.1:Int)<0 by omega)];simp only [cond_false];by_cases h5:r.1=5
  ·rw [A0 h5];simp only [cond_true,bO];cases hd:(rd kUp x.1.2.2.2 (A9 x.1.2.2.2 r.2.1:Int)).2.2.2 with
   | true=>rw [if_neg (fun h=>by cases h.2)];rfl
   | false=>rw [if_pos ⟨h5,rfl⟩];rfl
  ·rw [A3 h5,if_neg (fun h=>h5 h.1)];rfl
theorem C9B(st:A7)(id:ByteArray)(hU:Ups st.2.2.2):A80 st id=some (if F5 st.2.2.2 id=true then rd kUp st.2.2.2 (A9 st.2.2.2 id:Int) else (⟨#[]⟩,(0,([],false))),F5 st.2.2.2 id,()):=by
 simp only [A80,C4n];rw [B8q st.2.2.2 id hU];cases hh:F5 st.2.2.2 id with
 | false=>
  simp only [Bool.false_eq_true,if_false,bO];rw [A0 (show (-1:Int)<0 by omega)];rfl
 | true=>
  obtain ⟨hlt,hid2⟩:=H4.1 hh;have hdl:=B2P hU _ (List.getElem_mem hlt);rw [← C3 (k:=kUp) hlt] at hdl;simp only [if_true,bO];rw [A3 (show ¬ (A9 st.2.2.2 id:Int)<0 by omega),A0 (show (0:Int)≤(A9 st.2.2.2 id:Int) by omega),A0 (show (A9 st.2.2.2 id:Int)<(st.2.2.2.length:Int) by omega),A0 (by simp;omega),A0 (by simp;omega)];simp only [cond_true,cond_false,List.nil_append]
theorem B8x(st:A7)(id:ByteArray)(c:Int)(hU:Ups st.2.2.2):A81 st id c=some (G3 st c id,()):=by
 have hlo:(List.length (if F5 st.2.2.2 id=true then rd kUp st.2.2.2 (A9 st.2.2.2 id:Int) else ((⟨#[]⟩,(0,([],false))):TUp)).2.2.1:Int)=lenOf st id:=by
  unfold lenOf;split<;>rfl
 simp only [A81,B7U,C9B st id hU,G3,bO,hlo];by_cases h2:c=2
 ·rw [A0 h2,if_pos h2];rfl
 rw [A3 h2,if_neg h2];by_cases h3:c=3
 ·rw [A0 h3,if_pos (.inl h3)];rfl
 rw [A3 h3];by_cases h4:c=4
 ·rw [A0 h4,if_pos (.inr h4)];rfl
 rw [A3 h4,if_neg (fun h=>h.elim h3 h4)];simp only [cond_false,bO];by_cases h5:c=5
 ·rw [A0 h5,if_pos h5];rfl
 rw [A3 h5,if_neg h5];by_cases h6:c=6
 ·rw [A0 h6,if_pos h6];rfl
 rw [A3 h6,if_neg h6];rfl
theorem D5W(st:A7)(r:A1e)(hU:Ups st.2.2.2):A4I st r=some (D0M st r,()):=by
 simp only [A4I,B1u,C9B st r.2.1 hU,D0M,lenOf,bO];cases hh:F5 st.2.2.2 r.2.1 with
 | false=>rfl
 | true=>
  simp only [if_true,Bool.not_true,cond_false];by_cases h5:r.1=5
  ·rw [A0 h5];cases hd:(rd kUp st.2.2.2 (A9 st.2.2.2 r.2.1:Int)).2.2.2 with
   | true=>rw [if_neg (fun h=>by cases h.2)];rfl
   | false=>rw [if_pos ⟨h5,rfl⟩];rfl
  ·rw [A3 h5,if_neg (fun h=>h5 h.1)];rfl
theorem D2d(x:D8)(r:A1e)(dat:List Int)(hid:r.2.1.size≤maxLen)(h:Rt x.1)(hb:Byt dat)(hd:dat.length≤1048576)(ho:-9223372036854775808≤r.2.2∧r.2.2≤9223372036854775807) :
  Z4 x r dat=some ((A5k x.1 r dat).2,((A5k x.1 r dat).1,x.2),()):=by
 have hU:=h.up;simp only [Z4,A4b,A5k];by_cases h1:r.1=1
 ·rw [A0 h1,if_pos h1,D2N x.1 r.2.1 r.2.2 hid h];simp only [cond_true,bO,B7];by_cases hz:(A0a x.1 r.2.1 r.2.2).2=0
  ·rw [A0 hz,if_pos hz];rfl
  ·rw [A3 hz,if_neg hz,B7o hz];simp only [Bool.not_false,cond_true];have e:=A7b x (A0a x.1 r.2.1 r.2.2).2 r.2.1 hU;have e':I9 (((x.1.1.1,x.1.1.2),(x.1.2.1,(x.1.2.2.1,x.1.2.2.2))),x.2) (A0a x.1 r.2.1 r.2.2).2 r.2.1=_:=e;rw [e'];rfl
 rw [A3 h1,if_neg h1];by_cases h3:r.1=3
 ·rw [A0 h3,if_pos h3,D5O x.1 r.2.1 r.2.2 dat hid h hb hd ho];simp only [cond_true,cond_false,bO];have hU2:=(D2M (id:=r.2.1) (off:=r.2.2) (dat:=dat) h hb).1;rw [C0k ((A23 x.1 r.2.1 r.2.2 dat).1,x.2) 204 r.2.1 hU2];simp only [bO,B7];by_cases hz:(A23 x.1 r.2.1 r.2.2 dat).2=0
  ·rw [A0 hz,if_pos hz,(B8w h hb hz).1];rfl
  ·rw [A3 hz,if_neg hz,C0j hz];simp only [Bool.not_false,cond_true];have e:=A7b x (A23 x.1 r.2.1 r.2.2 dat).2 r.2.1 hU;have e':I9 (((x.1.1.1,x.1.1.2),(x.1.2.1,(x.1.2.2.1,x.1.2.2.2))),x.2) (A23 x.1 r.2.1 r.2.2 dat).2 r.2.1=_:=e;rw [e'];rfl
 rw [A3 h3,if_neg h3];by_cases h4:r.1=4
 ·rw [A0 h4,if_pos h4,D2P x.1 r.2.1 r.2.2 hid h];simp only [cond_true,cond_false,bO,B7];by_cases hz:(X3 x.1 r.2.1 r.2.2).2=0
  ·rw [A0 hz,if_pos hz];rfl
  ·rw [A3 hz,if_neg hz,B7p hz];simp only [Bool.not_false,cond_true];have e:=A7b x (X3 x.1 r.2.1 r.2.2).2 r.2.1 hU;have e':I9 (((x.1.1.1,x.1.1.2),(x.1.2.1,(x.1.2.2.1,x.1.2.2.2))),x.2) (X3 x.1 r.2.1 r.2.2).2 r.2.1=_:=e;rw [e'];rfl
 rw [A3 h4,if_neg h4];by_cases h6:r.1=6
 ·rw [A0 h6,if_pos h6,D2R x.1 r.2.1 hid h];simp only [cond_true,cond_false,bO,B7];by_cases hz:(A5A x.1 r.2.1).2=0
  ·rw [A0 hz,if_pos hz];rfl
  ·rw [A3 hz,if_neg hz,C5G hz];simp only [Bool.not_false,cond_true];have e:=A7b x (A5A x.1 r.2.1).2 r.2.1 hU;have e':I9 (((x.1.1.1,x.1.1.2),(x.1.2.1,(x.1.2.2.1,x.1.2.2.2))),x.2) (A5A x.1 r.2.1).2 r.2.1=_:=e;rw [e'];rfl
 rw [A3 h6,if_neg h6,D8o x r hU];rfl
theorem C9C(st:A7)(r:A1e)(dat:List Int)(hid:r.2.1.size≤maxLen)(h:Rt st)(hS:A8P st)(hok:F7 st=some (true,()))(hb:Byt dat)(hd:dat.length≤1048576)(ho:-9223372036854775808≤r.2.2∧r.2.2≤9223372036854775807) :
  T1 st r dat=some ((A5k st r dat).1,(A5k st r dat).2,()):=by
 have hU:=h.up;simp only [T1,A4O,A5k];by_cases h1:r.1=1
 ·rw [A0 h1,if_pos h1,D2O st r.2.1 r.2.2 hid h hS hok];simp only [cond_true,bO,B7];by_cases hz:(A0a st r.2.1 r.2.2).2=0
  ·rw [A0 hz,if_pos hz];rfl
  ·rw [A3 hz,if_neg hz,B7o hz];simp only [Bool.not_false,cond_true,B8x st r.2.1 _ hU,bO]
 rw [A3 h1,if_neg h1];by_cases h3:r.1=3
 ·rw [A0 h3,if_pos h3,D5P st r.2.1 r.2.2 dat hid h hS hok hb hd ho];simp only [cond_true,cond_false,bO,B7];by_cases hz:(A23 st r.2.1 r.2.2 dat).2=0
  ·rw [A0 hz,if_pos hz];have hl:=B8w h hb hz;have hlo:lenOf st r.2.1≤2000000000:=by
    unfold lenOf;split
    ·rename_i hh;obtain ⟨hlt,_⟩:=H4.1 hh;have hdl:=B2P hU _ (List.getElem_mem hlt);rw [← C3 (k:=kUp) hlt] at hdl;omega
    ·omega
   rw [w64 (by omega) (by omega)];rfl
  ·rw [A3 hz,if_neg hz,C0j hz];simp only [Bool.not_false,cond_true,B8x st r.2.1 _ hU,bO]
 rw [A3 h3,if_neg h3];by_cases h4:r.1=4
 ·rw [A0 h4,if_pos h4,D2Q st r.2.1 r.2.2 hid h hS hok];simp only [cond_true,cond_false,bO,B7];by_cases hz:(X3 st r.2.1 r.2.2).2=0
  ·rw [A0 hz,if_pos hz];rfl
  ·rw [A3 hz,if_neg hz,B7p hz];simp only [Bool.not_false,cond_true,B8x st r.2.1 _ hU,bO]
 rw [A3 h4,if_neg h4];by_cases h6:r.1=6
 ·rw [A0 h6,if_pos h6,D2S st r.2.1 hid h hS hok];simp only [cond_true,cond_false,bO,B7];by_cases hz:(A5A st r.2.1).2=0
  ·rw [A0 hz,if_pos hz];rfl
  ·rw [A3 hz,if_neg hz,C5G hz];simp only [Bool.not_false,cond_true,B8x st r.2.1 _ hU,bO]
 rw [A3 h6,if_neg h6,D5W st r hU];rfl
def G5(c:P1):P1:=if G7 c&&!A2s c then (c.1,c.2.1,2,c.2.2.2) else c
theorem A9V(c:P1)(h:c.1.size≤maxLen)(h2:c.2.1.length≤140737488355328):A0i c=some (G5 c,()):=by
 simp only [A0i,B7W,pe,C4u _ h2,A2r _ h,B7j,A4,G5];cases G7 c<;>cases A2s c<;>simp
theorem D2e(c:P1)(h:c.1.size≤maxLen)(h2:c.2.1.length≤140737488355328):A8K c=some (G5 c,()):=by
 simp only [A8K,B7h,pe,B0B _ h2,A6B _ h,C0W,A4,G5];cases G7 c<;>cases A2s c<;>simp
theorem E2d{us:List TUp}(ho:Ord us){i j:Nat}(hi:i<us.length)(hj:j<us.length)(h:us[i].1.toList=us[j].1.toList):i=j:=by
 rcases Nat.lt_trichotomy i j with h1 | h1 | h1
 ·have:=List.pairwise_iff_getElem.1 ho i j hi hj h1;rw [h] at this;simp [A1E] at this
 ·exact h1
 ·have:=List.pairwise_iff_getElem.1 ho j i hj hi h1;rw [h] at this;simp [A1E] at this
theorem B8y{st:A7}(ho:Ord st.2.2.2){u:TUp}(hu:u∈st.2.2.2):B0C st u.1=(u,true,()):=by
 obtain ⟨i,hi,rfl⟩:=List.getElem_of_mem hu;have hle:B62 st.2.2.2 st.2.2.2[i].1≤i:=by
  refine Nat.le_of_not_lt fun hlt=>?_
  have:=A6Z _ st.2.2.2.length 0 i (by omega) hlt;rw [C3 (k:=kUp) (xs:=st.2.2.2) hi] at this;simp at this
 have hlt:B62 st.2.2.2 st.2.2.2[i].1<st.2.2.2.length:=by omega
 have hf:=A2U (fun j=>!((rd kUp st.2.2.2 (j:Int)).1.toList == st.2.2.2[i].1.toList)) st.2.2.2.length 0 (by have:B62 st.2.2.2 st.2.2.2[i].1<st.2.2.2.length:=hlt;unfold B62 at this;omega);have hf2:(!((rd kUp st.2.2.2 (B62 st.2.2.2 st.2.2.2[i].1:Int)).1.toList == st.2.2.2[i].1.toList))=false:=hf;rw [C3 (k:=kUp) (xs:=st.2.2.2) hlt] at hf2;simp only [Bool.not_eq_false',beq_iff_eq] at hf2;have:=E2d ho hlt hi hf2;unfold B0C;rw [if_pos hlt,C3 (k:=kUp) (xs:=st.2.2.2) hlt];simp only [this]
end Go.Proofs.YtpdcljonclhhpaaGreat.Ev
