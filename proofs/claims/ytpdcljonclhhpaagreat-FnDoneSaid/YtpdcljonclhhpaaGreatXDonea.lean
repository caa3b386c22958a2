/- What the plain functions of the program and of the reference answer: laws of plain data. -/
import Derived.Test.YtpdcljonclhhpaaGreatPu
import Derived.Laws.Strings
set_option linter.unusedVariables false
set_option linter.unusedSimpArgs false
namespace Go.Proofs.YtpdcljonclhhpaaGreat.Ev
theorem w64{n:Int}(h0:-9223372036854775808<=n)(h1:n<9223372036854775808):IntKind.i64.wrap n=n:=by
 simp only [IntKind.wrap,IntKind.bits,IntKind.signed,Bool.true_and];simp;split<;>omega
theorem P0{α β:Type}(f:α->Option (α⊕β))(μ:α->Nat)(I:α->Prop)(Q:β->Prop)
  (h:∀ x,I x->(∃ y,f x=some (.inl y)/\I y/\μ y<μ x)\/∃ z,f x=some (.inr z)/\Q z):∀ x,I x->∃ z,C3 f x=some z/\Q z:=by
 intro x;generalize hn:μ x=n
 induction n using Nat.strongRecOn generalizing x with
 | ind n ih=>
  intro hx;rw [A3g];rcases h x hx with ⟨y,e,hy,hl⟩ | ⟨z,e,hz⟩
  ·rw [e];exact ih (μ y) (by omega) y rfl hy
  ·rw [e];exact ⟨z,rfl,hz⟩
theorem E0{α β:Type}(f:α->Option (α⊕β))(s:Nat->α)(n:Nat)(z:β)(h:∀ i,i<n->f (s i)=some (.inl (s (i+1))))(he:f (s n)=some (.inr z)):C3 f (s 0)=some z:=by
 have key:∀ k i,i+k=n->C3 f (s i)=some z:=by
  intro k
  induction k with
  | zero=>intro i hi;rw [A3g,show i=n by omega,he]
  | succ k ih=>intro i hi;rw [A3g,h i (by omega)];exact ih (i+1) (by omega)
 exact key n 0 (by omega)
theorem E0p{α β:Type}(f:α->Option (α⊕β))(s:Nat->α)(n:Nat)(z:Nat->β)(go:Nat->Bool)(h:∀ i,i<n->f (s i)=if go i then some (.inl (s (i+1))) else some (.inr (z i)))(he:f (s n)=some (.inr (z n))) :
  ∃ i,i<=n/\(∀ j,j<i->go j=true)/\(i<n->go i=false)/\C3 f (s 0)=some (z i):=by
 have key:∀ k i,i+k=n->(∀ j,j<i->go j=true)->∃ i',i'<=n/\(∀ j,j<i'->go j=true)/\(i'<n->go i' = false)/\C3 f (s i)=some (z i'):=by
  intro k
  induction k with
  | zero=>
   intro i hi hg;obtain rfl:i=n:=by omega
   exact ⟨i,Nat.le_refl _,hg,fun h=>absurd h (by omega),by rw [A3g,he]⟩
  | succ k ih=>
   intro i hi hg;cases hgo:go i with
   | true=>
    obtain ⟨i',h1,h2,h3,h4⟩:=ih (i+1) (by omega) (fun j hj=>by
     by_cases h:j<i
     ·exact hg j h
     ·rw [show j=i by omega];exact hgo)
    refine ⟨i',h1,h2,h3,?_⟩;rw [A3g,h i (by omega),if_pos hgo];exact h4
   | false=>
    refine ⟨i,by omega,hg,fun _=>hgo,?_⟩;rw [A3g,h i (by omega),hgo];rfl
 exact key n 0 (by omega) (fun j hj=>by omega)
theorem F0d(s:X0)(i:Int):0<=bt s i:=by unfold bt;omega
theorem F0e(s:X0)(i:Int):bt s i<256:=by
 have:=(s.data.toList.getD i.toNat 0).toNat_lt;unfold bt;omega
theorem E9u(s:X0)(i:Int):IntKind.i64.wrap (bt s i)=bt s i:=w64 (by have:=F0d s i;omega) (by have:=F0e s i;omega)
theorem C7{k:K}{xs:List k.T}{i:Nat}(h:i<xs.length):rd k xs (i:Int)=xs[i]:=by
 unfold rd;rw [Int.toNat_natCast];simp [List.getD,h]
theorem D10{κ:IntKind}{xs:List Int}{i:Nat}(h:i<xs.length):rd (.int κ) xs (i:Int)=xs[i]:=C7 (k:=.int κ) h
theorem A7Q{xs:List X0}{i:Nat}(h:i<xs.length):rd .str xs (i:Int)=xs[i]:=C7 (k:=.str) h
def Byt(a:List Int):Prop:=∀ x∈a,0<=x/\x<256
theorem pe{α β:Type}(p:α×β):(p.1,p.2)=p:=rfl
theorem A0{p:Prop} [Decidable p] (h:p):decide p=true:=decide_eq_true h
theorem A4{p:Prop} [Decidable p] (h:¬ p):decide p=false:=decide_eq_false h
def Sm(N:Nat):(k:K)->k.T->Prop
 | .int _,_=>True
 | .bool,_=>True
 | .fnc _,_=>True
 | .str,s=>s.size<=N
 | .sl _ k,xs=>xs.length<=N/\∀ x∈xs,Sm N k x
 | .rs _ k,xs=>xs.length<=N/\∀ x∈xs,Sm N k x
 | .pair a b,x=>Sm N a x.1/\Sm N b x.2
theorem Sm.l{N:Nat}{a b:K}{x:(K.pair a b).T}(h:Sm N (.pair a b) x):Sm N a x.1:=h.1
theorem Sm.r{N:Nat}{a b:K}{x:(K.pair a b).T}(h:Sm N (.pair a b) x):Sm N b x.2:=h.2
theorem B9C{α β:Type}{f g:α->Option (α⊕β)}(I:α->Prop)(h:∀ x,I x->f x=g x)(hI:∀ x y,I x->f x=some (.inl y)->I y):∀ n x,I x->B0a f n x=B0a g n x
 | 0,_,_=>rfl
 | n+1,x,hx=>by
  simp only [B0a,<- h x hx];cases e:f x with
  | none=>rfl
  | some v=>
   cases v with
   | inl y=>exact B9C I h hI n y (hI x y hx e)
   | inr z=>rfl
theorem B37{α β:Type}{f g:α->Option (α⊕β)}(I:α->Prop)(h:∀ x,I x->f x=g x)(hI:∀ x y,I x->f x=some (.inl y)->I y){x:α}(hx:I x):C3 f x=C3 g x:=by
 cases e:C3 g x with
 | some z=>
  obtain ⟨n,hn⟩:=A8S e;exact B8i (n:=n) (by rw [B9C I h hI n x hx];exact hn)
 | none=>
  cases e':C3 f x with
  | none=>rfl
  | some z=>
   obtain ⟨n,hn⟩:=A8S e';rw [B9C I h hI n x hx] at hn;rw [B8i hn] at e;cases e
def V3(go:Nat->Bool):Nat->Nat->Nat
 | i,0=>i
 | i,k+1=>if go i then V3 go (i+1) k else i
theorem C66(go:Nat->Bool):∀ k i,V3 go i k<=i+k
 | 0,i=>Nat.le_refl _
 | k+1,i=>by
  simp only [V3];split
  ·have:=C66 go k (i+1);omega
  ·omega
theorem B6S(go:Nat->Bool):∀ k i,V3 go i k<i+k->go (V3 go i k)=false
 | 0,i,h=>by simp [V3] at h
 | k+1,i,h=>by
  simp only [V3] at h ⊢;split
  ·rename_i hg;rw [if_pos hg] at h;exact B6S go k (i+1) (by omega)
  ·rename_i hg;simpa using hg
theorem A6P{α β:Type}(f:α->Option (α⊕β))(s:Nat->α)(n:Nat)(z:Nat->β)(go:Nat->Bool)(h:∀ i,i<n->f (s i)=if go i then some (.inl (s (i+1))) else some (.inr (z i)))(he:f (s n)=some (.inr (z n))) :
  C3 f (s 0)=some (z (V3 go 0 n)):=by
 have key:∀ k i,i+k=n->C3 f (s i)=some (z (V3 go i k)):=by
  intro k
  induction k with
  | zero=>
   intro i hi;obtain rfl:i=n:=by omega
   rw [A3g,he];rfl
  | succ k ih=>
   intro i hi;rw [A3g,h i (by omega)];simp only [V3];cases go i with
   | true=>simp only [if_true];exact ih (i+1) (by omega)
   | false=>rfl
 exact key n 0 (by omega)
theorem C1k(L:Int×Unit->Option ((Int×Unit)⊕(Bool×Unit)))(n:Nat)(hn:n<=maxLen)(go:Nat->Bool)(hs:∀ i:Nat,i<n->L ((i:Int),())=bif go i then some (.inl (IntKind.i64.wrap ((i:Int)+1),())) else some (.inr (false,())))
  (he:L ((n:Int),())=some (.inr (true,()))):C3 L (0,())=some ((List.range n).all go,()):=by
 have h:=A6P L (fun i=>((i:Int),())) n (fun i=>(decide (i=n),())) go (fun i hi=>by
  rw [hs i hi,w64 (by omega) (by simp only [maxLen] at hn;omega)];cases go i with
  | true=>rfl
  | false=>simp only [Bool.false_eq_true,if_false,cond_false];rw [A4 (by omega)]) (by rw [he];simp)
 have h':C3 L (0,())=some (decide (V3 go 0 n=n),()):=h;rw [h'];have key:∀ k i,decide (V3 go i k=i+k)=((List.range k).all fun j=>go (i+j)):=by
  intro k
  induction k with
  | zero=>intro i;simp [V3]
  | succ k ih=>
   intro i;have e:((List.range (k+1)).all fun j=>go (i+j))=(go i&&(List.range k).all fun j=>go (i+1+j)):=by
    rw [List.range_succ_eq_map,List.all_cons,List.all_map];simp only [Nat.add_zero]
    congr 2
    funext j
    simp only [Function.comp]
    congr 1
    omega
   rw [e,<- ih (i+1)];by_cases hg:go i=true
   ·have e1:V3 go i (k+1)=V3 go (i+1) k:=by simp only [V3];rw [if_pos hg]
    rw [Bool.eq_iff_iff,hg];simp only [decide_eq_true_eq,Bool.true_and,e1];omega
   ·have e1:V3 go i (k+1)=i:=by simp only [V3];rw [if_neg hg]
    rw [Bool.eq_iff_iff];simp only [decide_eq_true_eq,Bool.and_eq_true,e1];constructor
    ·intro h;omega
    ·intro h;exact absurd h.1 hg
 have k0:=key n 0;simp only [Nat.zero_add] at k0;rw [k0]
abbrev T8:=X0×List Int×Int×Int
theorem P7(a b c:Int):E6 a b c=some (decide (b<=a/\a<=c),()):=by
 simp only [E6,D0v];by_cases h:b<=a<;>by_cases h2:a<=c<;>simp [h,h2]
theorem P3(a b c:Int):D3 a b c=some (decide (b<=a/\a<=c),()):=P7 a b c
def D6D(s:X0)(i:Nat):Bool:=decide (97<=bt s i/\bt s i<=122)||decide (48<=bt s i/\bt s i<=57)
def idB(s:X0):Bool:=(List.range s.size).all (D6D s)&&decide (1<=(s.size:Int)/\(s.size:Int)<=8)
theorem E0q(s:X0)(h:s.size<=maxLen)(i:Nat)(hi:i<s.size):B2q E6 s ((i:Int),())=if D6D s i then some (.inl (((i+1:Nat):Int),())) else some (.inr (.inr (false,()))):=by
 have h1:((i:Int)<(s.size:Int)):=by omega
 have h2:(0:Int)<=(i:Int):=by omega
 simp only [B2q,A0 h1,A0 h2,cond_true,E9u,P7,A3];rw [w64 (by omega) (by simp only [maxLen] at h;omega)];unfold D6D;cases decide (97<=bt s i/\bt s i<=122)<;>cases decide (48<=bt s i/\bt s i<=57)<;>simp
theorem E4O(s:X0)(h:s.size<=maxLen)(i:Nat)(hi:i<s.size):B5w s ((i:Int),())=if D6D s i then some (.inl (((i+1:Nat):Int),())) else some (.inr (.inr (false,()))):=by
 have h1:((i:Int)<(s.size:Int)):=by omega
 have h2:(0:Int)<=(i:Int):=by omega
 simp only [B5w,A0 h1,A0 h2,cond_true];rw [w64 (by omega) (by simp only [maxLen] at h;omega)];unfold D6D;by_cases a:bt s i>=97<;>by_cases b:bt s i<=122<;>by_cases c:bt s i>=48<;>by_cases d:bt s i<=57<;>simp [a,b,c,d]
theorem E9L{s:X0}{f:Int×Unit->Option ((Int×Unit)⊕(Unit⊕(Bool×Unit)))}(hs:∀ i:Nat,i<s.size->f ((i:Int),())=if D6D s i then some (.inl (((i+1:Nat):Int),())) else some (.inr (.inr (false,()))))
  (he:f ((s.size:Int),())=some (.inr (.inl ()))) (g:Unit->Option (Bool×Unit)) (hg:g ()=some (decide (1<=(s.size:Int)/\(s.size:Int)<=8),())):B8 (C3 f (0,())) g=some (idB s,()):=by
 obtain ⟨i,h1,h2,h3,h4⟩:=E0p f (fun i=>((i:Int),())) s.size (fun i=>if i<s.size then .inr (false,()) else .inl ()) (D6D s) (fun i hi=>by
  simp only [if_pos hi];exact hs i hi) (by simp only [Nat.lt_irrefl,if_false];exact he)
 have h4':C3 f (0,())=some (if i<s.size then .inr (false,()) else .inl ()):=h4;rw [h4'];unfold idB;by_cases hi:i<s.size
 ·rw [if_pos hi];have:(List.range s.size).all (D6D s)=false:=by
   rw [List.all_eq_false];exact ⟨i,List.mem_range.2 hi,by simp [h3 hi]⟩
  simp [B8,this]
 ·rw [if_neg hi];have:(List.range s.size).all (D6D s)=true:=by
   rw [List.all_eq_true];intro j hj;exact h2 j (by have:=List.mem_range.1 hj;omega)
  simp only [B8,this,hg,Bool.true_and]
theorem B20(s:X0)(h:s.size<=maxLen):R8 s=some (idB s,()):=by
 simp only [R8,C60];exact E9L (E0q s h) (by simp [B2q]) _ (by simp only [P7,A3])
theorem B6T(s:X0)(h:s.size<=maxLen):A0D s=some (idB s,()):=by
 simp only [A0D,D0s];exact E9L (E4O s h) (by simp [B5w]) _ (by simp only [P3,A3])
def G6(c:T8):Bool:=idB c.1&&decide ((c.2.1.length:Int)<=400)&&decide (1<=c.2.2.1/\c.2.2.1<=6)&&decide (0<=c.2.2.2/\c.2.2.2<=(c.2.1.length:Int))
theorem A1k(c:T8)(h:c.1.size<=maxLen):G3 c=some (G6 c,()):=by
 simp only [G3,B6F,B20 _ h,P7,A3,G6];cases idB c.1<;>cases decide ((c.2.1.length:Int)<=400)<;>cases decide (1<=c.2.2.1/\c.2.2.1<=6)<;>simp
theorem A9R(c:T8)(h:c.1.size<=maxLen):O5 c=some (G6 c,()):=by
 simp only [O5,B65,B6T _ h,P3,A3,G6];cases idB c.1<;>cases decide ((c.2.1.length:Int)<=400)<;>cases decide (1<=c.2.2.1/\c.2.2.1<=6)<;>simp
theorem B9D{R:Type}(a:Option R):eqO a a=a:=by
 unfold eqO;rw [if_pos rfl]
theorem A58(a:List Int)(h:a.length<=140737488355328):D0 a=some (a,()):=by
 simp only [D0,A1V];have e:(bif decide (([]:List Int).length+a.length<=9223372036854775807) then bif decide ((([]:List Int).length+a.length)*1<=140737488355328) then some (([]++a),()) else none else none)=some (a,()):=by
  rw [A0 (by simp;omega),A0 (by simp;omega)];simp
 rw [e];cases a with
 | nil=>simp [B9D]
 | cons x xs=>simp
def A59(c:T8):Bool:=decide (c.2.2.1=5)||decide (c.2.2.1=6)
theorem C3F(c:T8):A41 c=some (A59 c,()):=by
 simp only [A41,B96,A59];cases decide (c.2.2.1=5)<;>simp
theorem C67(c:T8):M7 c=some (A59 c,c,()):=by
 simp only [M7,A71,A59];cases decide (c.2.2.1=5)<;>simp
theorem C3G(c:T8)(h2:c.2.1.length<=140737488355328):O2 c=some (c,()):=by
 simp only [O2,B99];rw [A0 (by simp;omega),A0 (by simp;omega)];simp
theorem B3w(c:T8)(h2:c.2.1.length<=140737488355328):N9 c=some (c,()):=by
 simp only [N9,B1k,A58 _ h2,A3]
def D11(n:Int)(k j:Nat):Int:=IntKind.u8.wrap (n.fdiv (2 ^ (8*(k-1-j))))
def big(n:Int)(k:Nat):List Int:=(List.range k).map (D11 n k)
theorem M9(n:Int)(k:Nat):(big n k).length=k:=by simp [big]
theorem F1B{n:Int}(h0:0<=n)(h1:n<18446744073709551616):IntKind.u64.wrap n=n:=by
 simp only [IntKind.wrap,IntKind.bits,IntKind.signed];simp;omega
theorem E3J(v:Int)(b:List Int)(k:Nat)(hk:k<=8)(hb:b.length+8<=140737488355328):C3 (A2T (v,())) ((k:Int)-1,b,())=some (b++big v k,()):=by
 have key:=E0 (A2T (v,())) (fun j=>((k:Int)-1-(j:Int),b++(List.range j).map (D11 v k),())) k (b++big v k,()) (fun j hj=>?_) ?_
 ·simpa using key
 ·have h1:(k:Int)-1-(j:Int)>=0:=by omega
  have e1:(k:Int)-1-(j:Int)=((k-1-j:Nat):Int):=by omega
  have hs:IntKind.u64.wrap (IntKind.i64.wrap (8*((k:Int)-1-(j:Int))))=((8*(k-1-j):Nat):Int):=by
   rw [w64 (by omega) (by omega),F1B (by omega) (by omega)];omega
  have hm:min (8*(k-1-j)) IntKind.i64.bits=8*(k-1-j):=Nat.min_eq_left (by simp only [IntKind.bits];omega);simp only [A2T,A0 h1,cond_true,hs,Int.toNat_natCast,hm];rw [A4 (by omega)];simp only [cond_false];have hl:(b++(List.range j).map (D11 v k)).length=b.length+j:=by simp
  rw [A0 (by rw [hl];simp;omega),A0 (by rw [hl];simp;omega)];simp only [cond_true];rw [w64 (by omega) (by omega),List.range_succ,List.map_append,List.append_assoc];have e2:(k:Int)-1-(j:Int)-1=(k:Int)-1-((j+1:Nat):Int):=by omega
  rw [e2];rfl
 ·have h1:¬ ((k:Int)-1-(k:Int)>=0):=by omega
  simp only [A2T,A4 h1,cond_false];rfl
def A23(n:Int):Int:=if n<0 then 0 else n
theorem A46(b:List Int)(n:Int)(k:Nat)(h1:1<=k)(hk:k<=8)(hb:b.length+8<=140737488355328):B1s b n (k:Int)=some (b++big (A23 n) k,()):=by
 simp only [B1s,C34];rw [A0 (by simp;omega),A0 (by simp;omega)];have e:(bif decide (n<0) then some ((0:Int),()) else some (n,()))=some (A23 n,()):=by
  unfold A23;by_cases h:n<0<;>simp [h]
 simp only [cond_true,e,A3,P7];rw [A0 (by omega)];simp only [Bool.not_true,cond_false,List.nil_append];rw [w64 (by omega) (by omega)];exact E3J _ b k hk hb
theorem B38(b:List Int)(n:Int)(k:Nat)(hk:k<=8)(hb:b.length+8<=140737488355328):B1c b n (k:Int)=some (b++big (A23 n) k,()):=by
 simp only [B1c,C2q];have e:B60 n=A2T (A23 n,()):=by
  funext l
  have:(bif decide (0>n) then (0:Int) else n)=A23 n:=by
   unfold A23;by_cases h:n<0<;>simp [h]
  simp only [B60,A2T,this]
 rw [e,w64 (by omega) (by omega)];exact E3J _ b k hk hb
theorem C68{n:Nat}(h:n<9223372036854775808):IntKind.i64.wrap (n:Int)=(n:Int):=w64 (by omega) (by omega)
theorem E9v{n:Nat}(h:n<4294967296):IntKind.u32.wrap (n:Int)=(n:Int):=by
 simp only [IntKind.wrap,IntKind.bits,IntKind.signed];simp;omega
theorem bits_nat{w x:Nat}(h:x<2 ^ w):(BitVec.ofInt w (x:Int)).toNat=x:=by
 rw [BitVec.ofInt_natCast,BitVec.toNat_ofNat];exact Nat.mod_eq_of_lt h
theorem D12{x y:Nat}(hx:x<4294967296)(hy:y<4294967296):C8n .i64 (x:Int) (y:Int)=((x ^^^ y:Nat):Int):=by
 have h:x ^^^ y<2 ^ 32:=Nat.xor_lt_two_pow (by omega) (by omega);unfold C8n;rw [BitVec.toNat_xor,bits_nat (by simp only [IntKind.bits];omega),bits_nat (by simp only [IntKind.bits];omega)];exact C68 (by omega)
theorem D13{x y:Nat}(hx:x<4294967296)(hy:y<4294967296):C8n .u32 (x:Int) (y:Int)=((x ^^^ y:Nat):Int):=by
 have h:x ^^^ y<2 ^ 32:=Nat.xor_lt_two_pow (by omega) (by omega);unfold C8n;rw [BitVec.toNat_xor,bits_nat (by simp only [IntKind.bits];omega),bits_nat (by simp only [IntKind.bits];omega)];exact E9v (by omega)
theorem E6u{x y:Nat}(hx:x<4294967296)(hy:y<4294967296):C5t .i64 (x:Int) (y:Int)=((x &&& y:Nat):Int):=by
 have h:x &&& y<2 ^ 32:=Nat.and_lt_two_pow _ (by omega);unfold C5t;rw [BitVec.toNat_and,bits_nat (by simp only [IntKind.bits];omega),bits_nat (by simp only [IntKind.bits];omega)];exact C68 (by omega)
theorem E6v{x y:Nat}(hx:x<4294967296)(hy:y<4294967296):C5t .u32 (x:Int) (y:Int)=((x &&& y:Nat):Int):=by
 have h:x &&& y<2 ^ 32:=Nat.and_lt_two_pow _ (by omega);unfold C5t;rw [BitVec.toNat_and,bits_nat (by simp only [IntKind.bits];omega),bits_nat (by simp only [IntKind.bits];omega)];exact E9v (by omega)
def C4G(c:Nat):Nat:=if c &&& 1=1 then (c / 2) ^^^ 2197175160 else c / 2
def C69(c:Nat):Nat->Nat
 | 0=>c
 | i+1=>C4G (C69 c i)
theorem E0r{c:Nat}(h:c<4294967296):C4G c<4294967296:=by
 unfold C4G;split
 ·have:(c / 2) ^^^ 2197175160<2 ^ 32:=Nat.xor_lt_two_pow (by omega) (by omega);omega
 ·omega
theorem D01{c:Nat}(h:c<4294967296):∀ i,C69 c i<4294967296
 | 0=>h
 | i+1=>E0r (D01 h i)
theorem half(c:Nat):((c:Int)).fdiv 2=((c / 2:Nat):Int):=by
 rw [Int.fdiv_eq_ediv_of_nonneg _ (by omega)];omega
def A6o(a:List Int):Nat:=a.foldl (fun c x=>C69 (c ^^^ x.toNat) 8) 4294967295
theorem E8U(a:List Int)(ha:Byt a):∀ c,c<4294967296->a.foldl (fun c x=>C69 (c ^^^ x.toNat) 8) c<4294967296:=by
 induction a with
 | nil=>intro c h;exact h
 | cons x a ih=>
  intro c h;have hx:=ha x (by simp);refine ih (fun y hy=>ha y (by simp [hy])) _ (D01 ?_ 8);have:c ^^^ x.toNat<2 ^ 32:=Nat.xor_lt_two_pow (by omega) (by omega);omega
theorem A5A{a:List Int}(h:Byt a)(i:Nat):Byt (a.take i):=fun x hx=>h x (List.mem_of_mem_take hx)
theorem B16{a:List Int}(h:Byt a):A6o a<4294967296:=E8U a h _ (by omega)
theorem D58{a:List Int}{i:Nat}(hi:i<a.length):A6o (a.take (i+1))=C69 (A6o (a.take i) ^^^ a[i].toNat) 8:=by
 unfold A6o;rw [List.take_succ_eq_append_getElem hi,List.foldl_append];rfl
theorem E8V(l0:Int×Int×Unit)(c:Nat)(h:c<4294967296):C3 (C0t l0) ((c:Int),0,())=some (.inl ((C69 c 8:Int),IntKind.i64.wrap (l0.2.1+1),())):=by
 refine E0 (C0t l0) (fun i=>((C69 c i:Int),(i:Int),())) 8 _ (fun i hi=>?_) ?_
 ·have hl:=D01 h i;have h1:(i:Int)<8:=by omega
  simp only [C0t,A0 h1,cond_true,half];rw [show (1:Int)=((1:Nat):Int) from rfl,E6u hl (by omega),show (2197175160:Int)=((2197175160:Nat):Int) from rfl,D12 (by omega) (by omega)];rw [show ((i:Int)+((1:Nat):Int))=((i+1:Nat):Int) by omega,C68 (by omega)];simp only [C69,C4G];by_cases hb:C69 c i &&& 1=1
  ·rw [A0 (by rw [hb]),if_pos hb];rfl
  ·rw [A4 (by omega),if_neg hb];rfl
 ·rfl
theorem B9E(a:List Int)(ha:Byt a)(h:a.length<=maxLen):A4b a=some (((A6o a ^^^ 4294967295:Nat):Int),()):=by
 simp only [A4b,D6C];have key:=E0 (B4U a) (fun i=>((A6o (a.take i):Int),(i:Int),())) a.length ((A6o a:Int),()) (fun i hi=>?_) ?_
 ·have e:C3 (B4U a) (4294967295,0,())=some ((A6o a:Int),()):=key;rw [e];simp only [A3];rw [show (4294967295:Int)=((4294967295:Nat):Int) from rfl,D12 (B16 ha) (by omega)]
 ·have h1:((i:Int)<(a.length:Int)):=by omega
  have h2:(0:Int)<=(i:Int):=by omega
  have hx:=ha a[i] (List.getElem_mem hi);have hc:=B16 (A5A ha i);simp only [B4U,A0 h1,A0 h2,cond_true,D10 hi];have hxor:A6o (a.take i) ^^^ a[i].toNat<2 ^ 32:=Nat.xor_lt_two_pow (by omega) (by omega);rw [w64 (by omega) (by omega),show a[i]=((a[i].toNat:Nat):Int) by omega,D12 hc (by omega)];rw [E8V _ _ (by omega)];simp only;rw [show ((i:Int)+1)=((i+1:Nat):Int) by omega,C68 (by simp only [maxLen] at h;omega),D58 hi]
 ·simp [B4U]
theorem E8W(l0:Int×Int×Unit)(c:Nat)(h:c<4294967296):C3 (C0r l0) ((c:Int),0,())=some (.inl ((C69 c 8:Int),IntKind.i64.wrap (l0.2.1+1),())):=by
 refine E0 (C0r l0) (fun i=>((C69 c i:Int),(i:Int),())) 8 _ (fun i hi=>?_) ?_
 ·have hl:=D01 h i;have h1:(i:Int)<8:=by omega
  simp only [C0r,A0 h1,cond_true,half];rw [show (1:Int)=((1:Nat):Int) from rfl,E6v hl (by omega),show (2197175160:Int)=((2197175160:Nat):Int) from rfl,D13 (by omega) (by omega)];rw [show ((i:Int)+((1:Nat):Int))=((i+1:Nat):Int) by omega,C68 (by omega)];simp only [C69,C4G];by_cases hb:C69 c i &&& 1=1
  ·rw [A0 (by rw [hb]),if_pos hb];rfl
  ·rw [A4 (by omega),if_neg hb];rfl
 ·rfl
theorem D14(a:List Int)(ha:Byt a)(h:a.length<=maxLen):B0r a=some (((A6o a ^^^ 4294967295:Nat):Int),()):=by
 simp only [B0r,D6A];have key:=E0 (B4S a) (fun i=>((A6o (a.take i):Int),(i:Int),())) a.length ((A6o a:Int),()) (fun i hi=>?_) ?_
 ·have e:C3 (B4S a) (4294967295,0,())=some ((A6o a:Int),()):=key;rw [e];simp only [A3];have hm:IntKind.u32.max=((4294967295:Nat):Int):=rfl;have hxor:A6o a ^^^ 4294967295<2 ^ 32:=Nat.xor_lt_two_pow (by have:=B16 ha;omega) (by omega);rw [hm,D13 (by omega) (B16 ha),Nat.xor_comm,C68 (by omega)]
 ·have h1:((i:Int)<(a.length:Int)):=by omega
  have h2:(0:Int)<=(i:Int):=by omega
  have hx:=ha a[i] (List.getElem_mem hi);have hc:=B16 (A5A ha i);simp only [B4S,A0 h1,A0 h2,cond_true,D10 hi];have hxor:A6o (a.take i) ^^^ a[i].toNat<2 ^ 32:=Nat.xor_lt_two_pow (by omega) (by omega);rw [show a[i]=((a[i].toNat:Nat):Int) by omega,E9v (by omega),D13 hc (by omega)];rw [E8W _ _ (by omega)];simp only;rw [show ((i:Int)+1)=((i+1:Nat):Int) by omega,C68 (by simp only [maxLen] at h;omega),D58 hi]
 ·simp [B4S]
abbrev Req:=Int×X0×Int
def C7W:Req×List Int×Bool×Unit:=((0,⟨#[]⟩,0),[],false,())
def J6(c:T8):Req×List Int×Bool×Unit:=
 if G6 c=false then C7W
 else if c.2.2.1=1 then ((1,c.1,(c.2.1.length:Int)),[],true,())
 else if c.2.2.1=2 then ((2,c.1,0),[],true,())
 else if c.2.2.1=3 then ((3,c.1,c.2.2.2),(c.2.1.take (min (c.2.2.2.toNat+24) c.2.1.length)).drop c.2.2.2.toNat,true,())
 else if c.2.2.1=4 then ((4,c.1,((A6o c.2.1 ^^^ 4294967295:Nat):Int)),[],true,())
 else C7W
theorem E0s{c:T8}(h:G6 c=true):c.2.1.length<=400/\1<=c.2.2.1/\c.2.2.1<=6/\0<=c.2.2.2/\c.2.2.2<=(c.2.1.length:Int):=by
 simp only [G6,Bool.and_eq_true,decide_eq_true_eq] at h;omega
theorem B9F(c:T8):(J6 c).2.1.length<=c.2.1.length:=by
 unfold J6 C7W
 repeat' split
 all_goals simp
 omega
theorem D6E(c:T8)(h:c.1.size<=maxLen)(hb:Byt c.2.1):A9f c=some (J6 c):=by
 simp only [A9f,B91,A9R c h,C67,A3,J6];cases hk:G6 c with
 | false=>rfl
 | true=>
  obtain ⟨h1,h2,h3,h4,h5⟩:=E0s hk;simp only [Bool.not_true,cond_false,Bool.true_eq_false,if_false];cases ho:A59 c with
  | true=>
   simp only [A59,Bool.or_eq_true,decide_eq_true_eq] at ho;rw [if_neg (by omega),if_neg (by omega),if_neg (by omega),if_neg (by omega)];rfl
  | false=>
   simp only [A59,Bool.or_eq_false_iff,decide_eq_false_iff_not] at ho;simp only [cond_false,B8];by_cases e1:c.2.2.1=1
   ·rw [A0 e1,if_pos e1];rfl
   rw [A4 e1,if_neg e1];by_cases e2:c.2.2.1=2
   ·rw [A0 e2,if_pos e2];rfl
   rw [A4 e2,if_neg e2];by_cases e3:c.2.2.1=3
   ·rw [A0 e3,if_pos e3,w64 (by omega) (by omega)];simp only [cond_true,cond_false];have hm:(bif decide ((c.2.1.length:Int)<c.2.2.2+24) then (c.2.1.length:Int) else c.2.2.2+24)=((min (c.2.2.2.toNat+24) c.2.1.length:Nat):Int):=by
     by_cases hc:(c.2.1.length:Int)<c.2.2.2+24
     ·rw [A0 hc];simp only [cond_true];omega
     ·rw [A4 hc];simp only [cond_false];omega
    rw [hm,A0 h4,A0 (by omega),A0 (by omega),Int.toNat_natCast];simp only [cond_true];rw [A58 _ (by simp;omega)]
   rw [A4 e3,if_neg e3];have e4:c.2.2.1=4:=by omega
   rw [if_pos e4];simp only [cond_false];rw [D14 _ hb (by simp only [maxLen];omega)]
theorem C4H(c:T8)(h:c.1.size<=maxLen)(hb:Byt c.2.1):A9g c=some (J6 c):=by
 simp only [A9g,B93,A1k c h,A3,J6];cases hk:G6 c with
 | false=>rfl
 | true=>
  obtain ⟨h1,h2,h3,h4,h5⟩:=E0s hk;simp only [Bool.not_true,cond_false,Bool.true_eq_false,if_false];by_cases e1:c.2.2.1=1
  ·rw [A0 e1,if_pos e1];rfl
  rw [A4 e1,if_neg e1];by_cases e2:c.2.2.1=2
  ·rw [A0 e2,if_pos e2];rfl
  rw [A4 e2,if_neg e2];by_cases e3:c.2.2.1=3
  ·rw [A0 e3,if_pos e3,w64 (by omega) (by omega)];simp only [cond_true,cond_false];have hm:(bif decide (c.2.2.2+24>(c.2.1.length:Int)) then some ((c.2.1.length:Int),()) else some (c.2.2.2+24,()))=some (((min (c.2.2.2.toNat+24) c.2.1.length:Nat):Int),()):=by
    by_cases hc:c.2.2.2+24>(c.2.1.length:Int)
    ·rw [A0 hc];simp only [cond_true];congr 2;omega
    ·rw [A4 hc];simp only [cond_false];congr 2;omega
   rw [hm];simp only;rw [A0 h4,A0 (by omega),A0 (by omega),Int.toNat_natCast];simp only [cond_true];rw [A0 (by simp;omega),A0 (by simp;omega)];simp
  rw [A4 e3,if_neg e3];by_cases e4:c.2.2.1=4
  ·rw [A0 e4,if_pos e4];simp only [cond_true,cond_false];rw [B9E _ hb (by simp only [maxLen];omega)]
  ·rw [A4 e4,if_neg e4];rfl
abbrev D86:=Int×Int
def V9(r:D86):Bool:=decide (100<=r.1/\r.1<=599)&&decide (-1<=r.2/\r.2<=1000000000)
theorem A9m(r:D86):R4 r=some (V9 r,()):=by
 simp only [R4,C3A,P7,A3,V9];cases decide (100<=r.1/\r.1<=599)<;>simp
theorem B9G(r:D86):A0v r=some (V9 r,()):=by
 simp only [A0v,C2o,P3,A3,V9];cases decide (100<=r.1/\r.1<=599)<;>simp
def far(c:T8)(off:Int):T8:=if 0<=off/\off<=(c.2.1.length:Int) then (if off=(c.2.1.length:Int) then (c.1,c.2.1,4,off) else (c.1,c.2.1,3,off)) else (c.1,c.2.1,6,c.2.2.2)
theorem E4P(c:T8)(off:Int):B1u c off=some (far c off,()):=by
 simp only [B1u,C38,P7,A3,far];by_cases h:0<=off/\off<=(c.2.1.length:Int)
 ·rw [A0 h,if_pos h];by_cases h2:off=(c.2.1.length:Int)<;>simp [h2]
 ·rw [A4 h,if_neg h];rfl
theorem E4Q(c:T8)(off:Int):A1M c off=some (far c off,()):=by
 simp only [A1M,A75,P3,A3,far];by_cases h:0<=off/\off<=(c.2.1.length:Int)
 ·rw [A0 h,if_pos h];by_cases h2:off=(c.2.1.length:Int)<;>simp [h2]
 ·rw [A4 h,if_neg h];rfl
def A47(step status:Int):Int:=
 if status=507 then (if step=2 then 6 else step)
 else if status=404 then (if step=1 then 6 else 1)
 else if status=409 then (if step=3 then 0 else if step=2 then 6 else 2)
 else if status=201 then (if step=1 then 0 else 6)
 else if status=204 then (if step=3 then 0 else 6)
 else if status=200 then (if step=2 then 0 else if step=4 then 5 else 6)
 else 6
theorem E0t(a b:Int):A9h a b=some (A47 a b,()):=by
 simp only [A9h,B97,A47];by_cases h1:b=507
 ·by_cases h:a=2<;>simp [h1,h]
 by_cases h2:b=404
 ·by_cases h:a=1<;>simp [h2,h]
 by_cases h3:b=409
 ·by_cases h:a=3
  ·simp [h3,h]
  ·by_cases h':a=2<;>simp [h3,h,h']
 by_cases h4:b=201
 ·by_cases h:a=1<;>simp [h4,h]
 by_cases h5:b=204
 ·by_cases h:a=3<;>simp [h5,h]
 by_cases h6:b=200
 ·by_cases h:a=2
  ·simp [h6,h]
  ·by_cases h':a=4<;>simp [h6,h,h']
 simp [h1,h2,h3,h4,h5,h6]
def hear(c:T8)(r:D86):T8:=if A47 c.2.2.1 r.1=0 then far c r.2 else (c.1,c.2.1,A47 c.2.2.1 r.1,c.2.2.2)
theorem D15(c:T8)(r:D86):A9i c r=some (hear c r,()):=by
 simp only [A9i,B98,E0t,E4P,A3,hear];by_cases h:A47 c.2.2.1 r.1=0<;>simp [h]
theorem E4R(c:T8)(r:D86)(h:c.2.2.1=1\/c.2.2.1=2\/c.2.2.1=3\/c.2.2.1=4):A2p c r=some (hear c r,()):=by
 have hc:c=(c.1,c.2.1,c.2.2.1,c.2.2.2):=rfl;simp only [A2p,B0E,E4Q,hear,A47];by_cases h1:r.1=507
 ·rcases h with h | h | h | h<;>simp [h1,h,A3]
  all_goals (rw [<- h])
 by_cases h2:r.1=404
 ·rcases h with h | h | h | h<;>simp [h2,h,A3]
 by_cases h3:r.1=409
 ·rcases h with h | h | h | h<;>simp [h3,h,A3]
 by_cases h4:r.1=201
 ·rcases h with h | h | h | h<;>simp [h4,h,A3]
 by_cases h5:r.1=204
 ·rcases h with h | h | h | h<;>simp [h5,h,A3]
 by_cases h6:r.1=200
 ·rcases h with h | h | h | h<;>simp [h6,h,A3]
 rcases h with h | h | h | h<;>simp [h1,h2,h3,h4,h5,h6,h,A3]
def A24(c:T8)(r:D86):T8:=if G6 c&&V9 r&&!A59 c then hear c r else c
theorem D3g(c:T8)(r:D86)(h:c.1.size<=maxLen)(h2:c.2.1.length<=140737488355328):A76 c r=some (A24 c r,()):=by
 simp only [A76,B69,B3w _ h2,A9R _ h,B9G,C67,A3,A24];cases hk:G6 c with
 | false=>simp
 | true=>
  cases V9 r with
  | false=>simp
  | true=>
   cases ho:A59 c with
   | true=>simp
   | false=>
    obtain ⟨_,h4,h5,_,_⟩:=E0s hk;simp only [A59,Bool.or_eq_false_iff,decide_eq_false_iff_not] at ho;simp only [Bool.not_true,cond_false];rw [E4R c r (by omega)];simp
def E4S(us:List TUp)(id:X0):Nat:=V3 (fun i=>!((rd kUp us (i:Int)).1.toList == id.toList)) 0 us.length
def F1C:TUp×Bool×Unit:=((⟨#[]⟩,0,[],false),false,())
def F1D(st:A6)(id:X0):TUp×Bool×Unit:=if E4S st.2.2.2 id<st.2.2.2.length then (rd kUp st.2.2.2 (E4S st.2.2.2 id:Int),true,()) else F1C
theorem D87(us:List TUp)(id:X0)(h:us.length<=maxLen):U3 us id=some (if E4S us id<us.length then (E4S us id:Int) else -1,()):=by
 simp only [U3,C62];refine A6P (B2t us id) (fun i=>((i:Int),())) us.length (fun i=>(if i<us.length then (i:Int) else -1,())) (fun i=>!((rd kUp us (i:Int)).1.toList == id.toList)) (fun i hi=>?_) ?_
 ·have h1:((i:Int)<(us.length:Int)):=by omega
  have h2:(0:Int)<=(i:Int):=by omega
  simp only [B2t,A0 h1,A0 h2,cond_true,if_pos hi];rw [w64 (by omega) (by simp only [maxLen] at h;omega)];cases ((rd kUp us (i:Int)).1.toList == id.toList)<;>simp
 ·simp [B2t]
def E9w(w:A5)(i:Nat):TUp×Bool×Unit:=F1D w.1.1 (rd B3 w.2.1 (i:Int)).1
def beg(a b:List Int):Bool:=decide (a.length<=b.length)&&(List.range a.length).all fun i=>decide (rd (.int .u8) a (i:Int)=rd (.int .u8) b (i:Int))
theorem F00{x y:Int}(hx:0<=x/\x<256)(hy:0<=y/\y<256)(h:UInt8.ofNat x.toNat=UInt8.ofNat y.toNat):x=y:=by
 have:=congrArg UInt8.toNat h;simp only [UInt8.toNat_ofNat'] at this;omega
def F1E(w:A5):Prop:=(∀ u∈w.1.1.2.2.2,Byt u.2.2.1)/\∀ c∈w.2.1,Byt c.2.1
def be(w:A5)(i:Nat):Bool:=!(E9w w i).2.1||(beg (E9w w i).1.2.2.1 (rd B3 w.2.1 (i:Int)).2.1&&decide ((E9w w i).1.2.1=(List.length (rd B3 w.2.1 (i:Int)).2.1:Int)))
theorem E8a{L:Int×Unit->Option ((Int×Unit)⊕(Unit⊕(Bool×Unit)))}{n:Nat}{go:Nat->Bool}(hs:∀ i:Nat,i<n->L ((i:Int),())=bif go i then some (.inl (((i+1:Nat):Int),())) else some (.inr (.inr (false,()))))
  (he:L ((n:Int),())=some (.inr (.inl ()))) (g:Unit->Option (Bool×Unit)) (b:Bool) (hg:g ()=some (b,())):B8 (C3 L (0,())) g=some (decide (V3 go 0 n=n)&&b,()):=by
 have h:=A6P L (fun i=>((i:Int),())) n (fun i=>if i=n then .inl () else .inr (false,())) go (fun i hi=>by
  rw [hs i hi];cases go i with
  | true=>rfl
  | false=>simp only [Bool.false_eq_true,if_false,cond_false];rw [if_neg (by omega)]) (by rw [he,if_pos rfl])
 have h':C3 L (0,())=_:=h;rw [h'];by_cases hn:V3 go 0 n=n
 ·rw [if_pos hn,A0 hn];simp [B8,hg]
 ·rw [if_neg hn,A4 hn];simp [B8]
theorem E8b{x y:Nat}(hx:x<9223372036854775808)(hy:y<9223372036854775808):bOr .i64 (x:Int) (y:Int)=((x ||| y:Nat):Int):=by
 have h:x ||| y<2 ^ 63:=Nat.or_lt_two_pow (by omega) (by omega);unfold bOr;rw [BitVec.toNat_or,bits_nat (by simp only [IntKind.bits];omega),bits_nat (by simp only [IntKind.bits];omega)];exact C68 (by omega)
def A1D(b:List Int)(at_:Nat):Nat->Nat
 | 0=>0
 | j+1=>(A1D b at_ j*256) ||| (b.getD (at_+j) 0).toNat
theorem D88{b:List Int}(hb:Byt b)(i:Nat):0<=b.getD i 0/\b.getD i 0<256:=by
 by_cases h:i<b.length
 ·simp only [List.getD,List.getElem?_eq_getElem h,Option.getD_some];exact hb _ (List.getElem_mem h)
 ·simp only [List.getD,List.getElem?_eq_none (show b.length<=i by omega),Option.getD_none];omega
theorem D6F{b:List Int}(hb:Byt b)(at_:Nat):∀ j,A1D b at_ j<2 ^ (8*j)
 | 0=>by simp [A1D]
 | j+1=>by
  have h1:=D6F hb at_ j;have h2:=D88 hb (at_+j);have e:2 ^ (8*(j+1))=2 ^ (8*j)*256:=by rw [show 8*(j+1)=8*j+8 by omega,Nat.pow_add]
  refine Nat.or_lt_two_pow ?_ ?_
  ·rw [e];exact Nat.mul_lt_mul_of_pos_right h1 (by omega)
  ·have:1<=2 ^ (8*j):=Nat.one_le_two_pow;rw [e];omega
theorem D89{b:List Int}(hb:Byt b)(at_ j:Nat)(hj:j<7)(x:Int)(hx:x=b.getD (at_+j) 0):bOr .i64 (IntKind.i64.wrap (((A1D b at_ j:Nat):Int)*256)) (IntKind.i64.wrap x)=((A1D b at_ (j+1):Nat):Int):=by
 have h1:=D6F hb at_ j;have h2:=D88 hb (at_+j);have h3:2 ^ (8*j)<=2 ^ 48:=Nat.pow_le_pow_right (by omega) (by omega);subst hx;rw [show ((A1D b at_ j:Nat):Int)*256=((A1D b at_ j*256:Nat):Int) by omega,C68 (by omega),show b.getD (at_+j) 0=(((b.getD (at_+j) 0).toNat:Nat):Int) by omega,C68 (by omega),E8b (by omega) (by omega)];simp only [A1D,Int.toNat_natCast]
def A8s(b:List Int)(a:Int)(k:Nat):Int×Bool×Unit:=if 0<=a/\a<=(b.length:Int)-k then ((A1D b a.toNat k:Int),true,()) else (0,false,())
theorem D8A(b:List Int)(hb:Byt b)(h:b.length<=1048576)(a:Int)(k:Nat)(hk:1<=k/\k<=7):A8g b a (k:Int)=some (A8s b a k):=by
 simp only [A8g,C33,P7,A3,A8s];rw [A0 (show (1:Int)<=(k:Int)/\(k:Int)<=7 by omega),w64 (by omega) (by omega)];simp only [Bool.not_true,cond_false];by_cases h1:a<0
 ·rw [A0 h1,if_neg (by omega)];rfl
 rw [A4 h1];by_cases h2:a>(b.length:Int)-k
 ·rw [A0 h2,if_neg (by omega)];rfl
 rw [A4 h2,if_pos (by omega)];simp only [cond_false,B8];have key:=E0 (A7C (k:Int) a b) (fun j=>((A1D b a.toNat j:Int),(j:Int),())) k ((A1D b a.toNat k:Int),()) (fun j hj=>?_) ?_
 ·have e:C3 (A7C (k:Int) a b) (0,0,())=_:=key;rw [e]
 ·have g1:(j:Int)<(k:Int):=by omega
  simp only [A7C,A0 g1,cond_true];rw [w64 (n:=a+(j:Int)) (by omega) (by omega)];have g2:0<=a+(j:Int):=by omega
  have g3:a+(j:Int)<(b.length:Int):=by omega
  rw [A0 g2,A0 g3];simp only [cond_true];rw [D89 hb a.toNat j (by omega) _ (by
   rw [show a+(j:Int)=((a.toNat+j:Nat):Int) by omega,D10 (by omega)];simp [List.getD,show a.toNat+j<b.length by omega]),show (j:Int)+1=((j+1:Nat):Int) by omega,C68 (by omega)]
 ·simp [A7C]
theorem B9H(b:List Int)(hb:Byt b)(h:b.length<=1048576)(a:Int)(k:Nat)(hk:1<=k/\k<=7):B1b b a (k:Int)=some (A8s b a k):=by
 simp only [B1b,C2p,P3,A3,A8s];rw [A0 (show (1:Int)<=(k:Int)/\(k:Int)<=7 by omega),w64 (n:=(b.length:Int)-(k:Int)) (by omega) (by omega)];simp only [Bool.not_true,cond_false];by_cases h1:a<0
 ·rw [A0 h1,if_neg (by omega)];rfl
 rw [A4 h1];by_cases h2:a>(b.length:Int)-k
 ·rw [A0 h2,if_neg (by omega)];rfl
 rw [A4 h2,if_pos (by omega)];simp only [cond_false,B8];rw [w64 (n:=a+(k:Int)) (by omega) (by omega),A0 (show 0<=a by omega),A0 (show a<=a+(k:Int) by omega),A0 (show a+(k:Int)<=(b.length:Int) by omega)];simp only [cond_true];have hlen:((b.take (a+(k:Int)).toNat).drop a.toNat).length=k:=by simp;omega
 have key:=E0 (A6u b a (k:Int)) (fun j=>((A1D b a.toNat j:Int),(j:Int),())) k ((A1D b a.toNat k:Int),()) (fun j hj=>?_) ?_
 ·have e:C3 (A6u b a (k:Int)) (0,0,())=_:=key;rw [e]
 ·have g1:(j:Int)<(k:Int):=by omega
  have g2:(0:Int)<=(j:Int):=by omega
  simp only [A6u];rw [w64 (n:=a+(k:Int)) (by omega) (by omega)];simp only [hlen,A0 g1,A0 g2,cond_true];rw [D89 hb a.toNat j (by omega) _ (by
   rw [D10 (by rw [hlen];exact hj)];simp [List.getD,show a.toNat+j<b.length by omega]),show (j:Int)+1=((j+1:Nat):Int) by omega,C68 (by omega)]
 ·simp only [A6u];rw [w64 (n:=a+(k:Int)) (by omega) (by omega)];simp [hlen]
theorem E4T{α β:Type}{f:α->Option (α⊕β)}{x:α}{z:β}(h:f x=some (.inr z)):C3 f x=some z:=by rw [A3g,h]
theorem B6U(xs:List Int):(strOf xs).size=xs.length:=strOfNums_size xs
theorem D8B(x:Int):0<=C5t .i64 x 255/\C5t .i64 x 255<=255:=by
 unfold C5t;have h:(BitVec.ofInt IntKind.i64.bits x &&& BitVec.ofInt IntKind.i64.bits 255).toNat<=255:=by
  rw [BitVec.toNat_and];have:(BitVec.ofInt IntKind.i64.bits (255:Int)).toNat=255:=bits_nat (w:=64) (x:=255) (by omega);rw [this];exact Nat.and_le_right
 rw [C68 (by omega)];omega
def Cur(c:B6):Prop:=List.length c.1<=1048576/\0<=c.2.1/\c.2.1<=1048576
theorem B4W(c:B6)(h:Cur c):∃ r c',A3u c=some (r,c',())/\Cur c'/\0<=r/\r<=255:=by
 obtain ⟨h1,h2,h3⟩:=h;simp only [A3u,C31];by_cases hi:c.2.1<(List.length c.1:Int)
 ·simp only [A0 hi,A0 h2,cond_true];refine ⟨_,_,rfl,⟨h1,?_,?_⟩,D8B _⟩
  ·simp only;rw [w64 (by omega) (by omega)];omega
  ·simp only;rw [w64 (by omega) (by omega)];omega
 ·simp only [A4 hi,cond_false];exact ⟨_,_,rfl,⟨h1,h2,h3⟩,D8B _⟩
theorem G8(c:B6)(n:Int)(h:Cur c)(hn:0<n/\n<9223372036854775808):∃ r c',C0 c n=some (r,c',())/\Cur c'/\0<=r/\r<n:=by
 simp only [C0,B2p];rw [A4 (show ¬ n<=0 by omega)];have hz:(n == 0)=false:=by simp;omega
 simp only [cond_false,hz];by_cases h1:n<=256
 ·rw [A0 h1];obtain ⟨r,c',e,hc,hr⟩:=B4W c h;simp only [cond_true,e,A3];refine ⟨_,_,rfl,hc,?_⟩;rw [Int.tmod_eq_emod_of_nonneg hr.1];exact ⟨Int.emod_nonneg _ (by omega),Int.emod_lt_of_pos _ (by omega)⟩
 ·rw [A4 h1];obtain ⟨r1,c1,e1,hc1,hr1⟩:=B4W c h;obtain ⟨r2,c2,e2,hc2,hr2⟩:=B4W c1 hc1;obtain ⟨r3,c3,e3,hc3,hr3⟩:=B4W c2 hc2;simp only [cond_false,e1,e2,e3,A3];refine ⟨_,_,rfl,hc3,?_⟩;rw [w64 (n:=r1*65536) (by omega) (by omega),w64 (n:=r2*256) (by omega) (by omega),w64 (n:=r1*65536+r2*256) (by omega) (by omega),w64 (n:=r1*65536+r2*256+r3) (by omega) (by omega)];rw [Int.tmod_eq_emod_of_nonneg (by omega)];exact ⟨Int.emod_nonneg _ (by omega),Int.emod_lt_of_pos _ (by omega)⟩
theorem B9I(c:B6)(xs:List X0)(h:Cur c)(hx:0<xs.length/\xs.length<=1048576):∃ s c',A20 c xs=some (s,c',())/\Cur c'/\s∈xs:=by
 obtain ⟨r,c',e,hc,h0,h1⟩:=G8 c (xs.length:Int) h (by omega);simp only [A20,C65,e,A3,A0 h0,A0 h1,cond_true];refine ⟨_,_,rfl,hc,?_⟩;obtain ⟨n,rfl⟩:∃ n:Nat,r=(n:Int):=⟨r.toNat,by omega⟩;rw [A7Q (by omega)];exact List.getElem_mem _
theorem Q4(c:B6)(xs:List Int)(h:Cur c)(hx:0<xs.length/\xs.length<=1048576):∃ s c',G5 c xs=some (s,c',())/\Cur c'/\s∈xs:=by
 obtain ⟨r,c',e,hc,h0,h1⟩:=G8 c (xs.length:Int) h (by omega);simp only [G5,C63,e,A3,A0 h0,A0 h1,cond_true];refine ⟨_,_,rfl,hc,?_⟩;obtain ⟨n,rfl⟩:∃ n:Nat,r=(n:Int):=⟨r.toNat,by omega⟩;rw [D10 (by omega)];exact List.getElem_mem _
theorem wrap_u8(x:Int):0<=IntKind.u8.wrap x/\IntKind.u8.wrap x<256:=by
 simp only [IntKind.wrap,IntKind.bits,IntKind.signed];simp;omega
theorem B6V(c:B6)(n:Int)(h:Cur c)(hn:0<=n/\n<=1048576):∃ b c',H0 c n=some (b,c',())/\Cur c'/\(List.length b:Int)=n/\Byt b:=by
 simp only [H0,A8p];obtain ⟨z,e,hz⟩:=P0 (A66 A3u n) (fun l=>(n-l.1).toNat) (fun l=>0<=l.1/\l.1<=n/\Cur (l.2.1,l.2.2.1,l.2.2.2.1)/\(List.length l.2.2.2.2.1:Int)=l.1/\Byt l.2.2.2.2.1)
  (fun z=>Cur z.2.1/\(List.length z.1:Int)=n/\Byt z.1) (fun l hl=>by
   obtain ⟨h0,h1,hc,hlen,hb⟩:=hl;simp only [A66];by_cases hi:l.1<n
   ·obtain ⟨r,c',e,hc',hr⟩:=B4W _ hc;refine .inl ⟨(l.1+1,c'.1,c'.2.1,c'.2.2,l.2.2.2.2.1 ++ [IntKind.u8.wrap r],()),?_,⟨by simp only;omega,by simp only;omega,hc',by simp;omega,?_⟩,by simp only;omega⟩
    ·rw [A0 hi,e];simp only [cond_true,A3];rw [A0 (by simp;omega),A0 (by simp;omega),w64 (by omega) (by omega)];rfl
    ·intro x hx;rcases List.mem_append.1 hx with hx | hx
     ·exact hb x hx
     ·rw [List.mem_singleton.1 hx];exact wrap_u8 _
   ·rw [A4 hi];exact .inr ⟨_,rfl,hc,by simp only;omega,hb⟩) (0,c.1,c.2.1,c.2.2,[],()) ⟨by simp,hn.1,h,by simp,fun x hx=>by cases hx⟩
 exact ⟨z.1,z.2.1,e,hz⟩
theorem E6w(a:List Int)(h:a.length<=1048576):∃ c,B4T a=some (c,())/\Cur c:=by
 simp only [B4T,C5w];obtain ⟨z,e,_⟩:=P0 (B92 a) (fun l=>((a.length:Int)-l.2.1).toNat) (fun l=>0<=l.2.1) (fun _=>True) (fun l hl=>by
  simp only [B92];by_cases hi:l.2.1<(a.length:Int)
  ·by_cases h4:l.2.1<4000
   ·rw [A0 hi,A0 h4];simp only [cond_true,B8];rw [A0 hl,w64 (n:=l.2.1+1) (by omega) (by omega)];exact .inl ⟨_,rfl,by simp only;omega,by simp only;omega⟩
   ·rw [A0 hi,A4 h4];exact .inr ⟨_,rfl,trivial⟩
  ·rw [A4 hi];exact .inr ⟨_,rfl,trivial⟩) (IntKind.i64.wrap (369369+(a.length:Int)),0,()) (by simp)
 rw [e];exact ⟨_,rfl,h,by simp,by simp⟩
def V4(r:I2):Bool:=
 decide (0<=r.1/\r.1<=10000)&&decide (0<=r.2.1/\r.2.1<=199)&&idB r.2.2.2.1 &&
 (if r.2.2.1=1 then decide (0<=r.2.2.2.2.1/\r.2.2.2.2.1<=1000000000)&&decide ((List.length r.2.2.2.2.2:Int)=0)
  else if r.2.2.1=2 then decide (0<=r.2.2.2.2.1/\r.2.2.2.2.1<=1000000000)&&decide (1<=(List.length r.2.2.2.2.2:Int)/\(List.length r.2.2.2.2.2:Int)<=24)
  else if r.2.2.1=3\/r.2.2.1=4 then decide (r.2.2.2.2.1=0)&&decide ((List.length r.2.2.2.2.2:Int)=0) else false)
theorem E0u(r:I2)(h:r.2.2.2.1.size<=maxLen):B4V r=some (V4 r,()):=by
 simp only [B4V,C61,B20 _ h,P7,A3,V4];cases decide (0<=r.1/\r.1<=10000)
 ·rfl
 cases decide (0<=r.2.1/\r.2.1<=199)
 ·rfl
 cases idB r.2.2.2.1
 ·rfl
 simp only [Bool.not_true,cond_false,B8,Bool.true_and];by_cases h1:r.2.2.1=1
 ·rw [A0 h1,if_pos h1];cases decide (0<=r.2.2.2.2.1/\r.2.2.2.2.1<=1000000000)<;>rfl
 rw [A4 h1,if_neg h1];by_cases h2:r.2.2.1=2
 ·rw [A0 h2,if_pos h2];cases decide (0<=r.2.2.2.2.1/\r.2.2.2.2.1<=1000000000)<;>rfl
 rw [A4 h2,if_neg h2];by_cases h3:r.2.2.1=3
 ·rw [A0 h3,if_pos (.inl h3)];cases decide (r.2.2.2.2.1=0)<;>rfl
 rw [A4 h3];by_cases h4:r.2.2.1=4
 ·rw [A0 h4,if_pos (.inr h4)];cases decide (r.2.2.2.2.1=0)<;>rfl
 rw [A4 h4,if_neg (by omega)];rfl
theorem D16(r:I2)(h:r.2.2.2.1.size<=maxLen):A8U r=some (V4 r,()):=by
 simp only [A8U,C5u,A3j,B2k,B6T _ h,P3,A3,V4];cases decide (0<=r.1/\r.1<=10000)
 ·rfl
 cases decide (0<=r.2.1/\r.2.1<=199)
 ·rfl
 by_cases hk:1<=r.2.2.1/\r.2.2.1<=4
 ·rw [A0 hk];cases idB r.2.2.2.1
  ·rfl
  simp only [Bool.not_true,cond_false,B8,Bool.true_and];by_cases h1:r.2.2.1=1
  ·rw [A0 h1,if_pos h1];cases decide (0<=r.2.2.2.2.1/\r.2.2.2.2.1<=1000000000)<;>rfl
  rw [A4 h1,if_neg h1];by_cases h2:r.2.2.1=2
  ·rw [A0 h2,if_pos h2];cases decide (0<=r.2.2.2.2.1/\r.2.2.2.2.1<=1000000000)<;>rfl
  rw [A4 h2,if_neg h2,if_pos (by omega)];cases decide (r.2.2.2.2.1=0)<;>rfl
 ·rw [A4 hk,if_neg (by omega),if_neg (by omega),if_neg (by omega)];cases idB r.2.2.2.1<;>rfl
theorem A25{r:I2}(h:V4 r=true):0<=r.1/\r.1<=10000/\1<=r.2.2.1/\r.2.2.1<=4/\r.2.2.2.1.size<=8/\0<=r.2.2.2.2.1/\r.2.2.2.2.1<=1000000000/\List.length r.2.2.2.2.2<=24:=by
 simp only [V4,idB,Bool.and_eq_true,decide_eq_true_eq] at h;obtain ⟨⟨⟨h1,h2⟩,h3,h4⟩,h5⟩:=h;split at h5
 ·simp only [Bool.and_eq_true,decide_eq_true_eq] at h5;omega
 ·split at h5
  ·simp only [Bool.and_eq_true,decide_eq_true_eq] at h5;omega
  ·split at h5
   ·simp only [Bool.and_eq_true,decide_eq_true_eq] at h5;omega
   ·cases h5
theorem D02{a b:List Int}(ha:Byt a)(hb:Byt b):Byt (a++b):=fun x hx=>(List.mem_append.1 hx).elim (ha x) (hb x)
theorem E3K(n:Int)(k:Nat):Byt (big n k):=by
 intro x hx;obtain ⟨j,_,rfl⟩:=List.mem_map.1 hx;exact wrap_u8 _
theorem B39(s:X0):Byt (bytesOf s):=by
 intro x hx;obtain ⟨b,_,rfl⟩:=List.mem_map.1 hx;have:=b.toNat_lt;omega
theorem T9:Byt []:=fun x hx=>by cases hx
theorem A9n{a:List Int}(h:Byt a)(i:Nat):Byt (a.drop i):=fun x hx=>h x (List.mem_of_mem_drop hx)
def B8D(r:I2):List Int:=
 big (A23 r.1) 3++big (A23 r.2.1) 2++big (A23 r.2.2.1) 1++big (A23 (r.2.2.2.1.size:Int)) 1++bytesOf r.2.2.2.1++big (A23 r.2.2.2.2.1) 4++big (A23 (List.length r.2.2.2.2.2:Int)) 1++r.2.2.2.2.2
def F01(b:List Int):Int:=((A6o b ^^^ 4294967295:Nat):Int)
def A0l(r:I2):X0:=strOf (B8D r++big (A23 (F01 (B8D r))) 4)
theorem B9J(r:I2):(B8D r).length=12+r.2.2.2.1.size+List.length r.2.2.2.2.2:=by
 simp only [B8D,List.length_append,M9,bytesOf_length];omega
theorem D17(r:I2)(h:Byt r.2.2.2.2.2):Byt (B8D r):=by
 unfold B8D
 repeat' first | apply D02 | apply E3K | apply B39 | exact h
theorem C7a(r:I2)(h1:r.2.2.2.1.size<=10000000)(h2:List.length r.2.2.2.2.2<=10000000)(hb:Byt r.2.2.2.2.2):A61 r=some (A0l r,()):=by
 have hlen:=B9J r;simp only [A61,C35];rw [show (3:Int)=((3:Nat):Int) from rfl,A46 [] _ 3 (by omega) (by omega) (by simp)];simp only [A3,List.nil_append];rw [show (2:Int)=((2:Nat):Int) from rfl,A46 _ _ 2 (by omega) (by omega) (by simp [M9])];simp only;rw [show (1:Int)=((1:Nat):Int) from rfl,A46 _ _ 1 (by omega) (by omega) (by simp [M9])];simp only;rw [A46 _ _ 1 (by omega) (by omega) (by simp [M9])];simp only;rw [A0 (by simp [M9];omega)];simp only [cond_true];rw [show (4:Int)=((4:Nat):Int) from rfl,A46 _ _ 4 (by omega) (by omega) (by simp [M9,bytesOf_length];omega)];simp only;rw [A46 _ _ 1 (by omega) (by omega) (by simp [M9,bytesOf_length];omega)];simp only;rw [A0 (by simp [M9,bytesOf_length];omega),A0 (by simp [M9,bytesOf_length];omega)];simp only [cond_true];have e:big (A23 r.1) 3++big (A23 r.2.1) 2++big (A23 r.2.2.1) 1++big (A23 (r.2.2.2.1.size:Int)) 1++bytesOf r.2.2.2.1++big (A23 r.2.2.2.2.1) 4++big (A23 (List.length r.2.2.2.2.2:Int)) 1++r.2.2.2.2.2=B8D r:=rfl;rw [e,B9E _ (D17 r hb) (by rw [hlen];simp only [maxLen];omega)];simp only;rw [A46 _ _ 4 (by omega) (by omega) (by rw [hlen];omega)];rfl
theorem D6G(n:Int):big n 1 = [IntKind.u8.wrap n]:=by
 simp [big,D11]
theorem A7R{n:Int}(h:0<=n):A23 n=n:=by unfold A23;rw [if_neg (by omega)]
theorem C7b(r:I2)(h1:r.2.2.2.1.size<=maxLen)(hb:Byt r.2.2.2.2.2):A5u r=some (if V4 r then A0l r else ⟨#[]⟩,()):=by
 simp only [A5u,C2r,D16 r h1];cases hr:V4 r with
 | false=>rfl
 | true=>
  have hbd:=A25 hr;have hlen:=B9J r;simp only [A3,Bool.not_true,cond_false];rw [show (3:Int)=((3:Nat):Int) from rfl,B38 [] _ 3 (by omega) (by simp)];simp only [List.nil_append];rw [show (2:Int)=((2:Nat):Int) from rfl,B38 _ _ 2 (by omega) (by simp [M9])];simp only;rw [A0 (by simp [M9]),A0 (by simp [M9])];simp only [cond_true];rw [A0 (by simp [M9];omega)];simp only [cond_true];rw [show (4:Int)=((4:Nat):Int) from rfl,B38 _ _ 4 (by omega) (by simp [M9,bytesOf_length];omega)];simp only;rw [A0 (by simp [M9,bytesOf_length];omega),A0 (by simp [M9,bytesOf_length];omega)];simp only [cond_true];rw [A0 (by simp [M9,bytesOf_length];omega),A0 (by simp [M9,bytesOf_length];omega)];simp only [cond_true];have e:big (A23 r.1) 3++big (A23 r.2.1) 2 ++ [IntKind.u8.wrap r.2.2.1,IntKind.u8.wrap (r.2.2.2.1.size:Int)]++bytesOf r.2.2.2.1++big (A23 r.2.2.2.2.1) 4 ++ [IntKind.u8.wrap (List.length r.2.2.2.2.2:Int)]++r.2.2.2.2.2=B8D r:=by
   unfold B8D;rw [D6G,D6G,D6G,A7R (n:=r.2.2.1) (by omega),A7R (n:=(r.2.2.2.1.size:Int)) (by omega),A7R (n:=(List.length r.2.2.2.2.2:Int)) (by omega)];simp [List.append_assoc]
  rw [e,D14 _ (D17 r hb) (by rw [hlen];simp only [maxLen];omega)];simp only;rw [B38 _ _ 4 (by omega) (by rw [hlen];omega)];rfl
def E2(b:List Int):Nat:=A1D b 6 1
def U0(b:List Int):Nat:=A1D b (11+E2 b) 1
def recAt(b:List Int):I2:=((A1D b 0 3:Int),(A1D b 3 2:Int),(A1D b 5 1:Int),strOf ((b.take (7+E2 b)).drop 7),(A1D b (7+E2 b) 4:Int),(b.take (12+E2 b+U0 b)).drop (12+E2 b))
def E3L:I2×Bool×Unit:=((0,0,0,⟨#[]⟩,0,[]),false,())
def B3A(s:X0):Bool:=decide (12+E2 (bytesOf s)+U0 (bytesOf s)<=s.size)&&V4 (recAt (bytesOf s))&&((A0l (recAt (bytesOf s))).toList == s.toList)
def D9(s:X0):I2×Bool×Unit:=if B3A s=true then (recAt (bytesOf s),true,()) else E3L
theorem A8t(b:List Int)(a k:Nat)(h:a+k<=b.length):A8s b (a:Int) k=((A1D b a k:Int),true,()):=by
 unfold A8s;rw [if_pos (by omega),Int.toNat_natCast]
theorem C6A(b:List Int)(a k:Nat)(h:¬ a+k<=b.length):A8s b (a:Int) k=(0,false,()):=by
 unfold A8s;rw [if_neg (by omega)]
theorem D03{b:List Int}(hb:Byt b)(a:Nat):A1D b a 1<256:=by
 have:=D6F hb a 1;omega
theorem D59(b:List Int)(h:12+E2 b+U0 b<=b.length):(recAt b).2.2.2.1.size=E2 b/\List.length (recAt b).2.2.2.2.2=U0 b:=by
 simp only [recAt,B6U,List.length_drop,List.length_take];omega
theorem C6B{b:List Int}(hb:Byt b):Byt (recAt b).2.2.2.2.2:=A9n (A5A hb _) _
theorem A9o(s:X0)(hs:s.size<=1048576):M4 s=some (D9 s):=by
 have hbl:=bytesOf_length s;have hb:=B39 s;have hh:(bytesOf s).length<=1048576:=by omega
 have hsz:s.size=(bytesOf s).length:=hbl.symm;simp only [D9,B3A,hsz];have hlen:decide ((bytesOf s).length<=9223372036854775807)=true:=A0 (by omega);simp only [M4,C36,hsz,hlen,cond_true]
 clear hlen hsz
 generalize bytesOf s=b at hb hh ⊢
 clear hbl
 have g0:∀ (a:Int) (k:Nat) (k':Int),k' = (k:Int)->1<=k/\k<=7->A8g b a k' = some (A8s b a k):=fun a k k' e hk=>by rw [e];exact D8A b hb hh a k hk
 have q0:=g0 0 3 3 rfl (by omega);have q3:=g0 3 2 2 rfl (by omega);have q5:=g0 5 1 1 rfl (by omega);have q6:=g0 6 1 1 rfl (by omega);simp only [q0,q3,q5,q6];by_cases c1:7<=b.length
 ·have e0:=A8t b 0 3 (by omega);have e3:=A8t b 3 2 (by omega);have e5:=A8t b 5 1 (by omega);have e6:=A8t b 6 1 (by omega);simp only [Int.cast_ofNat_Int] at e0 e3 e5 e6;have hn:=D03 hb 6;have hN:(A1D b 6 1:Int)=((E2 b:Nat):Int):=rfl;have hn':E2 b<256:=hn;simp only [e0,e3,e5,e6,A3,Bool.not_true,cond_false,hN];rw [w64 (n:=7+(E2 b:Int)) (by omega) (by omega),w64 (n:=11+(E2 b:Int)) (by omega) (by omega),w64 (n:=12+(E2 b:Int)) (by omega) (by omega)];by_cases c2:7+E2 b<=b.length
  ·rw [A4 (show ¬ 7+(E2 b:Int)>(b.length:Int) by omega)];simp only [cond_false,B8];rw [A0 (show 7<=7+(E2 b:Int) by omega),A0 (show 7+(E2 b:Int)<=(b.length:Int) by omega)];simp only [cond_true];have q7:=g0 (7+(E2 b:Int)) 4 4 rfl (by omega);have q11:=g0 (11+(E2 b:Int)) 1 1 rfl (by omega);simp only [q7,q11];by_cases c3:12+E2 b<=b.length
   ·have e7:=A8t b (7+E2 b) 4 (by omega);have e11:=A8t b (11+E2 b) 1 (by omega);simp only [Int.natCast_add,Int.cast_ofNat_Int] at e7 e11;have hm:U0 b<256:=D03 hb _;have hM:(A1D b (11+E2 b) 1:Int)=((U0 b:Nat):Int):=rfl;simp only [e7,e11,Bool.not_true,cond_false,hM];rw [w64 (n:=12+(E2 b:Int)+(U0 b:Int)) (by omega) (by omega)];by_cases c4:12+E2 b+U0 b<=b.length
    ·rw [A4 (show ¬ 12+(E2 b:Int)+(U0 b:Int)>(b.length:Int) by omega),A0 (show 0<=12+(E2 b:Int) by omega),A0 (show 12+(E2 b:Int)<=12+(E2 b:Int)+(U0 b:Int) by omega),A0 (show 12+(E2 b:Int)+(U0 b:Int)<=(b.length:Int) by omega)];simp only [cond_true,cond_false];rw [A0 (by simp;omega),A0 (by simp;omega)];have t1:(7+(E2 b:Int)).toNat=7+E2 b:=by omega
     have t2:(12+(E2 b:Int)+(U0 b:Int)).toNat=12+E2 b+U0 b:=by omega
     have t3:(12+(E2 b:Int)).toNat=12+E2 b:=by omega
     simp only [cond_true,List.nil_append,t1,t2,t3];have hr:(((A1D b 0 3:Nat):Int),((A1D b 3 2:Nat):Int),((A1D b 5 1:Nat):Int),strOf ((b.take (7+E2 b)).drop 7),((A1D b (7+E2 b) 4:Nat):Int),(b.take (12+E2 b+U0 b)).drop (12+E2 b))=recAt b:=rfl;obtain ⟨l1,l2⟩:=D59 b c4;rw [hr,E0u _ (by rw [l1];simp only [maxLen];omega),C7a _ (by rw [l1];omega) (by rw [l2];omega) (C6B hb)];rw [A0 c4];simp only [Bool.true_and];cases V4 (recAt b)
     ·rfl
     ·cases hp:((A0l (recAt b)).toList == s.toList)
      ·rfl
      ·rfl
    ·rw [A0 (show 12+(E2 b:Int)+(U0 b:Int)>(b.length:Int) by omega),A4 c4];rfl
   ·have e11:=C6A b (11+E2 b) 1 (by omega);simp only [Int.natCast_add,Int.cast_ofNat_Int] at e11;simp only [e11];rw [A4 (show ¬ 12+E2 b+U0 b<=b.length by omega)];cases (A8s b (7+(E2 b:Int)) 4).2.1<;>rfl
  ·rw [A0 (show 7+(E2 b:Int)>(b.length:Int) by omega),A4 (show ¬ 12+E2 b+U0 b<=b.length by omega)];rfl
 ·have e6:=C6A b 6 1 (by omega);simp only [Int.cast_ofNat_Int] at e6;rw [A4 (show ¬ 12+E2 b+U0 b<=b.length by omega)];simp only [e6,A3];cases (A8s b 0 3).2.1<;>cases (A8s b 3 2).2.1<;>cases (A8s b 5 1).2.1<;>rfl
theorem A2t{b:List Int}(hb:Byt b)(hh:b.length<=1048576)(a k:Nat)(k':Int)(e:k' = (k:Int))(hk:1<=k/\k<=7)(h:a+k<=b.length):E1 (b,(a:Int),false) k' = some ((A1D b a k:Int),(b,((a+k:Nat):Int),false),()):=by
 subst e;simp only [E1,W4,B9H b hb hh _ k hk,A8t b a k h,A3,B8,Bool.not_true,cond_false];rw [w64 (by omega) (by omega)];rfl
theorem B1J{b:List Int}(hb:Byt b)(hh:b.length<=1048576)(a k:Nat)(k':Int)(e:k' = (k:Int))(hk:1<=k/\k<=7)(h:¬ a+k<=b.length):E1 (b,(a:Int),false) k' = some (0,(b,(a:Int),true),()):=by
 subst e;simp only [E1,W4,B9H b hb hh _ k hk,C6A b a k h,A3,B8,Bool.not_false,cond_false,cond_true]
theorem E8c{b:List Int}(hb:Byt b)(hh:b.length<=1048576)(a:Int)(k:Nat)(k':Int)(e:k' = (k:Int))(hk:1<=k/\k<=7):E1 (b,a,true) k' = some (0,(b,a,true),()):=by
 subst e;simp only [E1,W4,B9H b hb hh _ k hk,A3,B8,cond_true]
theorem E70(b:List Int)(a n:Int):J4 (b,a,true) n=some ([],(b,a,true),()):=by
 simp only [J4,A0b,cond_true,B8]
theorem C6C{b:List Int}(hh:b.length<=1048576)(a n:Nat)(h:a+n<=b.length):J4 (b,(a:Int),false) (n:Int)=some ((b.take (a+n)).drop a,(b,((a+n:Nat):Int),false),()):=by
 simp only [J4,A0b,cond_false];rw [w64 (n:=(b.length:Int)-(a:Int)) (by omega) (by omega),A4 (by omega),w64 (n:=(a:Int)+(n:Int)) (by omega) (by omega),w64 (n:=(a:Int)+(n:Int)-(n:Int)) (by omega) (by omega)];simp only [cond_false,B8];rw [A0 (by omega),A0 (by omega),A0 (by omega)];simp only [cond_true];rw [A58 _ (by simp;omega),show ((a:Int)+(n:Int)).toNat=a+n by omega,show ((a:Int)+(n:Int)-(n:Int)).toNat=a by omega];rfl
theorem D18{b:List Int}(hh:b.length<=1048576)(a n:Nat)(ha:a<=b.length)(h:¬ a+n<=b.length):J4 (b,(a:Int),false) (n:Int)=some ([],(b,(a:Int),true),()):=by
 simp only [J4,A0b,cond_false];rw [w64 (n:=(b.length:Int)-(a:Int)) (by omega) (by omega),A0 (by omega)];rfl
theorem B9K(s:X0)(hs:s.size<=1048576):A2L s=some (D9 s):=by
 have hbl:=bytesOf_length s;have hb:=B39 s;have hh:(bytesOf s).length<=1048576:=by omega
 have hsz:s.size=(bytesOf s).length:=hbl.symm;simp only [D9,B3A,hsz];have hlen:decide ((bytesOf s).length<=9223372036854775807)=true:=A0 (by omega);simp only [A2L,C2s,hsz,hlen,cond_true]
 clear hlen hsz
 generalize bytesOf s=b at hb hh ⊢
 clear hbl
 have nb:∀ (a:Int) (k:Nat) (k':Int),k' = (k:Int)->1<=k/\k<=7->E1 (b,a,true) k' = some (0,(b,a,true),()):=fun a k k' e hk=>E8c hb hh a k k' e hk
 have nb1:∀ a:Int,E1 (b,a,true) 1=some (0,(b,a,true),()):=fun a=>nb a 1 1 rfl (by omega)
 have nb2:∀ a:Int,E1 (b,a,true) 2=some (0,(b,a,true),()):=fun a=>nb a 2 2 rfl (by omega)
 have nb4:∀ a:Int,E1 (b,a,true) 4=some (0,(b,a,true),()):=fun a=>nb a 4 4 rfl (by omega)
 have tb:=E70 b;have z0:((0:Int),false)=(((0:Nat):Int),false):=rfl;rw [z0];by_cases c4:12+E2 b+U0 b<=b.length
 ·have hn':E2 b<256:=D03 hb _;have hm':U0 b<256:=D03 hb _;have hN:(A1D b 6 1:Int)=((E2 b:Nat):Int):=rfl;have hM:(A1D b (11+E2 b) 1:Int)=((U0 b:Nat):Int):=rfl;rw [A2t hb hh 0 3 3 rfl (by omega) (by omega)];simp only [A3];rw [A2t hb hh (0+3) 2 2 rfl (by omega) (by omega)];simp only;rw [A2t hb hh (0+3+2) 1 1 rfl (by omega) (by omega)];simp only;rw [A2t hb hh (0+3+2+1) 1 1 rfl (by omega) (by omega)];simp only [Nat.zero_add,Nat.reduceAdd,hN];rw [C6C hh 7 (E2 b) (by omega)];simp only;rw [A2t hb hh (7+E2 b) 4 4 rfl (by omega) (by omega)];simp only;rw [A2t hb hh (7+E2 b+4) 1 1 rfl (by omega) (by omega)];simp only;rw [show 7+E2 b+4=11+E2 b by omega,hM,show 11+E2 b+1=12+E2 b by omega,C6C hh (12+E2 b) (U0 b) (by omega)];simp only [cond_false];have hr:(((A1D b 0 3:Nat):Int),((A1D b 3 2:Nat):Int),((A1D b 5 1:Nat):Int),strOf ((b.take (7+E2 b)).drop 7),((A1D b (7+E2 b) 4:Nat):Int),(b.take (12+E2 b+U0 b)).drop (12+E2 b))=recAt b:=rfl;obtain ⟨l1,l2⟩:=D59 b c4;rw [hr,D16 _ (by rw [l1];simp only [maxLen];omega),C7b _ (by rw [l1];simp only [maxLen];omega) (C6B hb)];rw [A0 c4];simp only [Bool.true_and];cases V4 (recAt b)
  ·rfl
  ·cases hp:((A0l (recAt b)).toList == s.toList)
   ·simp [hp];rfl
   ·simp [hp]
 ·rw [A4 c4];have fin:(if (false&&V4 (recAt b)&&((A0l (recAt b)).toList == s.toList))=true then (recAt b,true,()) else E3L)=E3L:=by simp
  rw [fin];rcases Nat.lt_or_ge b.length (0+3) with d3 | d3
  ·rw [B1J hb hh 0 3 3 rfl (by omega) (by omega)];simp only [A3,nb1,nb2,nb4,tb];rfl
  rw [A2t hb hh 0 3 3 rfl (by omega) d3];simp only [A3];rcases Nat.lt_or_ge b.length (0+3+2) with d5 | d5
  ·rw [B1J hb hh (0+3) 2 2 rfl (by omega) (by omega)];simp only [nb1,nb2,nb4,tb];rfl
  rw [A2t hb hh (0+3) 2 2 rfl (by omega) d5];simp only;rcases Nat.lt_or_ge b.length (0+3+2+1) with d6 | d6
  ·rw [B1J hb hh (0+3+2) 1 1 rfl (by omega) (by omega)];simp only [nb1,nb2,nb4,tb];rfl
  rw [A2t hb hh (0+3+2) 1 1 rfl (by omega) d6];simp only;rcases Nat.lt_or_ge b.length (0+3+2+1+1) with d7 | d7
  ·rw [B1J hb hh (0+3+2+1) 1 1 rfl (by omega) (by omega)];simp only [nb1,nb2,nb4,tb];rfl
  rw [A2t hb hh (0+3+2+1) 1 1 rfl (by omega) d7];have hN:(A1D b 6 1:Int)=((E2 b:Nat):Int):=rfl;have hM:(A1D b (11+E2 b) 1:Int)=((U0 b:Nat):Int):=rfl;simp only [Nat.zero_add,Nat.reduceAdd,hN];rcases Nat.lt_or_ge b.length (7+E2 b) with e7 | e7
  ·rw [D18 hh 7 (E2 b) (by omega) (by omega)];simp only [nb1,nb2,nb4,tb];rfl
  rw [C6C hh 7 (E2 b) e7];simp only;rcases Nat.lt_or_ge b.length (7+E2 b+4) with e11 | e11
  ·rw [B1J hb hh (7+E2 b) 4 4 rfl (by omega) (by omega)];simp only [nb1,nb2,nb4,tb];rfl
  rw [A2t hb hh (7+E2 b) 4 4 rfl (by omega) e11];simp only;rcases Nat.lt_or_ge b.length (7+E2 b+4+1) with e12 | e12
  ·rw [B1J hb hh (7+E2 b+4) 1 1 rfl (by omega) (by omega)];simp only [nb1,nb2,nb4,tb];rfl
  rw [A2t hb hh (7+E2 b+4) 1 1 rfl (by omega) e12];simp only;rw [show 7+E2 b+4=11+E2 b by omega,hM,show 11+E2 b+1=12+E2 b by omega,D18 hh (12+E2 b) (U0 b) (by omega) c4];rfl
theorem B1K:∀ x:List UInt8,Op.bytesLess x x=false
 | []=>rfl
 | a::x=>by
  have h:¬ a<a:=UInt8.lt_irrefl a;simp [Op.bytesLess,B1K x,h]
theorem C4I:∀ {x y z:List UInt8},Op.bytesLess x y=true->Op.bytesLess y z=true->Op.bytesLess x z=true
 | _,[],_,h,_=>by cases ‹List UInt8›<;>simp [Op.bytesLess] at h
 | _,_::_,[],_,h=>by simp [Op.bytesLess] at h
 | [],_::_,_::_,_,_=>rfl
 | a::x,b::y,c::z,h1,h2=>by
  simp only [Op.bytesLess,Bool.or_eq_true,Bool.and_eq_true,decide_eq_true_eq,beq_iff_eq] at h1 h2 ⊢;rcases h1 with h1 | ⟨rfl,h1⟩
  ·rcases h2 with h2 | ⟨rfl,h2⟩
   ·exact .inl (UInt8.lt_trans h1 h2)
   ·exact .inl h1
  ·rcases h2 with h2 | ⟨rfl,h2⟩
   ·exact .inl h2
   ·exact .inr ⟨rfl,C4I h1 h2⟩
theorem D8C:∀ {x y:List UInt8},Op.bytesLess x y=false->Op.bytesLess y x=false->x=y
 | [],[],_,_=>rfl
 | [],_::_,h,_=>by simp [Op.bytesLess] at h
 | _::_,[],_,h=>by simp [Op.bytesLess] at h
 | a::x,b::y,h1,h2=>by
  simp only [Op.bytesLess,Bool.or_eq_false_iff,decide_eq_false_iff_not,Bool.and_eq_false_iff,beq_eq_false_iff_ne] at h1 h2;have hab:a=b:=by
   apply UInt8.le_antisymm
   ·exact UInt8.not_lt.1 h2.1
   ·exact UInt8.not_lt.1 h1.1
  subst hab;exact congrArg (a::·) (D8C (by simpa using h1.2) (by simpa using h2.2))
theorem E71{x y:List UInt8}(h:Op.bytesLess x y=true):Op.bytesLess y x=false:=by
 cases e:Op.bytesLess y x with
 | false=>rfl
 | true=>have:=C4I h e;rw [B1K] at this;cases this
def Ord(us:List TUp):Prop:=us.Pairwise fun a b=>Op.bytesLess a.1.toList b.1.toList=true
theorem D6H{us:List TUp}(h:Ord us){i j:Nat}(hij:i<j)(hj:j<us.length):Op.bytesLess (us[i]'(by omega)).1.toList us[j].1.toList=true:=List.pairwise_iff_getElem.1 h i j (by omega) hj hij
def B5(us:List TUp)(id:X0):Nat:=V3 (fun i=>Op.bytesLess (rd kUp us (i:Int)).1.toList id.toList) 0 us.length
def H6(us:List TUp)(id:X0):Bool:=decide (B5 us id<us.length)&&((rd kUp us (B5 us id:Int)).1.toList == id.toList)
theorem B3B(go:Nat->Bool):∀ k i j,i<=j->j<V3 go i k->go j=true
 | 0,i,j,h1,h2=>by simp only [V3] at h2;omega
 | k+1,i,j,h1,h2=>by
  simp only [V3] at h2;split at h2
  ·rename_i hg;by_cases e:j=i
   ·rw [e];exact hg
   ·exact B3B go k (i+1) j (by omega) h2
  ·omega
theorem B3C(go:Nat->Bool)(n p:Nat)(hp:p<=n)(h1:∀ j,j<p->go j=true)(h2:p<n->go p=false):V3 go 0 n=p:=by
 have hl:=C66 go n 0;rcases Nat.lt_trichotomy (V3 go 0 n) p with h | h | h
 ·have:=B6S go n 0 (by omega);rw [h1 _ h] at this;cases this
 ·exact h
 ·have:=B3B go n 0 p (by omega) h;rw [h2 (by omega)] at this;cases this
theorem A9p(us:List TUp)(id:X0):B5 us id<=us.length:=by have:=C66 (fun i=>Op.bytesLess (rd kUp us (i:Int)).1.toList id.toList) us.length 0;unfold B5;omega
theorem B9L{us:List TUp}{id:X0}{j:Nat}(hj:j<B5 us id):Op.bytesLess (us[j]'(by have:=A9p us id;omega)).1.toList id.toList=true:=by
 have:=B3B _ us.length 0 j (by omega) hj
 rwa [C7 (k:=kUp) (xs:=us) (by have:=A9p us id;omega)] at this
theorem C4J{us:List TUp}{id:X0}(h:B5 us id<us.length):Op.bytesLess us[B5 us id].1.toList id.toList=false:=by
 have:=B6S (fun i=>Op.bytesLess (rd kUp us (i:Int)).1.toList id.toList) us.length 0 (by unfold B5 at h;omega);have h2:Op.bytesLess (rd kUp us (B5 us id:Int)).1.toList id.toList=false:=this
 rwa [C7 (k:=kUp) (xs:=us) h] at h2
theorem E72{us:List TUp}(ho:Ord us){id:X0}{j:Nat}(hj:B5 us id<=j)(hl:j<us.length):Op.bytesLess us[j].1.toList id.toList=false:=by
 rcases Nat.eq_or_lt_of_le hj with e | h
 ·subst e;exact C4J hl
 ·cases e:Op.bytesLess us[j].1.toList id.toList with
  | false=>rfl
  | true=>
   have:=C4I (D6H ho h hl) e;rw [C4J (by omega)] at this;cases this
theorem H1{us:List TUp}{id:X0}:H6 us id=true↔∃ h:B5 us id<us.length,us[B5 us id].1.toList=id.toList:=by
 unfold H6;constructor
 ·intro h;simp only [Bool.and_eq_true,decide_eq_true_eq,beq_iff_eq] at h;refine ⟨h.1,?_⟩;have h2:=h.2
  rwa [C7 (k:=kUp) (xs:=us) h.1] at h2
 ·rintro ⟨h,e⟩;simp only [Bool.and_eq_true,decide_eq_true_eq,beq_iff_eq];refine ⟨h,?_⟩;rw [C7 (k:=kUp) (xs:=us) h];exact e
theorem C4K{us:List TUp}(ho:Ord us){id:X0}(hn:H6 us id=false){j:Nat}(hj:B5 us id<=j)(hl:j<us.length):Op.bytesLess id.toList us[j].1.toList=true:=by
 cases e:Op.bytesLess id.toList us[j].1.toList with
 | true=>rfl
 | false=>
  have h1:=D8C (E72 ho hj hl) e;exfalso;rcases Nat.eq_or_lt_of_le hj with e2 | h
  ·subst e2;have:=H1.2 ⟨hl,h1⟩;rw [hn] at this;cases this
  ·have h2:=D6H ho h hl;rw [h1,C4J (by omega)] at h2;cases h2
theorem D19{us:List TUp}(ho:Ord us){id:X0}(h:H6 us id=true):E4S us id=B5 us id:=by
 obtain ⟨hl,e⟩:=H1.1 h;refine B3C _ us.length _ (A9p us id) (fun j hj=>?_) (fun _=>?_)
 ·rw [C7 (k:=kUp) (xs:=us) (by omega)];have h1:=B9L hj;cases e2:((us[j]'(by omega)).1.toList == id.toList) with
  | false=>rfl
  | true=>
   rw [eq_of_beq e2,B1K] at h1;cases h1
 ·rw [C7 (k:=kUp) (xs:=us) hl,e];simp
theorem D1A{us:List TUp}(ho:Ord us){id:X0}(h:H6 us id=false):E4S us id=us.length:=by
 refine B3C _ us.length _ (Nat.le_refl _) (fun j hj=>?_) (fun h=>by omega);rw [C7 (k:=kUp) (xs:=us) hj];cases e2:(us[j].1.toList == id.toList) with
 | false=>rfl
 | true=>
  exfalso;have e3:=eq_of_beq e2;by_cases hp:j<B5 us id
  ·have h1:=B9L hp;rw [e3,B1K] at h1;cases h1
  ·have h1:=C4K ho h (show B5 us id<=j by omega) hj;rw [e3,B1K] at h1;cases h1
theorem D5A(us:List TUp)(id:X0)(h:us.length<=maxLen):A3n us id=some ((B5 us id:Int),H6 us id,()):=by
 simp only [A3n,C4E];have e:=A6P (B1d us id) (fun i=>((i:Int),())) us.length (fun i=>((i:Int),())) (fun i=>Op.bytesLess (rd kUp us (i:Int)).1.toList id.toList) (fun i hi=>?_) ?_
 ·have e':C3 (B1d us id) (0,())=some ((B5 us id:Int),()):=e;rw [e'];simp only [A3];have hle:=A9p us id;unfold H6;by_cases hl:B5 us id<us.length
  ·rw [A0 (show (B5 us id:Int)<(us.length:Int) by omega),A0 (show (0:Int)<=(B5 us id:Int) by omega),A0 hl];simp
  ·rw [A4 (show ¬ (B5 us id:Int)<(us.length:Int) by omega),A4 hl];simp
 ·have h1:((i:Int)<(us.length:Int)):=by omega
  have h2:(0:Int)<=(i:Int):=by omega
  simp only [B1d,A0 h1,A0 h2,cond_true];rw [w64 (by omega) (by simp only [maxLen] at h;omega)];cases Op.bytesLess (rd kUp us (i:Int)).1.toList id.toList<;>simp
 ·simp [B1d]
theorem C3H(us:List TUp)(h:us.length<=1048576)(hd:∀ u∈us,List.length u.2.2.1<=2000000000):O1 us=some (us,()):=by
 simp only [O1,A7B];have key:=E0 (A4c us) (fun i=>((i:Int),us.take i,())) us.length (us,()) (fun i hi=>?_) ?_
 ·simpa using key
 ·have h1:((i:Int)<(us.length:Int)):=by omega
  have h2:(0:Int)<=(i:Int):=by omega
  have hu:List.length (rd kUp us (i:Int)).2.2.1<=2000000000:=by
   rw [C7 (k:=kUp) (xs:=us) hi];exact hd _ (List.getElem_mem hi)
  have e:((rd kUp us (i:Int)).1,(rd kUp us (i:Int)).2.1,[]++(rd kUp us (i:Int)).2.2.1,(rd kUp us (i:Int)).2.2.2)=us[i]:=by
   rw [C7 (k:=kUp) (xs:=us) hi];rfl
  simp only [A4c,A0 h1,A0 h2,cond_true,e];rw [A0 (by simp;omega),A0 (by simp;omega),A0 (by simp;omega),A0 (by simp;omega),w64 (by omega) (by omega)];simp only [cond_true];rw [List.take_succ_eq_append_getElem hi];rfl
 ·simp [A4c]
theorem E0v(us:List TUp)(u:TUp)(ho:Ord us)(h:us.length<=1048576)(hd:∀ u∈us,List.length u.2.2.1<=2000000000) :
  ∃ k,k<=us.length/\R9 us u=some (us.take k++u::us.drop k,())/\(H6 us u.1=false->k=B5 us u.1):=by
 simp only [R9,A1u,C3H us h hd,A3];rw [A0 (by simp;omega),A0 (by simp;omega)];simp only [cond_true];have hst:IntKind.i64.wrap (((us ++ [u]).length:Int)-1)=(us.length:Int):=by
  rw [w64 (by simp only [List.length_append,List.length_singleton];omega) (by simp only [List.length_append,List.length_singleton];omega)];simp
 rw [hst];obtain ⟨z,e,k,hz1,hz2,hz3⟩:=P0 (A1E u) (fun l=>l.1.toNat)
  (fun l=>∃ (k:Nat) (c:TUp),l.1=(k:Int)/\k<=us.length/\l.2.1=us.take k++c::us.drop k/\(H6 us u.1=false->B5 us u.1<=k))
  (fun z=>∃ k:Nat,k<=us.length/\(H6 us u.1=false->k=B5 us u.1)/\∃ c,z=((k:Int),us.take k++c::us.drop k,())) (fun l hl=>by
   obtain ⟨l1,l2,l3⟩:=l;obtain ⟨k,c,h1,h2,h3,h4⟩:=hl;simp only at h1 h3;subst h1;subst h3;simp only [A1E];by_cases hk:k=0
   ·subst hk;refine .inr ⟨_,by rw [A4 (by omega)];rfl,0,by omega,fun q=>?_,c,rfl⟩;have:=h4 q;omega
   ·obtain ⟨k,rfl⟩:∃ k',k=k'+1:=⟨k-1,by omega⟩;have hlen:(us.take (k+1)++c::us.drop (k+1)).length=us.length+1:=by simp;omega
    have ew:IntKind.i64.wrap (((k+1:Nat):Int)-1)=(k:Int):=by rw [w64 (by omega) (by omega)];omega
    have hget:rd (.pair .str (.pair (.int .i64) (.pair (.rs 5 (.int .u8)) .bool))) (us.take (k+1)++c::us.drop (k+1)) (k:Int)=us[k]'(by omega):=by
     rw [C7 (k:=.pair .str (.pair (.int .i64) (.pair (.rs 5 (.int .u8)) .bool))) (xs:=us.take (k+1)++c::us.drop (k+1)) (by rw [hlen];omega)];rw [List.getElem_append_left (by simp;omega),List.getElem_take]
    rw [A0 (show ((k+1:Nat):Int)>0 by omega),ew,hlen,A0 (show (0:Int)<=(k:Int) by omega),A0 (show (k:Int)<((us.length+1:Nat):Int) by omega),hget];simp only [cond_true];have hlen2:(k:Int)+1=((k+1:Nat):Int):=by omega
    cases hc:(!(Op.bytesLess (us[k]'(by omega)).1.toList u.1.toList||((us[k]'(by omega)).1.toList == u.1.toList))) with
    | false=>
     refine Or.inr ⟨(((k+1:Nat):Int),us.take (k+1)++c::us.drop (k+1),()),rfl,k+1,h2,fun q=>?_,c,rfl⟩;have h5:=h4 q;by_cases hkp:B5 us u.1<=k
     ·have h6:=C4K ho q hkp (by omega);simp only [Bool.not_eq_false',Bool.or_eq_true,beq_iff_eq] at hc;rcases hc with hc | hc
      ·rw [E71 h6] at hc;cases hc
      ·rw [hc,B1K] at h6;cases h6
     ·omega
    | true=>
     refine Or.inl ⟨((k:Int),us.take k++(us[k]'(by omega))::us.drop k,()),?_,⟨k,us[k]'(by omega),rfl,by omega,rfl,fun q=>?_⟩,by simp only;omega⟩
     ·simp only [cond_true,B8];rw [A0 (show (0:Int)<=((k+1:Nat):Int) by omega),A0 (show ((k+1:Nat):Int)<((us.length+1:Nat):Int) by omega)];simp only [cond_true,A3,Int.toNat_natCast];have e1:(us.take (k+1)++c::us.drop (k+1)).set (k+1) (us[k]'(by omega))=us.take k++(us[k]'(by omega))::us.drop k:=by
       rw [List.set_append_right _ _ (by simp;omega)];rw [show (us.take (k+1)).length=k+1 by simp;omega,Nat.sub_self,List.set_cons_zero,List.take_succ_eq_append_getElem (by omega),List.append_assoc,List.drop_eq_getElem_cons (i:=k) (by omega)];rfl
      rw [e1]
     ·have h5:=h4 q;by_cases hkp:k<B5 us u.1
      ·have h6:=B9L hkp;rw [h6] at hc;simp at hc
      ·omega) ((us.length:Int),us ++ [u],()) ⟨us.length,u,rfl,Nat.le_refl _,by simp,fun _=>A9p us u.1⟩
 obtain ⟨c,rfl⟩:=hz3;rw [e];simp only;have hlen:(us.take k++c::us.drop k).length=us.length+1:=by simp;omega
 rw [A0 (by omega),A0 (by rw [hlen];omega)];simp only [cond_true,Int.toNat_natCast];refine ⟨k,hz1,?_,hz2⟩;rw [List.set_append_right _ _ (by simp;omega),show (us.take k).length=k by simp;omega,Nat.sub_self,List.set_cons_zero]
def B8E(r:I2):Prop:=V4 r=true/\Byt r.2.2.2.2.2
def UpG(u:TUp):Prop:=(List.length u.2.2.1:Int)<=u.2.1/\u.2.1<=1000000000/\u.1.size<=8/\Byt u.2.2.1
def Ups(us:List TUp):Prop:=Ord us/\us.length<=10/\∀ u∈us,UpG u
theorem B3D:Ups []:=⟨List.Pairwise.nil,by simp,fun u hu=>by cases hu⟩
theorem B3E{us:List TUp}(h:Ups us):∀ u∈us,List.length u.2.2.1<=2000000000:=fun u hu=>by have h1:=(h.2.2 u hu).1;have h2:=(h.2.2 u hu).2.1;omega
def L8(us:List TUp)(r:I2):Option (List TUp):=
 let p:=B5 us r.2.2.2.1
 let u:=rd kUp us (p:Int)
 if r.2.2.1=1 then (if H6 us r.2.2.2.1=true\/10<=us.length then none else some (us.take p++(r.2.2.2.1,r.2.2.2.2.1,[],false)::us.drop p))
 else if H6 us r.2.2.2.1=false then none
 else if r.2.2.1=2 then (if u.2.2.2=true\/r.2.2.2.2.1≠(List.length u.2.2.1:Int)\/(List.length u.2.2.1:Int)+(List.length r.2.2.2.2.2:Int)>u.2.1 then none else some (us.set p (u.1,u.2.1,u.2.2.1++r.2.2.2.2.2,u.2.2.2)))
 else if r.2.2.1=3 then (if u.2.2.2=true\/(List.length u.2.2.1:Int)≠u.2.1 then none else some (us.set p (u.1,u.2.1,u.2.2.1,true)))
 else if r.2.2.1=4 then some (us.take p++us.drop (p+1))
 else none
def B7P(us:List TUp)(r:I2):List TUp×Bool×Unit:=match L8 us r with
 | some us'=>(us',true,())
 | none=>([],false,())
theorem D5B(us:List TUp)(r:I2)(h:Ups us)(h2:List.length r.2.2.2.2.2<=1048576):A9d us r=some (B7P us r):=by
 have hl:=h.2.1;have hp:=A9p us r.2.2.2.1;simp only [A9d,D0t,D5A us _ (show us.length<=maxLen by simp only [maxLen];omega),A3,B7P,L8];by_cases k1:r.2.2.1=1
 ·rw [A0 k1,if_pos k1];simp only [cond_true];cases hh:H6 us r.2.2.2.1 with
  | true=>simp [B8]
  | false=>
   by_cases h10:10<=us.length
   ·rw [A0 (show (us.length:Int)>=10 by omega),if_pos (.inr h10)];rfl
   ·rw [A4 (show ¬ (us.length:Int)>=10 by omega),if_neg (by simp;omega)];simp only [cond_false,B8,N5,E3I];rw [A0 (by omega),A0 (by omega),A0 (by simp),A0 (by simp;omega)];simp [A3]
 rw [A4 k1,if_neg k1];simp only [cond_false];cases hh:H6 us r.2.2.2.1 with
 | false=>simp
 | true=>
  obtain ⟨hlt,hid⟩:=H1.1 hh;have hu:(List.length us[B5 us r.2.2.2.1].2.2.1:Int)<=us[B5 us r.2.2.2.1].2.1/\us[B5 us r.2.2.2.1].2.1<=1000000000:=⟨(h.2.2 _ (List.getElem_mem hlt)).1,(h.2.2 _ (List.getElem_mem hlt)).2.1⟩;have hrd:rd kUp us (B5 us r.2.2.2.1:Int)=us[B5 us r.2.2.2.1]:=C7 (k:=kUp) (xs:=us) hlt;simp only [Bool.not_true,cond_false,Bool.true_eq_false,if_false];rw [A0 (by omega),A0 (by omega)];simp only [cond_true,Int.toNat_natCast,hrd];generalize us[B5 us r.2.2.2.1]=u at hu hid ⊢;by_cases k2:r.2.2.1=2
  ·rw [A0 k2,if_pos k2];simp only [cond_true];cases hd:u.2.2.2 with
   | true=>simp [B8]
   | false=>
    by_cases hn:r.2.2.2.2.1=(List.length u.2.2.1:Int)
    ·rw [A0 hn,w64 (by omega) (by omega)];by_cases hw:(List.length u.2.2.1:Int)+(List.length r.2.2.2.2.2:Int)>u.2.1
     ·rw [A0 hw,if_pos (.inr (.inr hw))];rfl
     ·rw [A4 hw,if_neg (by simp [hn];omega)];simp only [Bool.not_true,cond_false,B8];rw [A0 (by omega),A0 (by omega)];rfl
    ·rw [A4 hn,if_pos (.inr (.inl hn))];rfl
  rw [A4 k2,if_neg k2];by_cases k3:r.2.2.1=3
  ·rw [A0 k3,if_pos k3];simp only [cond_true,cond_false];cases hd:u.2.2.2 with
   | true=>simp
   | false=>
    by_cases hn:(List.length u.2.2.1:Int)=u.2.1
    ·rw [A0 hn,if_neg (by simp [hn])];rfl
    ·rw [A4 hn,if_pos (.inr hn)];rfl
  rw [A4 k3,if_neg k3];by_cases k4:r.2.2.1=4
  ·rw [A0 k4,if_pos k4,w64 (n:=(B5 us r.2.2.2.1:Int)+1) (by omega) (by omega)];simp only [cond_true,cond_false,N7,B7O];rw [A0 (by omega),A0 (by omega),A0 (by omega)];simp only [cond_true,Int.toNat_natCast];rw [show ((B5 us r.2.2.2.1:Int)+1).toNat=B5 us r.2.2.2.1+1 by omega]
  rw [A4 k4,if_neg k4];rfl
theorem D8D(us:List TUp)(r:I2)(h:Ups us)(h2:List.length r.2.2.2.2.2<=1048576):∃ x,I6 us r=some (x,(B7P us r).2.1,())/\((B7P us r).2.1=true->x=(B7P us r).1):=by
 have hl:=h.2.1;have hp:=A9p us r.2.2.2.1;have hat:=D87 us r.2.2.2.1 (show us.length<=maxLen by simp only [maxLen];omega);have hcp:=C3H us (by omega) (B3E h);obtain ⟨k,hk,hmk,hmk2⟩:=E0v us (r.2.2.2.1,r.2.2.2.2.1,[],false) h.1 (by omega) (B3E h);simp only [I6,A2V,hat,hcp,hmk,A3,B7P,L8];by_cases k1:r.2.2.1=1
 ·rw [A0 k1,if_pos k1];simp only [cond_true];cases hh:H6 us r.2.2.2.1 with
  | true=>
   obtain ⟨hlt,hid⟩:=H1.1 hh;rw [D19 h.1 hh,if_pos hlt,A4 (by omega)];simp
  | false=>
   have hk2:=hmk2 hh;simp only at hk2;rw [D1A h.1 hh,if_neg (Nat.lt_irrefl _),A0 (by omega)];simp only [cond_true];by_cases h10:10<=us.length
   ·rw [A4 (by omega),if_pos (.inr h10)];simp
   ·rw [A0 (by omega),if_neg (by simp;omega),hk2];simp
 rw [A4 k1,if_neg k1];simp only [cond_false];cases hh:H6 us r.2.2.2.1 with
 | false=>
  rw [D1A h.1 hh,if_neg (Nat.lt_irrefl _),A0 (by omega)];simp
 | true=>
  obtain ⟨hlt,hid⟩:=H1.1 hh;have hu:(List.length us[B5 us r.2.2.2.1].2.2.1:Int)<=us[B5 us r.2.2.2.1].2.1/\us[B5 us r.2.2.2.1].2.1<=1000000000:=⟨(h.2.2 _ (List.getElem_mem hlt)).1,(h.2.2 _ (List.getElem_mem hlt)).2.1⟩;have hrd:rd kUp us (B5 us r.2.2.2.1:Int)=us[B5 us r.2.2.2.1]:=C7 (k:=kUp) (xs:=us) hlt;rw [D19 h.1 hh,if_pos hlt,A4 (by omega)];simp only [cond_false,Bool.true_eq_false,if_false];rw [A0 (by omega),A0 (by omega)];simp only [cond_true,Int.toNat_natCast,hrd];generalize us[B5 us r.2.2.2.1]=u at hu hid ⊢;by_cases k2:r.2.2.1=2
  ·rw [A0 k2,if_pos k2];simp only [cond_true];cases hd:u.2.2.2 with
   | true=>simp [B8]
   | false=>
    by_cases hn:r.2.2.2.2.1=(List.length u.2.2.1:Int)
    ·rw [A0 hn,hn,w64 (by omega) (by omega)];by_cases hw:(List.length u.2.2.1:Int)+(List.length r.2.2.2.2.2:Int)>u.2.1
     ·rw [A0 hw,if_pos (.inr (.inr hw))];exact ⟨_,rfl,fun e=>by cases e⟩
     ·rw [A4 hw,if_neg (by simp;omega)];simp only [Bool.not_true,cond_false,B8];rw [A0 (by omega),A0 (by omega)];exact ⟨_,rfl,fun _=>rfl⟩
    ·rw [A4 hn,if_pos (.inr (.inl hn))];exact ⟨_,rfl,fun e=>by cases e⟩
  rw [A4 k2,if_neg k2];by_cases k3:r.2.2.1=3
  ·rw [A0 k3,if_pos k3];simp only [cond_true,cond_false];cases hd:u.2.2.2 with
   | true=>simp
   | false=>
    by_cases hn:(List.length u.2.2.1:Int)=u.2.1
    ·rw [A0 hn,if_neg (by simp [hn])];exact ⟨_,rfl,fun _=>rfl⟩
    ·rw [A4 hn,if_pos (.inr hn)];exact ⟨_,rfl,fun e=>by cases e⟩
  rw [A4 k3,if_neg k3];by_cases k4:r.2.2.1=4
  ·rw [A0 k4,if_pos k4,w64 (n:=(B5 us r.2.2.2.1:Int)+1) (by omega) (by omega)];simp only [cond_true,cond_false];rw [A0 (by omega),A0 (by omega),A0 (by omega),A0 (by omega)];simp only [cond_true];rw [show ((B5 us r.2.2.2.1:Int)+1).toNat=B5 us r.2.2.2.1+1 by omega,A0 (by omega)];simp only [cond_true,List.take_length];exact ⟨_,rfl,fun _=>rfl⟩
  rw [A4 k4,if_neg k4];exact ⟨_,rfl,fun e=>by cases e⟩
theorem E3M{us:List TUp}(h:Ord us)(p:Nat)(hp:p<us.length)(u:TUp)(hu:u.1=us[p].1):Ord (us.set p u):=by
 refine List.pairwise_iff_getElem.2 fun i j hi hj hij=>?_
 simp only [List.length_set] at hi hj;have hk:∀ q (hq:q<us.length),((us.set p u)[q]'(by simpa using hq)).1=us[q].1:=fun q hq=>by
  rw [List.getElem_set];split
  ·rename_i e;subst e;exact hu
  ·rfl
 rw [hk i hi,hk j hj];exact D6H h hij hj
theorem B9M{us us':List TUp}{r:I2}(h:Ups us)(hr':B8E r)(e:L8 us r=some us'):Ups us':=by
 have hr:=hr'.1;have hp:=A9p us r.2.2.2.1;have hb:=A25 hr;simp only [L8] at e;split at e
 ·split at e
  ·cases e
  rename_i hc;injection e with e
  subst e;have hnh:H6 us r.2.2.2.1=false:=by cases q:H6 us r.2.2.2.1;rfl;exact absurd (.inl q) hc
  refine ⟨?_,by simp;omega,fun u hu=>?_⟩
  ·show List.Pairwise _ _;rw [List.pairwise_append];refine ⟨h.1.sublist (List.take_sublist _ _),List.pairwise_cons.2 ⟨fun b hb=>?_,h.1.sublist (List.drop_sublist _ _)⟩,fun a ha b hb=>?_⟩
   ·obtain ⟨j,hj,rfl⟩:=List.getElem_of_mem hb;rw [List.getElem_drop];exact C4K h.1 hnh (by omega) _
   ·obtain ⟨j,hj,rfl⟩:=List.getElem_of_mem ha;rw [List.length_take] at hj;rw [List.getElem_take];have h1:=B9L (us:=us) (id:=r.2.2.2.1) (j:=j) (by omega);rcases List.mem_cons.1 hb with rfl | hb
    ·exact h1
    ·obtain ⟨q,hq,rfl⟩:=List.getElem_of_mem hb;rw [List.getElem_drop];rw [List.length_drop] at hq;exact C4I h1 (C4K h.1 hnh (by omega) (by omega))
  ·rcases List.mem_append.1 hu with hu | hu
   ·exact h.2.2 u (List.mem_of_mem_take hu)
   ·rcases List.mem_cons.1 hu with rfl | hu
    ·exact ⟨by simp only [List.length_nil];omega,by simp only;omega,hb.2.2.2.2.1,T9⟩
    ·exact h.2.2 u (List.mem_of_mem_drop hu)
 split at e
 ·cases e
 rename_i _ hh;have hh:H6 us r.2.2.2.1=true:=by cases q:H6 us r.2.2.2.1;exact absurd q hh;rfl
 obtain ⟨hlt,hid⟩:=H1.1 hh;have hrd:rd kUp us (B5 us r.2.2.2.1:Int)=us[B5 us r.2.2.2.1]:=C7 (k:=kUp) (xs:=us) hlt;have hu0:=h.2.2 _ (List.getElem_mem hlt);simp only [hrd] at e;split at e
 ·split at e
  ·cases e
  rename_i hc;injection e with e
  subst e;refine ⟨E3M h.1 _ hlt _ rfl,by simp;exact h.2.1,fun u hu=>?_⟩;rcases List.mem_or_eq_of_mem_set hu with hu | rfl
  ·exact h.2.2 u hu
  ·refine ⟨?_,hu0.2.1,hu0.2.2.1,D02 hu0.2.2.2 hr'.2⟩;simp only [List.length_append];have:¬ ((List.length us[B5 us r.2.2.2.1].2.2.1:Int)+(List.length r.2.2.2.2.2:Int)>us[B5 us r.2.2.2.1].2.1):=fun q=>hc (.inr (.inr q))
   omega
 split at e
 ·split at e
  ·cases e
  injection e with e
  subst e;refine ⟨E3M h.1 _ hlt _ rfl,by simp;exact h.2.1,fun u hu=>?_⟩;rcases List.mem_or_eq_of_mem_set hu with hu | rfl
  ·exact h.2.2 u hu
  ·exact hu0
 split at e
 ·injection e with e
  subst e;refine ⟨?_,by have:=h.2.1;simp only [List.length_append,List.length_take,List.length_drop];omega,fun u hu=>?_⟩
  ·show List.Pairwise _ _;rw [List.pairwise_append];refine ⟨h.1.sublist (List.take_sublist _ _),h.1.sublist (List.drop_sublist _ _),fun a ha b hb=>?_⟩;obtain ⟨j,hj,rfl⟩:=List.getElem_of_mem ha;obtain ⟨q,hq,rfl⟩:=List.getElem_of_mem hb;rw [List.length_take] at hj;rw [List.length_drop] at hq;rw [List.getElem_take,List.getElem_drop];exact D6H h.1 (by omega) (by omega)
  ·rcases List.mem_append.1 hu with hu | hu
   ·exact h.2.2 u (List.mem_of_mem_take hu)
   ·exact h.2.2 u (List.mem_of_mem_drop hu)
 ·cases e
def I1:List TUp->List I2->Option (List TUp)
 | us,[]=>some us
 | us,r::l=>match L8 us r with
  | some us'=>I1 us' l
  | none=>none
def W8(l:List I2):List TUp×Bool×Unit:=match I1 [] l with
 | some us=>(us,true,())
 | none=>([],false,())
theorem A9q:∀ {l:List I2} {us us':List TUp},Ups us->(∀ r∈l,B8E r)->I1 us l=some us'->Ups us'
 | [],us,us',h,_,e=>by simp only [I1,Option.some.injEq] at e;subst e;exact h
 | r::l,us,us',h,hr,e=>by
  simp only [I1] at e;split at e
  ·rename_i us1 e1;exact A9q (B9M h (hr r (by simp)) e1) (fun x hx=>hr x (by simp [hx])) e
  ·cases e
theorem D5C{α:Type}(f:α->Option (α⊕((List TUp×Unit)⊕(List TUp×Bool×Unit))))(s:Nat->List TUp->α)(l:List I2)(hr:∀ r∈l,B8E r)
  (hs:∀ (i:Nat) (hi:i<l.length) (us:List TUp),Ups us->f (s i us)=match L8 us l[i] with
   | some us'=>some (.inl (s (i+1) us'))
   | none=>some (.inr (.inr ([],false,()))))
  (he:∀ us,f (s l.length us)=some (.inr (.inl (us,())))):B8 (C3 f (s 0 [])) (fun m=>some (m.1,true,()))=some (W8 l):=by
 have key:∀ k i us,i+k=l.length->Ups us->B8 (C3 f (s i us)) (fun m=>some (m.1,true,()))=some (match I1 us (l.drop i) with
   | some us'=>(us',true,())
   | none=>([],false,())):=by
  intro k
  induction k with
  | zero=>
   intro i us hi hu;obtain rfl:i=l.length:=by omega
   rw [A3g,he];simp [I1,B8]
  | succ k ih=>
   intro i us hi hu;have hlt:i<l.length:=by omega
   rw [A3g,hs i hlt us hu,List.drop_eq_getElem_cons hlt];simp only [I1];cases e:L8 us l[i] with
   | none=>rfl
   | some us'=>exact ih (i+1) us' (by omega) (B9M hu (hr _ (List.getElem_mem hlt)) e)
 exact key l.length 0 [] (by omega) B3D
theorem C1l(l:List I2)(hl:l.length<=maxLen)(hr:∀ r∈l,B8E r):A2N l=some (W8 l):=by
 simp only [A2N,B63];refine D5C (A6w A9d l) (fun i us=>((i:Int),us,())) l hr (fun i hi us hu=>?_) (fun us=>by simp [A6w]);have h1:((i:Int)<(l.length:Int)):=by omega
 have h2:(0:Int)<=(i:Int):=by omega
 have hb:=A25 (hr _ (List.getElem_mem hi)).1;simp only [A6w,A0 h1,A0 h2,cond_true];rw [C7 (k:=B0q) (xs:=l) hi,D5B us _ hu (by omega),w64 (by omega) (by simp only [maxLen] at hl;omega)];simp only [A3,B7P];cases L8 us l[i]<;>rfl
theorem A5B(l:List I2)(hl:l.length<=maxLen)(hr:∀ r∈l,B8E r):R3 l=some (W8 l):=by
 simp only [R3,A62];refine D5C (A1O I6 l) (fun i us=>((i:Int),us,())) l hr (fun i hi us hu=>?_) (fun us=>by simp [A1O]);have h1:((i:Int)<(l.length:Int)):=by omega
 have h2:(0:Int)<=(i:Int):=by omega
 have hb:=A25 (hr _ (List.getElem_mem hi)).1;obtain ⟨x,hx,hx2⟩:=D8D us l[i] hu (by omega);simp only [A1O,A0 h1,A0 h2,cond_true];rw [C7 (k:=B0q) (xs:=l) hi,hx,w64 (by omega) (by simp only [maxLen] at hl;omega)];simp only [A3,B7P] at hx2 ⊢;cases e:L8 us l[i] with
 | none=>rfl
 | some us'=>
  rw [e] at hx2;rw [hx2 rfl];rfl
def A8u(l:List X0):Prop:=l.length<=1048576/\∀ s∈l,s.size<=1048576
theorem A9S{l:List X0}(h:A8u l){i:Nat}(hi:i<l.length):(rd .str l (i:Int)).size<=1048576:=by
 rw [A7Q hi];exact h.2 _ (List.getElem_mem hi)
theorem C7c{s:X0}(h:(D9 s).2.1=true):B8E (D9 s).1:=by
 unfold D9 at h ⊢;split at h
 ·rename_i hg;rw [if_pos hg];simp only [B3A,Bool.and_eq_true] at hg;exact ⟨hg.1.2,C6B (B39 s)⟩
 ·cases h
theorem E4U(d:G0)(h:A8u d.1)(l:Int×Int×List I2×Unit)(h0:0<=l.2.1):A6v A2L d l=A0F M4 d l:=by
 simp only [A6v,A0F];by_cases hi:l.2.1<(d.1.length:Int)
 ·obtain ⟨i,hn⟩:∃ i:Nat,l.2.1=(i:Int):=⟨l.2.1.toNat,by omega⟩;rw [hn] at hi ⊢;rw [A9o _ (A9S h (by omega)),B9K _ (A9S h (by omega))]
 ·rw [A4 hi];rfl
theorem E3N(d:G0)(h:A8u d.1):∃ l,A0f d=some (l,())/\A2M d=some (l,())/\l.length<=d.1.length/\∀ r∈l,B8E r:=by
 have hl:=h.1;obtain ⟨z,e,hz1,hz2⟩:=P0 (A0F M4 d) (fun l=>((d.1.length:Int)-l.2.1).toNat) (fun l=>0<=l.2.1/\(List.length l.2.2.1:Int)=l.2.1/\l.2.1<=(d.1.length:Int)/\∀ r∈l.2.2.1,B8E r)
  (fun z=>List.length z.1<=d.1.length/\∀ r∈z.1,B8E r) (fun l hl=>by
   obtain ⟨h0,h1,h2,h3⟩:=hl;simp only [A0F];by_cases hi:l.2.1<(d.1.length:Int)
   ·obtain ⟨i,hn⟩:∃ i:Nat,l.2.1=(i:Int):=⟨l.2.1.toNat,by omega⟩;rw [A0 hi,A0 h0];simp only [cond_true];rw [hn] at hi h0 h1 h2 ⊢;rw [A9o _ (A9S h (by omega))];simp only [A3];have hg:=@C7c (rd .str d.1 (i:Int));generalize D9 (rd .str d.1 (i:Int))=g at hg ⊢;have fin:List.length l.2.2.1<=d.1.length/\∀ r∈l.2.2.1,B8E r:=⟨by omega,h3⟩;cases hk:g.2.1 with
    | false=>exact .inr ⟨_,rfl,fin⟩
    | true=>
     simp only [Bool.not_true,cond_false];by_cases e1:g.1.2.1=(i:Int)
     ·rw [A0 e1];by_cases e2:g.1.1<l.1
      ·rw [A0 e2];exact .inr ⟨_,rfl,fin⟩
      ·rw [A4 e2];simp only [Bool.not_true,cond_false];rw [A0 (by simp;omega),A0 (by simp;omega),w64 (by omega) (by omega)];refine .inl ⟨_,rfl,⟨by simp only;omega,by simp;omega,by simp only;omega,fun r hr=>?_⟩,by simp only;omega⟩;rcases List.mem_append.1 hr with hr | hr
       ·exact h3 r hr
       ·rw [List.mem_singleton.1 hr];exact hg hk
     ·rw [A4 e1];exact .inr ⟨_,rfl,fin⟩
   ·rw [A4 hi];exact .inr ⟨_,rfl,by simp only;omega,h3⟩) (0,0,[],()) ⟨by simp,by simp,by simp,fun r hr=>by cases hr⟩
 refine ⟨z.1,e,?_,hz1,hz2⟩;simp only [A2M,B62];rw [B37 (g:=A0F M4 d) (fun l=>0<=l.2.1) (fun l h0=>E4U d h l h0) (fun l y h0 e=>?_) (by simp)]
 ·exact e
 ·simp only [A6v] at e;by_cases hi:l.2.1<(d.1.length:Int)
  ·obtain ⟨i,hn⟩:∃ i:Nat,l.2.1=(i:Int):=⟨l.2.1.toNat,by omega⟩;rw [A0 hi,A0 h0] at e;simp only [cond_true] at e;rw [hn] at hi h0 e;rw [B9K _ (A9S h (by omega))] at e;simp only [A3] at e;rw [w64 (n:=(i:Int)+1) (by omega) (by omega)] at e;generalize D9 (rd .str d.1 (i:Int))=g at e;cases hk:g.2.1<;>simp only [hk,Bool.not_true,Bool.not_false,cond_true,cond_false] at e
   ·cases e
   ·revert e;cases decide (g.1.2.1=(i:Int))<;>cases decide (g.1.1<l.1)<;>simp only [Bool.not_true,Bool.not_false,cond_true,cond_false]
    ·intro e;cases e
    ·intro e;cases e
    ·cases decide (List.length l.2.2.1+List.length [g.1]<=9223372036854775807)<;>cases decide ((List.length l.2.2.1+List.length [g.1])*72<=140737488355328)<;>intro e
     ·cases e
     ·cases e
     ·cases e
     ·simp only [cond_true] at e;injection e with e;injection e with e;subst e
      simp only;omega
    ·intro e;cases e
  ·rw [A4 hi] at e;cases e
theorem C6D:A3l=A0S:=rfl
theorem B9N(d:G0)(h:d.1.length<=1048576):∃ b,A0S d=some (b,())/\(b=true->d.1.length=d.2.length/\d.1.length<=200):=by
 simp only [A0S,B6G];by_cases h1:(d.1.length:Int)=(d.2.length:Int)
 ·rw [A0 h1];by_cases h2:(d.1.length:Int)>200
  ·rw [A0 h2];exact ⟨_,rfl,fun e=>by cases e⟩
  ·rw [A4 h2];simp only [Bool.not_true,cond_false,B8];refine ⟨_,C1k (A2S d) d.1.length (by simp only [maxLen];omega) (fun i=>!decide (((rd .str d.1 (i:Int)).size:Int)>64)&&!decide (((rd .str d.2 (i:Int)).size:Int)>64)) (fun i hi=>?_) (by simp [A2S]),fun _=>by omega⟩;have g1:((i:Int)<(d.1.length:Int)):=by omega
   have g2:(0:Int)<=(i:Int):=by omega
   have g3:((i:Int)<(d.2.length:Int)):=by omega
   simp only [A2S,A0 g1,A0 g2,A0 g3,cond_true];cases decide (((rd .str d.1 (i:Int)).size:Int)>64)<;>cases decide (((rd .str d.2 (i:Int)).size:Int)>64)<;>rfl
 ·rw [A4 h1];exact ⟨_,rfl,fun e=>by cases e⟩
def A9T(a b:TUp):Bool:=(a.1.toList == b.1.toList)&&decide (a.2.1=b.2.1)&&(a.2.2.2 == b.2.2.2)&&((strOf a.2.2.1).toList == (strOf b.2.2.1).toList)
def A2u(a b:List TUp):Bool:=decide (a.length=b.length)&&(List.range a.length).all fun i=>A9T (rd kUp a (i:Int)) (rd kUp b (i:Int))
theorem D8E(a b:TUp):B1g a b=some (A9T a b,()):=by
 simp only [B1g,C2t,A9B,B3l,A3,A9T];cases (a.1.toList == b.1.toList)<;>cases decide (a.2.1=b.2.1)<;>cases (a.2.2.2 == b.2.2.2)<;>rfl
theorem E4V(a b:List TUp)(h:a.length<=maxLen):C6 a b ()=some (A2u a b,()):=by
 simp only [C6,F9,A2u];by_cases hl:a.length=b.length
 ·rw [A0 (show (a.length:Int)=(b.length:Int) by omega),A0 hl];simp only [Bool.not_true,cond_false,Bool.true_and];refine C1k _ a.length h (fun i=>A9T (rd kUp a (i:Int)) (rd kUp b (i:Int))) (fun i hi=>?_) (by simp [F3]);have g1:((i:Int)<(a.length:Int)):=by omega
  have g2:(0:Int)<=(i:Int):=by omega
  have g3:((i:Int)<(b.length:Int)):=by omega
  simp only [F3,A0 g1,A0 g2,A0 g3,cond_true,D8E,A3];cases A9T (rd kUp a (i:Int)) (rd kUp b (i:Int))<;>rfl
 ·rw [A4 (show ¬ (a.length:Int)=(b.length:Int) by omega),A4 hl];rfl
theorem D5D(a b:List TUp)(h:a.length<=maxLen):A3w a b=some (A2u a b,()):=by
 simp only [A3w,B1t,A2u];by_cases hl:a.length=b.length
 ·rw [A0 (show (a.length:Int)=(b.length:Int) by omega),A0 hl];simp only [Bool.not_true,cond_false,Bool.true_and];refine C1k _ a.length h (fun i=>A9T (rd kUp a (i:Int)) (rd kUp b (i:Int))) (fun i hi=>?_) (by simp [A8i]);have g1:((i:Int)<(a.length:Int)):=by omega
  have g2:(0:Int)<=(i:Int):=by omega
  have g3:((i:Int)<(b.length:Int)):=by omega
  simp only [A8i,A0 g1,A0 g2,A0 g3,cond_true,A9T];cases ((rd kUp a (i:Int)).1.toList == (rd kUp b (i:Int)).1.toList)<;>cases decide ((rd kUp a (i:Int)).2.1=(rd kUp b (i:Int)).2.1)<;>cases ((rd kUp a (i:Int)).2.2.2 == (rd kUp b (i:Int)).2.2.2)<;>cases ((strOf (rd kUp a (i:Int)).2.2.1).toList == (strOf (rd kUp b (i:Int)).2.2.1).toList)<;>rfl
 ·rw [A4 (show ¬ (a.length:Int)=(b.length:Int) by omega),A4 hl];rfl
def A5C(e:Int)(s:X0):Bool:=(D9 s).2.1&&decide ((D9 s).1.1>=e)
def A6Q(t:Int)(s:X0):Int:=bif (D9 s).2.1 then (bif decide ((D9 s).1.1>t) then (D9 s).1.1 else t) else t
def A48(l:List X0):Int:=l.foldl A6Q (-1)
theorem C0v(e:Int):∀ (l:List X0) (t:Int),decide (l.foldl A6Q t<e)=(decide (t<e)&&l.all fun s=>!A5C e s)
 | [],t=>(Bool.and_true _).symm
 | s::l,t=>by
  rw [List.foldl_cons,C0v e l,List.all_cons];unfold A6Q A5C;cases (D9 s).2.1 with
  | false=>simp
  | true=>
   simp only [cond_true,Bool.true_and];by_cases h1:(D9 s).1.1>t
   ·rw [A0 h1];by_cases h2:(D9 s).1.1>=e
    ·rw [A0 h2];simp only [cond_true];rw [A4 (show ¬ (D9 s).1.1<e by omega)];simp
    ·rw [A4 h2];simp only [cond_true];rw [A0 (show (D9 s).1.1<e by omega),A0 (show t<e by omega)];simp
   ·rw [A4 h1];simp only [cond_false];by_cases h3:t<e
    ·rw [A0 h3,A4 (show ¬ (D9 s).1.1>=e by omega)];simp
    ·rw [A4 h3];simp
theorem C4L(l:List X0)(h:A8u l):A3o l=some (A48 l,()):=by
 have hl:=h.1;simp only [A3o,B8t];have key:=E0 (A99 A2L l) (fun i=>((l.take i).foldl A6Q (-1),(i:Int),())) l.length (A48 l,()) (fun i hi=>?_) ?_
 ·simpa using key
 ·have g1:((i:Int)<(l.length:Int)):=by omega
  have g2:(0:Int)<=(i:Int):=by omega
  simp only [A99,A0 g1,A0 g2,cond_true];rw [B9K _ (A9S h hi),w64 (by omega) (by omega)];simp only [A3];have e:(l.take (i+1)).foldl A6Q (-1)=A6Q ((l.take i).foldl A6Q (-1)) (rd .str l (i:Int)):=by
   rw [List.take_succ_eq_append_getElem hi,List.foldl_append,A7Q hi];rfl
  rw [e];unfold A6Q;cases (D9 (rd .str l (i:Int))).2.1<;>rfl
 ·simp [A99,A48]
theorem D1B(go:Nat->Bool)(n:Nat):decide (V3 go 0 n=n)=(List.range n).all go:=by
 rw [Bool.eq_iff_iff];simp only [decide_eq_true_eq,List.all_eq_true,List.mem_range];constructor
 ·intro h j hj;exact B3B go n 0 j (by omega) (by omega)
 ·intro h;exact B3C go n n (Nat.le_refl _) h (fun h=>by omega)
theorem D5E(st:A6)(h:A8u st.1.1)(n:Nat)(hn:n<=st.1.1.length):C3 (A3A M4 st) ((n:Int),())=some ((st.1.1.drop n).all fun s=>!A5C st.2.1 s,()):=by
 have hl:=h.1;have key:=A6P (A3A M4 st) (fun j=>(((n+j:Nat):Int),())) (st.1.1.length-n) (fun j=>(decide (j=st.1.1.length-n),())) (fun j=>!A5C st.2.1 (rd .str st.1.1 ((n+j:Nat):Int))) (fun j hj=>?_) ?_
 ·have e:C3 (A3A M4 st) ((n:Int),())=_:=key;rw [e,D1B]
  congr 2
  rw [Bool.eq_iff_iff];simp only [List.all_eq_true,List.mem_range];constructor
  ·intro h2 s hs;obtain ⟨j,hj,rfl⟩:=List.getElem_of_mem hs;rw [List.length_drop] at hj;have:=h2 j hj;rw [A7Q (by omega)] at this;rw [List.getElem_drop];exact this
  ·intro h2 j hj;rw [A7Q (by omega)];refine h2 _ ?_;rw [List.mem_iff_getElem];exact ⟨j,by rw [List.length_drop];omega,by rw [List.getElem_drop]⟩
 ·have g1:(((n+j:Nat):Int)<(st.1.1.length:Int)):=by omega
  have g2:(0:Int)<=((n+j:Nat):Int):=by omega
  simp only [A3A,A0 g1,A0 g2,cond_true];rw [A9o _ (A9S h (by omega)),w64 (by omega) (by omega)];simp only [A3,A5C];rw [A4 (show ¬ j=st.1.1.length-n by omega)];have e2:n+(j+1)=(n+j)+1:=by omega
  simp only [e2,Int.natCast_succ];cases (D9 (rd .str st.1.1 ((n+j:Nat):Int))).2.1<;>cases decide ((D9 (rd .str st.1.1 ((n+j:Nat):Int))).1.1>=st.2.1)<;>rfl
 ·have g1:¬ (((n+(st.1.1.length-n):Nat):Int)<(st.1.1.length:Int)):=by omega
  simp only [A3A,A4 g1,cond_false];simp
def D1C(st:A6):Prop:=0<=st.2.1/\st.2.1<=10000/\st.1.1.length=st.1.2.length/\st.1.1.length<=200/\(0<=st.2.2.1/\st.2.2.1<=(st.1.1.length:Int))/\∃ us,Ups us/\A2u us st.2.2.2=true
theorem D1D(st:A6)(h:A8u st.1.1):∃ b,E7 st=some (b,())/\A3p st=some (b,())/\(b=true->D1C st):=by
 have hl:=h.1;obtain ⟨bd,hd,hdt⟩:=B9N st.1 hl;obtain ⟨l,hs,hi,hll,hrg⟩:=E3N st.1 h;have hfs:=A5B l (by simp only [maxLen];omega) hrg;have hfi:=C1l l (by simp only [maxLen];omega) hrg;have hups:(W8 l).2.1=true->Ups (W8 l).1:=by
  intro e;unfold W8 at e ⊢;split
  ·rename_i us' e1;exact A9q B3D hrg e1
  ·rename_i e1;rw [e1] at e;cases e
 simp only [E7,B2u,A3p,B8u,C6D,hd,hs,hi,hfs,hfi,A3j,B2k,P7,P3,A3];cases bd with
 | false=>
  by_cases he:0<=st.2.1/\st.2.1<=10000
  ·rw [A0 he];exact ⟨_,rfl,rfl,fun e=>by cases e⟩
  ·rw [A4 he];exact ⟨_,rfl,rfl,fun e=>by cases e⟩
 | true=>
  cases he':decide (0<=st.2.1/\st.2.1<=10000) with
  | false=>exact ⟨_,rfl,rfl,fun e=>by cases e⟩
  | true=>
   have he:=of_decide_eq_true he';have hd2:=hdt rfl;simp only [Bool.not_true,cond_false,B8];generalize hf:W8 l=fr at hups;cases hk:fr.2.1 with
   | false=>exact ⟨_,rfl,rfl,fun e=>by cases e⟩
   | true=>
    have hu:=hups hk;have hul:=hu.2.1;rw [D5D _ _ (show fr.1.length<=maxLen by simp only [maxLen];omega),E4V _ _ (show fr.1.length<=maxLen by simp only [maxLen];omega)];simp only [Bool.not_true,cond_false];cases hn':decide (st.2.2.1=(List.length l:Int)) with
    | false=>
     cases A2u fr.1 st.2.2.2<;>exact ⟨_,rfl,rfl,fun e=>by cases e⟩
    | true=>
     have hn:=of_decide_eq_true hn';cases hsm:A2u fr.1 st.2.2.2 with
     | false=>exact ⟨_,rfl,rfl,fun e=>by cases e⟩
     | true=>
      have hg:D1C st:=⟨he.1,he.2,hd2.1,hd2.2,by omega,fr.1,hu,hsm⟩;simp only [Bool.not_true,cond_false];rw [hn,D5E st h l.length hll,A0 (show (0:Int)<=(List.length l:Int) by omega),A0 (show (List.length l:Int)<=(st.1.1.length:Int) by omega),Int.toNat_natCast,List.take_length];simp only [cond_true];have hdr:A8u (st.1.1.drop l.length):=⟨by rw [List.length_drop];omega,fun s hs=>h.2 s (List.mem_of_mem_drop hs)⟩;rw [C4L _ hdr];have htop:decide (st.2.1>A48 (st.1.1.drop l.length))=((st.1.1.drop l.length).all fun s=>!A5C st.2.1 s):=by
       have:=C0v st.2.1 (st.1.1.drop l.length) (-1);rw [A0 (show (-1:Int)<st.2.1 by omega),Bool.true_and] at this;exact this
      simp only [htop];by_cases hl0:(List.length l:Int)>0
      ·rw [A0 hl0,w64 (n:=(List.length l:Int)-1) (by omega) (by omega),A0 (show (0:Int)<=(List.length l:Int)-1 by omega),A0 (show (List.length l:Int)-1<(List.length l:Int) by omega)];simp only [cond_true];have hlt:decide (st.2.1<(rd B0q l ((List.length l:Int)-1)).1)=decide ((rd B0q l ((List.length l:Int)-1)).1>st.2.1):=rfl;rw [hlt];cases decide ((rd B0q l ((List.length l:Int)-1)).1>st.2.1) with
       | true=>exact ⟨_,rfl,rfl,fun e=>by cases e⟩
       | false=>exact ⟨_,rfl,rfl,fun _=>hg⟩
      ·rw [A4 hl0];exact ⟨_,rfl,rfl,fun _=>hg⟩
theorem D8F(x:B9):B8v A0v x=I7 R4 x:=by
 have e:A0v=R4:=by funext r;rw [B9G,A9m]
 rw [e];rfl
theorem E8d(x:B9)(h:x.2.length<=1048576):∃ z,C3 (I7 R4 x) (0,())=some z/\(z=.inl ()\/z=.inr (false,())):=by
 have key:=A6P (I7 R4 x) (fun i=>((i:Int),())) x.2.length (fun i=>if i<x.2.length then .inr (false,()) else .inl ()) (fun i=>V9 (rd A9 x.2 (i:Int)).2) (fun i hi=>?_) ?_
 ·refine ⟨_,key,?_⟩;split
  ·exact .inr rfl
  ·exact .inl rfl
 ·have g1:((i:Int)<(x.2.length:Int)):=by omega
  have g2:(0:Int)<=(i:Int):=by omega
  simp only [I7,A0 g1,A0 g2,cond_true,A9m,A3,if_pos hi];rw [w64 (by omega) (by omega)];cases V9 (rd A9 x.2 (i:Int)).2<;>rfl
 ·simp [I7]
theorem B3F(x:B9)(h:A8u x.1.1.1)(h2:x.2.length<=1048576):∃ b,J5 x=some (b,())/\A4P x=some (b,())/\(b=true->E7 x.1=some (true,())/\D1C x.1/\x.2.length<=200):=by
 obtain ⟨z,hz,hz2⟩:=E8d x h2;obtain ⟨b,hs,hi,hg⟩:=D1D x.1 h;simp only [J5,A7G,A4P,B64,D8F,hz,hs,hi];rcases hz2 with rfl | rfl
 ·by_cases hl:(x.2.length:Int)<=200
  ·rw [A0 hl];exact ⟨b,rfl,rfl,fun e=>⟨by rw [e],hg e,by omega⟩⟩
  ·rw [A4 hl];exact ⟨_,rfl,rfl,fun e=>by cases e⟩
 ·exact ⟨_,rfl,rfl,fun e=>by cases e⟩
theorem E8e{N:Nat}{e:Nat}{l:List X0}(hN:N<=1048576)(h:Sm N (.sl e .str) l):A8u l:=⟨by have:l.length<=N:=h.1;omega,fun s hs=>by have:s.size<=N:=h.2 s hs;omega⟩
theorem F02{k:K}{b:List k.T}{i:Nat}(h:i<b.length)(u:k.T):rd k (b.set i u) (i:Int)=u:=by
 rw [C7 (xs:=b.set i u) (by simpa using h)];simp
theorem C6E(a:List X0)(h:a.length<=1048576):G7 a=some (a,()):=by
 simp only [G7,A0R];have e:(bif decide (([]:List X0).length+a.length<=9223372036854775807) then bif decide ((([]:List X0).length+a.length)*16<=140737488355328) then some (([]++a),()) else none else none)=some (a,()):=by
  rw [A0 (by simp;omega),A0 (by simp;omega)];simp
 rw [e];cases a with
 | nil=>simp [B9D]
 | cons x xs=>simp
theorem D5F(a:List C1)(h:a.length<=1048576):E4 a=some (a,()):=by
 simp only [E4,R2];have e:(bif decide (([]:List C1).length+a.length<=9223372036854775807) then bif decide ((([]:List C1).length+a.length)*24<=140737488355328) then some (([]++a),()) else none else none)=some (a,()):=by
  rw [A0 (by simp;omega),A0 (by simp;omega)];simp
 rw [e];cases a with
 | nil=>simp [B9D]
 | cons x xs=>simp
def A5D(d:G0):Prop:=A8u d.1/\A8u d.2
def A8v(s:A6):Prop:=A5D s.1/\List.length s.2.2.2<=1048576/\∀ u∈s.2.2.2,List.length u.2.2.1<=2000000000
def E3O(s:B9):Prop:=A8v s.1/\List.length s.2<=1048576
theorem B40(d:G0)(h:A5D d):A0d d=some (d,()):=by
 simp only [A0d,B68,C6E _ h.1.1,C6E _ h.2.1,A3]
theorem A1l(d:G0)(h:A5D d):A0n d=some (d,()):=by
 have h1:=h.1.1;have h2:=h.2.1;simp only [A0n,B94];rw [A0 (by simp;omega),A0 (by simp;omega),A0 (by simp;omega),A0 (by simp;omega)];simp
theorem D8G(u:TUp)(h:List.length u.2.2.1<=2000000000):A8a u=some (u,()):=by
 simp only [A8a,C2v,A58 _ (show List.length u.2.2.1<=140737488355328 by omega),A3]
theorem D1E(s:A6)(h:A8v s):A4w s=some (s,()):=by
 simp only [A4w,B3o,B40 _ h.1,A3];have hl:=h.2.1;have key:=E0 (A5i A8a s) (fun i=>((i:Int),s.2.1,s.2.2.1,s.1.1,s.1.2,s.2.2.2.take i,())) s.2.2.2.length (s,()) (fun i hi=>?_) ?_
 ·simpa using key
 ·have g1:((i:Int)<(s.2.2.2.length:Int)):=by omega
  have g2:(0:Int)<=(i:Int):=by omega
  simp only [A5i,A0 g1,A0 g2,cond_true];rw [C7 (k:=kUp) (xs:=s.2.2.2) hi,D8G _ (h.2.2 _ (List.getElem_mem hi))];simp only [A3];rw [A0 (by simp;omega),A0 (by simp;omega),w64 (by omega) (by omega),List.take_succ_eq_append_getElem hi];rfl
 ·simp [A5i]
theorem A12(s:A6)(h:A8v s):K6 s=some (s,()):=by
 simp only [K6,B2s,A1l _ h.1,C3H _ h.2.1 h.2.2,A3]
theorem C8o(s:B9)(h:E3O s):A3q s=some (s,()):=by
 simp only [A3q,B1j,D1E _ h.1,D5F _ h.2,A3]
theorem B0J(s:B9)(h:E3O s):S5 s=some (s,()):=by
 have h2:=h.2;simp only [S5,B34,A12 _ h.1,A3];rw [A0 (by simp;omega),A0 (by simp;omega)];simp
theorem E0w(d:G0)(h:A5D d):A51 d=some ((d.1,d.1),()):=by
 simp only [A51,B3q,C6E _ h.1.1,A3]
theorem B6W(d:G0)(h:A5D d):A1b d=some ((d.1,d.1),()):=by
 have h1:=h.1.1;simp only [A1b,B3t];rw [A0 (by simp;omega),A0 (by simp;omega)];simp
theorem A9U(d:G0)(h:A8u d.1):A7F d=some (A48 d.1,()):=by
 have hl:=h.1;simp only [A7F,B6M];have key:=E0 (A7E M4 d) (fun i=>((d.1.take i).foldl A6Q (-1),(i:Int),())) d.1.length (A48 d.1,()) (fun i hi=>?_) ?_
 ·simpa using key
 ·have g1:((i:Int)<(d.1.length:Int)):=by omega
  have g2:(0:Int)<=(i:Int):=by omega
  simp only [A7E,A0 g1,A0 g2,cond_true];rw [A9o _ (A9S h hi),w64 (by omega) (by omega)];simp only [A3];have e:(d.1.take (i+1)).foldl A6Q (-1)=A6Q ((d.1.take i).foldl A6Q (-1)) (rd .str d.1 (i:Int)):=by
   rw [List.take_succ_eq_append_getElem hi,List.foldl_append,A7Q hi];rfl
  rw [e];generalize (d.1.take i).foldl A6Q (-1)=t;unfold A6Q;cases (D9 (rd .str d.1 (i:Int))).2.1
  ·rfl
  ·cases decide ((D9 (rd .str d.1 (i:Int))).1.1>t)<;>rfl
 ·simp [A7E,A48]
theorem D3h(d:G0)(h:A8u d.1):A78 d=some (A48 d.1,()):=by
 simp only [A78,B6B,C4L _ h,A3]
theorem D6I(s:X0):(D9 s).1.1<=10000:=by
 unfold D9;split
 ·rename_i h;simp only [B3A,Bool.and_eq_true] at h;exact (A25 h.1.2).2.1
 ·simp [E3L]
theorem D04(l:List X0):-1<=A48 l/\A48 l<=10000:=by
 unfold A48;have:∀ (l:List X0) (t:Int),-1<=t/\t<=10000->-1<=l.foldl A6Q t/\l.foldl A6Q t<=10000:=by
  intro l
  induction l with
  | nil=>exact fun t h=>h
  | cons s l ih=>
   intro t h;refine ih _ ?_;have h2:=D6I s;unfold A6Q;cases (D9 s).2.1 with
   | false=>exact h
   | true=>
    by_cases h3:(D9 s).1.1>t
    ·rw [A0 h3];simp only [cond_true];omega
    ·rw [A4 h3];exact h
 exact this l (-1) (by omega)
theorem B9O{l:List X0}(h:A8u l)(i:Nat){s:X0}(hs:s.size<=1048576):A8u (l.set i s):=⟨by rw [List.length_set];exact h.1,fun x hx=>(List.mem_or_eq_of_mem_set hx).elim (h.2 x) (fun e=>by rw [e];exact hs)⟩
theorem E8f(d:G0)(k:List Bool)(h:A5D d):∃ d',Q9 d k=some (d',())/\A4V d k=some (d',())/\A5D d':=by
 obtain ⟨b,hb,hb2⟩:=B9N d h.1.1;have hl:=h.1.1;simp only [Q9,B11,A4V,B6C,A1l d h,B40 d h,C6D,hb,A3];cases b with
 | false=>exact ⟨d,rfl,rfl,h⟩
 | true=>
  have hlen:=(hb2 rfl).1;simp only [Bool.not_true,cond_false];have step:∀ l:Int×List X0×List X0×Unit,0<=l.1/\l.2.1.length=d.1.length/\l.2.2.1.length=d.1.length/\A8u l.2.1/\A8u l.2.2.1->
    (∃ y:Int×List X0×List X0×Unit,L3 k l=some (.inl y)/\(0<=y.1/\y.2.1.length=d.1.length/\y.2.2.1.length=d.1.length/\A8u y.2.1/\A8u y.2.2.1)/\((d.1.length:Int)-y.1).toNat<((d.1.length:Int)-l.1).toNat)\/
    ∃ z,L3 k l=some (.inr z)/\A5D z.1:=by
   intro l ⟨h0,h1,h2,h3,h4⟩;simp only [L3,h1,h2];by_cases hi:l.1<(d.1.length:Int)
   ·obtain ⟨i,hn⟩:∃ i:Nat,l.1=(i:Int):=⟨l.1.toNat,by omega⟩;rw [hn] at hi h0 ⊢;have s1:=A9S h3 (i:=i) (by omega);have s2:=A9S h4 (i:=i) (by omega);rw [A0 hi,A0 h0,w64 (by omega) (by omega)];simp only [cond_true,Int.toNat_natCast];refine .inl ?_;by_cases hk:(i:Int)<(k.length:Int)
    ·rw [A0 hk];simp only [cond_true,A3];cases rd .bool k (i:Int) with
     | true=>exact ⟨_,rfl,⟨by simp only;omega,h1,by simp [h2],h3,B9O h4 i s1⟩,by simp only;omega⟩
     | false=>exact ⟨_,rfl,⟨by simp only;omega,by simp [h1],h2,B9O h3 i s2,h4⟩,by simp only;omega⟩
    ·rw [A4 hk];simp only [cond_false,A3];exact ⟨_,rfl,⟨by simp only;omega,by simp [h1],h2,B9O h3 i s2,h4⟩,by simp only;omega⟩
   ·rw [A4 hi];exact .inr ⟨_,rfl,h3,h4⟩
  have h0:0<=(0:Int)/\d.1.length=d.1.length/\d.2.length=d.1.length/\A8u d.1/\A8u d.2:=⟨by omega,rfl,hlen.symm,h.1,h.2⟩;obtain ⟨z,e,hz⟩:=P0 (L3 k) (fun l=>((d.1.length:Int)-l.1).toNat) _ (fun z=>A5D z.1) step (0,d.1,d.2,()) h0;refine ⟨z.1,e,?_,hz⟩;rw [B37 (g:=L3 k) (fun l=>0<=l.1/\l.2.1.length=d.1.length/\l.2.2.1.length=d.1.length/\A8u l.2.1/\A8u l.2.2.1) (fun l hl=>?_) (fun l y hl ey=>?_) h0]
  ·exact e
  ·simp only [A79,L3,hl.2.1]
  ·have e3:A79 (d,()) k l=L3 k l:=by simp only [A79,L3,hl.2.1]
   rw [e3] at ey;rcases step l hl with ⟨y',e1,e2,_⟩ | ⟨z',e1,_⟩
   ·rw [e1] at ey;injection ey with ey;injection ey with ey;subst ey;exact e2
   ·rw [e1] at ey;injection ey with ey;cases ey
theorem E8g(d:G0)(h:A5D d):∃ st b,C5 d=some (st,b,())/\A1a d=some (st,b,())/\A5D st.1/\Ups st.2.2.2:=by
 have hl:=h.1.1;obtain ⟨bd,hd,hdt⟩:=B9N d hl;obtain ⟨l,hs,hi,hll,hrg⟩:=E3N d h.1;have hfs:=A5B l (by simp only [maxLen];omega) hrg;have hfi:=C1l l (by simp only [maxLen];omega) hrg;have htop:=D04 d.1;have h00:A5D ([],[]):=⟨⟨by simp,fun s hs=>by cases hs⟩,⟨by simp,fun s hs=>by cases hs⟩⟩;have hups:(W8 l).2.1=true->Ups (W8 l).1:=by
  intro e;unfold W8 at e ⊢;split
  ·rename_i us' e1;exact A9q B3D hrg e1
  ·rename_i e1;rw [e1] at e;cases e
 simp only [C5,U4,A1a,B3s,C6D,hd,hs,hi,hfs,hfi,A9U d h.1,D3h d h.1,A1l d h,B40 d h,A3];cases bd with
 | false=>exact ⟨_,_,rfl,rfl,h00,B3D⟩
 | true=>
  simp only [Bool.not_true,cond_false];generalize W8 l=fr at hups;cases hk:fr.2.1 with
  | false=>exact ⟨_,_,rfl,rfl,h00,B3D⟩
  | true=>
   rw [w64 (n:=A48 d.1+1) (by omega) (by omega)];cases decide (A48 d.1+1>10000) with
   | true=>exact ⟨_,_,rfl,rfl,h00,B3D⟩
   | false=>exact ⟨_,_,rfl,rfl,h,hups hk⟩
def B6a(op:Int):Int:=if op=1 then 1000000000 else if op=3 then 1000000000 else if op=4 then 4294967295 else 0
def A26(r:A0t):Bool:=decide (1<=r.1/\r.1<=6)&&idB r.2.1&&decide (0<=r.2.2/\r.2.2<=B6a r.1)
theorem B6b(r:A0t)(h:r.2.1.size<=maxLen):A3C r=some (A26 r,()):=by
 simp only [A3C,C64,P7,B20 _ h,A3,A26,A0p,A9j,B6a];cases decide (1<=r.1/\r.1<=6)
 ·rfl
 cases idB r.2.1
 ·rfl
 simp only [Bool.not_true,cond_false,B8,Bool.true_and];have hz:decide (0<=r.2.2/\r.2.2<=0)=decide (r.2.2=0):=by
  by_cases h0:r.2.2=0
  ·rw [A0 h0,A0 (by omega)]
  ·rw [A4 h0,A4 (by omega)]
 by_cases h1:r.1=1
 ·simp [h1]
 by_cases h3:r.1=3
 ·simp [h3]
 by_cases h4:r.1=4
 ·simp [h4]
 simp [h1,h3,h4];rw [Bool.eq_iff_iff];simp;omega
theorem D1F(r:A0t)(h:r.2.1.size<=maxLen):A6J r=some (A26 r,()):=by
 simp only [A6J,C5v,P3,B6T _ h,A3,A26,A5g,B09,B6a];by_cases h1:r.1=1
 ·simp [h1];cases idB r.2.1<;>simp
 by_cases h3:r.1=3
 ·simp [h3];cases idB r.2.1<;>simp
 by_cases h4:r.1=4
 ·simp [h4];cases idB r.2.1<;>simp
 simp only [A4 h1,A4 h3,A4 h4,if_neg h1,if_neg h3,if_neg h4,cond_false];cases decide (1<=r.1/\r.1<=6)<;>cases idB r.2.1<;>simp
def D1G(n:Nat)(h:C1):Bool:=V9 h.2&&decide (0<=h.1/\h.1<=(n:Int)-1)
def A27(n:Nat)(l:List C1):Bool:=(List.range l.length).all fun i=>D1G n (rd A9 l (i:Int))
theorem B4a(w:A5)(l:List C1)(h:l.length<=maxLen)(hc:w.2.1.length<=1048576):B1v w l=some (A27 w.2.1.length l,()):=by
 simp only [B1v,C3B,A27];refine C1k _ l.length h (fun i=>D1G w.2.1.length (rd A9 l (i:Int))) (fun i hi=>?_) (by simp [B6N]);have g1:((i:Int)<(l.length:Int)):=by omega
 have g2:(0:Int)<=(i:Int):=by omega
 simp only [B6N,A0 g1,A0 g2,cond_true,P7,A9m,A3,D1G];rw [w64 (n:=(w.2.1.length:Int)-1) (by omega) (by omega)];cases decide (0<=(rd A9 l (i:Int)).1/\(rd A9 l (i:Int)).1<=(w.2.1.length:Int)-1)<;>cases V9 (rd A9 l (i:Int)).2<;>rfl
theorem D8H(w:A5)(l:List C1)(h:l.length<=maxLen)(hc:w.2.1.length<=1048576):B1h w l=some (A27 w.2.1.length l,()):=by
 simp only [B1h,C2u,A27];refine C1k _ l.length h (fun i=>D1G w.2.1.length (rd A9 l (i:Int))) (fun i hi=>?_) (by simp [B66]);have g1:((i:Int)<(l.length:Int)):=by omega
 have g2:(0:Int)<=(i:Int):=by omega
 simp only [B66,A0 g1,A0 g2,cond_true,P3,B9G,A3,D1G];rw [w64 (n:=(w.2.1.length:Int)-1) (by omega) (by omega)];cases decide (0<=(rd A9 l (i:Int)).1/\(rd A9 l (i:Int)).1<=(w.2.1.length:Int)-1)<;>cases V9 (rd A9 l (i:Int)).2<;>rfl
def D8I(w:A5):Prop:=w.2.1.length<=1048576/\∀ c∈w.2.1,c.1.size<=maxLen
theorem B9P(w:A5)(h:D8I w)(i:Nat)(hi:i<w.2.1.length):∃ z,C3 (I4 ((i:Int),()) w) (0,())=some z/\(z=.inl ((i:Int)+1,())\/z=.inr (.inr (false,()))):=by
 have hl:=h.1;refine P0 (I4 ((i:Int),()) w) (fun l=>((i:Int)-l.1).toNat) (fun l=>0<=l.1) (fun z=>z=.inl ((i:Int)+1,())\/z=.inr (.inr (false,()))) (fun l h0=>?_) (0,()) (by simp);simp only [I4];by_cases hj:l.1<(i:Int)
 ·rw [A0 hj,A0 h0,A0 (show l.1<(w.2.1.length:Int) by omega),A0 (show (0:Int)<=(i:Int) by omega),A0 (show (i:Int)<(w.2.1.length:Int) by omega)];simp only [cond_true];rw [w64 (n:=l.1+1) (by omega) (by omega)];cases ((rd B3 w.2.1 l.1).1.toList == (rd B3 w.2.1 (i:Int)).1.toList)
  ·exact .inl ⟨_,rfl,by simp only;omega,by simp only;omega⟩
  ·exact .inr ⟨_,rfl,.inr rfl⟩
 ·rw [A4 hj,w64 (n:=(i:Int)+1) (by omega) (by omega)];exact .inr ⟨_,rfl,.inl rfl⟩
theorem D8J(w:A5)(h:D8I w)(i:Nat)(hi:i<w.2.1.length):C3 (A5d w ((i:Int),())) (0,())=C3 (I4 ((i:Int),()) w) (0,()):=by
 have hl:=h.1;have hlen:((w.2.1.take i).drop 0).length=i:=by simp;omega
 refine B37 (fun l=>0<=l.1) (fun l h0=>?_) (fun l y h0 e=>?_) (by simp)
 ·simp only [A5d,I4,Int.toNat_natCast,hlen];by_cases hj:l.1<(i:Int)
  ·obtain ⟨j,hn⟩:∃ j:Nat,l.1=(j:Int):=⟨l.1.toNat,by omega⟩;rw [hn] at hj h0 ⊢;rw [A0 hj,A0 h0,A0 (show (j:Int)<(w.2.1.length:Int) by omega),A0 (show (0:Int)<=(i:Int) by omega),A0 (show (i:Int)<(w.2.1.length:Int) by omega)];simp only [cond_true];have e:rd B3 ((w.2.1.take i).drop 0) (j:Int)=rd B3 w.2.1 (j:Int):=by
    rw [C7 (k:=B3) (xs:=(w.2.1.take i).drop 0) (by rw [hlen];omega),C7 (k:=B3) (xs:=w.2.1) (by omega)];simp
   rw [e]
  ·rw [A4 hj];rfl
 ·simp only [A5d,Int.toNat_natCast,hlen] at e;by_cases hj:l.1<(i:Int)
  ·rw [A0 hj,A0 h0] at e;simp only [cond_true] at e;rw [w64 (n:=l.1+1) (by omega) (by omega)] at e;revert e;cases ((rd B3 ((w.2.1.take i).drop 0) l.1).1.toList == (rd B3 w.2.1 (i:Int)).1.toList)
   ·intro e;simp only [cond_false] at e;injection e with e;injection e with e;subst e
    simp only;omega
   ·intro e;simp only [cond_true] at e;injection e with e;cases e
  ·rw [A4 hj] at e;simp only [cond_false] at e;injection e with e;cases e
theorem C4M(w:A5)(h:D8I w)(l:Int×Unit)(h0:0<=l.1) :
  A5e O5 w l=F7 G3 w l/\((∃ y,F7 G3 w l=some (.inl y)/\y.1=l.1+1/\l.1<(w.2.1.length:Int))\/F7 G3 w l=some (.inr (.inl ()))\/F7 G3 w l=some (.inr (.inr (false,())))):=by
 have hl:=h.1;simp only [A5e,F7];by_cases hi:l.1<(w.2.1.length:Int)
 ·obtain ⟨i,hn⟩:∃ i:Nat,l.1=(i:Int):=⟨l.1.toNat,by omega⟩;obtain ⟨l1,u⟩:=l;simp only at hn hi h0;subst hn;have hi':i<w.2.1.length:=by omega
  have hsz:(rd B3 w.2.1 (i:Int)).1.size<=maxLen:=by
   rw [C7 (k:=B3) (xs:=w.2.1) hi'];exact h.2 _ (List.getElem_mem hi')
  simp only;rw [A0 hi,A0 h0,A9R _ hsz,A1k _ hsz,A0 (show (i:Int)<=(w.2.1.length:Int) by omega),D8J w h i hi'];simp only [cond_true,A3];cases G6 (rd B3 w.2.1 (i:Int)) with
  | false=>exact ⟨trivial,.inr (.inr rfl)⟩
  | true=>
   obtain ⟨z,e,hz⟩:=B9P w h i hi';simp only [Bool.not_true,cond_false];refine ⟨trivial,?_⟩;rw [e];rcases hz with rfl | rfl
   ·exact .inl ⟨_,rfl,rfl,hi⟩
   ·exact .inr (.inr rfl)
 ·rw [A4 hi];exact ⟨rfl,.inr (.inl rfl)⟩
theorem C3I(w:A5)(h:D8I w):∃ b,L4 w=some (b,())/\A4u w=some (b,())/\(b=true->w.2.1.length<=6/\w.2.2.1.length=w.2.1.length/\w.2.2.2.2.2.length=w.2.1.length):=by
 have hl:=h.1;have e1:C3 (A5e O5 w) (0,())=C3 (F7 G3 w) (0,()):=by
  refine B37 (fun l=>0<=l.1) (fun l h0=>(C4M w h l h0).1) (fun l y h0 e=>?_) (by simp);rw [(C4M w h l h0).1] at e;rcases (C4M w h l h0).2 with ⟨y',e2,e3,_⟩ | e2 | e2
  ·rw [e2] at e;injection e with e;injection e with e;subst e;omega
  ·rw [e2] at e;injection e with e;cases e
  ·rw [e2] at e;injection e with e;cases e
 obtain ⟨z,e2,hz⟩:=P0 (F7 G3 w) (fun l=>((w.2.1.length:Int)-l.1).toNat) (fun l=>0<=l.1) (fun z=>z=.inl ()\/z=.inr (false,())) (fun l h0=>by
  rcases (C4M w h l h0).2 with ⟨y',e2,e3,e4⟩ | e2 | e2
  ·exact .inl ⟨y',e2,by omega,by omega⟩
  ·exact .inr ⟨_,e2,.inl rfl⟩
  ·exact .inr ⟨_,e2,.inr rfl⟩) (0,()) (by simp)
 simp only [L4,A1v,A4u,B3m,e1,e2];rcases hz with rfl | rfl
 ·simp only [B8];by_cases h1:(w.2.1.length:Int)<=6
  ·rw [A0 h1];by_cases h2:(w.2.2.1.length:Int)=(w.2.1.length:Int)
   ·rw [A0 h2];refine ⟨_,rfl,rfl,fun e=>?_⟩;have e3:=of_decide_eq_true e;omega
   ·rw [A4 h2];exact ⟨_,rfl,rfl,fun e=>by cases e⟩
  ·rw [A4 h1];exact ⟨_,rfl,rfl,fun e=>by cases e⟩
 ·exact ⟨_,rfl,rfl,fun e=>by cases e⟩
def C7d(n:Nat)(a:M6):Bool:=A26 a.2.1&&decide (0<=a.1/\a.1<=(n:Int)-1)
def E73(w:A5):Prop:=A8u w.1.1.1.1/\w.1.2.length<=1048576/\D8I w/\(w.2.2.2.1.length<=1048576/\∀ a∈w.2.2.2.1,a.2.1.2.1.size<=maxLen)/\w.2.2.2.2.1.length<=1048576
theorem C3J(w:A5)(h:E73 w):∃ b,O3 w=some (b,())/\A1J w=some (b,()):=by
 obtain ⟨h1,h2,h3,⟨h4,h4'⟩,h5⟩:=h;have hc:=h3.1;obtain ⟨bs,es,ei,_⟩:=B3F w.1 h1 h2;obtain ⟨bc,cs,ci,_⟩:=C3I w h3;have ht:=B4a w w.2.2.2.2.1 (by simp only [maxLen];omega) hc;have ht':=D8H w w.2.2.2.2.1 (by simp only [maxLen];omega) hc;have hh:=B4a w w.1.2 (by simp only [maxLen];omega) hc;have hh':=D8H w w.1.2 (by simp only [maxLen];omega) hc;have hloop:=C1k (S8 A3C E6 w) w.2.2.2.1.length (by simp only [maxLen];omega) (fun i=>C7d w.2.1.length (rd E5 w.2.2.2.1 (i:Int))) (fun i hi=>by
  have g1:((i:Int)<(w.2.2.2.1.length:Int)):=by omega
  have g2:(0:Int)<=(i:Int):=by omega
  have hsz:(rd E5 w.2.2.2.1 (i:Int)).2.1.2.1.size<=maxLen:=by
   rw [C7 (k:=E5) (xs:=w.2.2.2.1) hi];exact h4' _ (List.getElem_mem hi)
  simp only [S8,A0 g1,A0 g2,cond_true,P7,B6b _ hsz,A3,C7d];rw [w64 (n:=(w.2.1.length:Int)-1) (by omega) (by omega)];cases decide (0<=(rd E5 w.2.2.2.1 (i:Int)).1/\(rd E5 w.2.2.2.1 (i:Int)).1<=(w.2.1.length:Int)-1)<;>cases A26 (rd E5 w.2.2.2.1 (i:Int)).2.1<;>rfl) (by simp [S8])
 have istep:∀ i:Nat,i<w.2.2.2.1.length->A9D A6J D3 w ((i:Int),())=bif C7d w.2.1.length (rd E5 w.2.2.2.1 (i:Int)) then some (.inl (((i+1:Nat):Int),())) else some (.inr (.inr (false,()))):=fun i hi=>by
  have g1:((i:Int)<(w.2.2.2.1.length:Int)):=by omega
  have g2:(0:Int)<=(i:Int):=by omega
  have hsz:(rd E5 w.2.2.2.1 (i:Int)).2.1.2.1.size<=maxLen:=by
   rw [C7 (k:=E5) (xs:=w.2.2.2.1) hi];exact h4' _ (List.getElem_mem hi)
  have e1:((i+1:Nat):Int)=(i:Int)+1:=by omega
  simp only [A9D,A0 g1,A0 g2,cond_true,P3,D1F _ hsz,A3,C7d,e1];rw [w64 (n:=(w.2.1.length:Int)-1) (by omega) (by omega),w64 (n:=(i:Int)+1) (by omega) (by omega)];cases decide (0<=(rd E5 w.2.2.2.1 (i:Int)).1/\(rd E5 w.2.2.2.1 (i:Int)).1<=(w.2.1.length:Int)-1)<;>cases A26 (rd E5 w.2.2.2.1 (i:Int)).2.1<;>rfl
 simp only [O3,A6O,A1J,B8w,es,ei,cs,ci,ht,ht',hh,hh',hloop,A3];have hirest:(bif A27 w.2.1.length w.2.2.2.2.1 then bif A27 w.2.1.length w.1.2 then some (bs,()) else some (false,()) else some (false,()))=some (A27 w.2.1.length w.2.2.2.2.1&&A27 w.2.1.length w.1.2&&bs,()):=by
  cases A27 w.2.1.length w.2.2.2.2.1<;>cases A27 w.2.1.length w.1.2<;>rfl
 have hi:=E8a istep (by simp [A9D]) (fun _=>(bif A27 w.2.1.length w.2.2.2.2.1 then bif A27 w.2.1.length w.1.2 then some (bs,()) else some (false,()) else some (false,()))) _ hirest;rw [D1B] at hi;generalize ((List.range w.2.2.2.1.length).all fun i=>C7d w.2.1.length (rd E5 w.2.2.2.1 (i:Int)))=ba at hi ⊢;cases bc with
 | false=>
  cases bs<;>exact ⟨_,rfl,rfl⟩
 | true=>
  simp only [Bool.not_true,cond_false];cases decide ((w.2.2.2.1.length:Int)>60) with
  | true=>cases bs<;>exact ⟨_,rfl,rfl⟩
  | false=>
   cases decide ((w.2.2.2.2.1.length:Int)>60) with
   | true=>cases bs<;>exact ⟨_,rfl,rfl⟩
   | false=>
    simp only [cond_false];have e0:∀ g:Unit->Option (Bool×Unit),B8 (some (.inl ():Unit⊕(Bool×Unit))) g=g ():=fun g=>rfl
    simp only [e0];refine ⟨_,?_,hi⟩;cases bs<;>cases A27 w.2.1.length w.2.2.2.2.1<;>cases A27 w.2.1.length w.1.2<;>simp [B8]
theorem E4W{a b:List Int}(ha:Byt a)(hb:Byt b)(h:(strOf a).toList=(strOf b).toList):a=b:=by
 rw [ByteArray.toList_eq,ByteArray.toList_eq] at h;have h2:(a.map fun n=>UInt8.ofNat n.toNat)=b.map fun n=>UInt8.ofNat n.toNat:=h
 have hl:a.length=b.length:=by simpa using congrArg List.length h2
 refine List.ext_getElem hl fun i h1 h3=>?_
 have h4:=congrArg (fun l=>l[i]?) h2;simp only [List.getElem?_map,List.getElem?_eq_getElem h1,List.getElem?_eq_getElem h3,Option.map_some,Option.some.injEq] at h4;exact F00 (ha _ (List.getElem_mem h1)) (hb _ (List.getElem_mem h3)) h4
theorem D05{a b:X0}(h:a.toList=b.toList):a=b:=by
 rw [ByteArray.toList_eq,ByteArray.toList_eq] at h;obtain ⟨⟨a⟩⟩:=a;obtain ⟨⟨b⟩⟩:=b;have h:a=b:=h;rw [h]
theorem E4a{a b:TUp}(ha:Byt a.2.2.1)(hb:Byt b.2.2.1)(h:A9T a b=true):a=b:=by
 simp only [A9T,Bool.and_eq_true,beq_iff_eq,decide_eq_true_eq] at h;obtain ⟨⟨⟨h1,h2⟩,h3⟩,h4⟩:=h;obtain ⟨a1,a2,a3,a4⟩:=a;obtain ⟨b1,b2,b3,b4⟩:=b;simp only at h1 h2 h3 h4 ha hb;rw [D05 h1,h2,h3,E4W ha hb h4]
theorem E10{a b:List TUp}(ha:∀ u∈a,Byt u.2.2.1)(hb:∀ u∈b,Byt u.2.2.1)(h:A2u a b=true):a=b:=by
 simp only [A2u,Bool.and_eq_true,decide_eq_true_eq,List.all_eq_true,List.mem_range] at h;refine List.ext_getElem h.1 fun i h1 h3=>?_
 have h4:=h.2 i h1;rw [C7 (k:=kUp) (xs:=a) h1,C7 (k:=kUp) (xs:=b) h3] at h4;exact E4a (ha _ (List.getElem_mem h1)) (hb _ (List.getElem_mem h3)) h4
def wrote(st:A6)(r:I2)(us:List TUp):A6:=((st.1.1.set st.2.2.1.toNat (A0l r),st.1.2),st.2.1,st.2.2.1+1,us)
theorem B6c(st:A6)(a b kind:Int)(id:X0)(n:Int)(data:List Int)(hU:Ups st.2.2.2)(hr:V4 (st.2.1,st.2.2.1,kind,id,n,data)=true)(hb:Byt data)(h0:0<=st.2.2.1)(h1:st.2.2.1<(st.1.1.length:Int))(hl:st.1.1.length<=1048576)
  (us:List TUp) (hf:L8 st.2.2.2 (st.2.1,st.2.2.1,kind,id,n,data)=some us):F5 st (a,b,kind,id,n,data)=some (wrote st (st.2.1,st.2.2.1,kind,id,n,data) us,()):=by
 have hbd:=A25 hr;simp only at hbd;simp only [F5,A63];rw [C7a (st.2.1,st.2.2.1,kind,id,n,data) (by simp only;omega) (by simp only;omega) hb,A0 h0,A0 h1];simp only [A3,cond_true];obtain ⟨x,hx,hx2⟩:=D8D st.2.2.2 (st.2.1,st.2.2.1,kind,id,n,data) hU (by simp only;omega);have hI:B7P st.2.2.2 (st.2.1,st.2.2.1,kind,id,n,data)=(us,true,()):=by unfold B7P;rw [hf]
 rw [hI] at hx hx2;rw [hx,hx2 rfl,w64 (by omega) (by omega)];rfl
theorem B6d(st:A6)(kind:Int)(id:X0)(n:Int)(data:List Int)(hU:Ups st.2.2.2)(hr:V4 (st.2.1,st.2.2.1,kind,id,n,data)=true)(hb:Byt data)(h0:0<=st.2.2.1)(h1:st.2.2.1<(st.1.1.length:Int))(hl:st.1.1.length<=1048576)
  (us:List TUp) (hf:L8 st.2.2.2 (st.2.1,st.2.2.1,kind,id,n,data)=some us):D5 st kind id n data=some (wrote st (st.2.1,st.2.2.1,kind,id,n,data) us,()):=by
 have hbd:=A25 hr;simp only at hbd;simp only [D5,A3G];rw [C7b (st.2.1,st.2.2.1,kind,id,n,data) (by simp only [maxLen];omega) hb,if_pos hr,A0 h0,A0 h1];simp only [A3,cond_true];have hI:B7P st.2.2.2 (st.2.1,st.2.2.1,kind,id,n,data)=(us,true,()):=by unfold B7P;rw [hf]
 rw [D5B st.2.2.2 (st.2.1,st.2.2.1,kind,id,n,data) hU (by simp only;omega),hI,w64 (by omega) (by omega)];rfl
theorem D8K{r:I2}(h:V4 r=true):(A0l r).size<=1000:=by
 have hb:=A25 h;unfold A0l;rw [B6U,List.length_append,B9J,M9];omega
theorem E11{st:A6}(h:A5D st.1){r:I2}(hr:V4 r=true)(us:List TUp):A5D (wrote st r us).1:=⟨B9O h.1 _ (by have:=D8K hr;omega),h.2⟩
theorem B1L(us:List TUp)(id:X0)(h:us.length<=maxLen):H2 us id=some (if H6 us id=true then (B5 us id:Int) else -1):=by
 simp only [H2,D5A us id h,A3];cases H6 us id<;>rfl
theorem C0w(us:List TUp)(id:X0)(h:Ups us):U3 us id=some (if H6 us id=true then (B5 us id:Int) else -1,()):=by
 have hl:=h.2.1;rw [D87 us id (by simp only [maxLen];omega)];cases hh:H6 us id with
 | true=>
  obtain ⟨hlt,_⟩:=H1.1 hh;rw [D19 h.1 hh,if_pos hlt,if_pos rfl]
 | false=>rw [D1A h.1 hh,if_neg (Nat.lt_irrefl _),if_neg (by simp)]
theorem D1H{id:X0}(h:idB id=true):id.size<=8:=by
 simp only [idB,Bool.and_eq_true,decide_eq_true_eq] at h;omega
theorem C10(st:A6)(h0:0<=st.2.2.1)(h1:st.2.2.1<=(st.1.1.length:Int))(hl:st.1.1.length<=1048576):O0 st=some ((st.1.1.length:Int)-st.2.2.1,st,()):=by
 simp only [O0,B1m];rw [w64 (by omega) (by omega)]
theorem C11(st:A6)(h0:0<=st.2.2.1)(h1:st.2.2.1<=(st.1.1.length:Int))(hl:st.1.1.length<=1048576):A0G st=some ((st.1.1.length:Int)-st.2.2.1,()):=by
 simp only [A0G,B95];rw [w64 (by omega) (by omega)]
def E3(n:Int):G0:=if 0<=n/\n<=200 then (List.replicate n.toNat ⟨#[]⟩,List.replicate n.toNat ⟨#[]⟩) else ([],[])
theorem D8L(n:Int):List.length (E3 n).1<=200/\List.length (E3 n).2<=200:=by
 unfold E3;split
 ·simp;omega
 ·simp
theorem C4N(n:Int):A9k n=some (E3 n,()):=by
 simp only [A9k,B9A,E3];by_cases h:0<=n/\n<=200
 ·rw [if_pos h];have key:=E0 (A56 n) (fun i=>((i:Int),List.replicate i ⟨#[]⟩,List.replicate i ⟨#[]⟩,())) n.toNat ((List.replicate n.toNat ⟨#[]⟩,List.replicate n.toNat ⟨#[]⟩),()) (fun i hi=>?_) ?_
  ·exact key
  ·have h1:(i:Int)<n:=by omega
   simp only [A56,A0 h1,A0 h.2,cond_true,B8];rw [A0 (by simp;omega),A0 (by simp;omega)];simp only [cond_true];rw [w64 (by omega) (by omega),List.replicate_succ'];rfl
  ·have h1:¬ ((n.toNat:Int)<n):=by omega
   simp only [A56,A4 h1,cond_false,B8]
 ·rw [if_neg h];refine E4T ?_;simp only [A56];by_cases h1:(0:Int)<n
  ·rw [A0 h1,A4 (show ¬ n<=200 by omega)];rfl
  ·rw [A4 h1];rfl
def P8(n:Int):B9:=((E3 n,0,0,[]),[])
theorem B9Q(n:Int):P2 n=some (P8 n,()):=by
 simp only [P2,A4n,A2b,B12,C4N,A3,P8]
theorem bO{α β:Type}(x:α)(f:α->Option β):A3 (some x) f=f x:=rfl
theorem A4g(c:B6)(n:Int)(h:Cur c)(hn:0<n/\n<9223372036854775808):∃ b c',I8 c n=some (b,c',())/\Cur c':=by
 obtain ⟨r,c',e,hc,_⟩:=G8 c n h hn;simp only [I8,C32,e,A3];exact ⟨_,_,rfl,hc⟩
theorem D1I(c:B6)(h:Cur c):∃ k c',S7 c=some (k,c',())/\Cur c':=by
 obtain ⟨n,c1,q1,h1,n0,n1⟩:=G8 c 8 h (by omega);simp only [S7,A8q,q1,A3];obtain ⟨z,e,hz⟩:=P0 (A67 I8) (fun l=>l.1.toNat) (fun l=>l.1<=8/\Cur (l.2.1,(l.2.2.1,l.2.2.2.1))/\(List.length l.2.2.2.2.1:Int)+l.1<=8) (fun z=>Cur z.2.1) (fun l hl=>by
  obtain ⟨g0,g1,g2⟩:=hl;simp only [A67];by_cases hi:l.1>0
  ·obtain ⟨b,c3,q3,h3⟩:=A4g (l.2.1,(l.2.2.1,l.2.2.2.1)) 2 g1 (by omega);rw [A0 hi];simp only [cond_true,q3,A3];rw [A0 (by simp;omega),A0 (by simp;omega),w64 (by omega) (by omega)];exact .inl ⟨_,rfl,⟨by simp only;omega,h3,by simp;omega⟩,by simp only;omega⟩
  ·rw [A4 hi];exact .inr ⟨_,rfl,g1⟩) (n,c1.1,c1.2.1,c1.2.2,[],()) ⟨by simp only;omega,h1,by simp;omega⟩
 exact ⟨z.1,z.2.1,e,hz⟩
theorem E4b{us:List TUp}{id:X0}(hh:H6 us id=true)(u:TUp)(hu:u.1=(rd kUp us (B5 us id:Int)).1):H6 (us.set (B5 us id) u) id=true/\B5 (us.set (B5 us id) u) id=B5 us id/\rd kUp (us.set (B5 us id) u) (B5 us id:Int)=u:=by
 obtain ⟨hlt,hid⟩:=H1.1 hh;rw [C7 (k:=kUp) (xs:=us) hlt] at hu;have hk:∀ q (hq:q<us.length),((us.set (B5 us id) u)[q]'(by simpa using hq)).1=us[q].1:=fun q hq=>by
  rw [List.getElem_set];split
  ·rename_i e;subst e;exact hu
  ·rfl
 have hrd:rd kUp (us.set (B5 us id) u) (B5 us id:Int)=u:=F02 (k:=kUp) hlt u;have e1:B5 (us.set (B5 us id) u) id=B5 us id:=by
  refine B3C _ (us.set (B5 us id) u).length _ (by simp;omega) (fun j hj=>?_) (fun _=>?_)
  ·rw [C7 (k:=kUp) (xs:=us.set (B5 us id) u) (by simp;omega),hk j (by omega)];exact B9L hj
  ·rw [hrd,hu];exact C4J hlt
 refine ⟨?_,e1,hrd⟩;unfold H6;rw [e1,hrd,hu,hid];simp;omega
theorem E74(st:A6)(id:X0)(hU:Ups st.2.2.2):∃ u b,A1P st id=some (u,b,())/\(List.length u.2.2.1:Int)<=u.2.1/\u.2.1<=1000000000/\Byt u.2.2.1:=by
 simp only [A1P,C4F];rw [C0w st.2.2.2 id hU];cases hh:H6 st.2.2.2 id with
 | false=>
  simp only [Bool.false_eq_true,if_false,bO];rw [A0 (show (-1:Int)<0 by omega)];exact ⟨_,_,rfl,by simp,by simp,T9⟩
 | true=>
  obtain ⟨hlt,hid2⟩:=H1.1 hh;have hrd:rd kUp st.2.2.2 (B5 st.2.2.2 id:Int)=st.2.2.2[B5 st.2.2.2 id]:=C7 (k:=kUp) (xs:=st.2.2.2) hlt;have hu:=hU.2.2 _ (List.getElem_mem hlt);rw [<- hrd] at hu;have h1:=hu.1;have h2:=hu.2.1;simp only [if_true,bO];rw [A4 (show ¬ (B5 st.2.2.2 id:Int)<0 by omega),A0 (show (0:Int)<=(B5 st.2.2.2 id:Int) by omega),A0 (show (B5 st.2.2.2 id:Int)<(st.2.2.2.length:Int) by omega)];simp only [cond_true,cond_false];rw [A0 (by simp;omega),A0 (by simp;omega)];simp only [cond_true,List.nil_append];exact ⟨_,_,rfl,h1,h2,hu.2.2.2⟩
theorem E3P{l:List X0}{s:X0}(hs:s∈l)(hk:(D9 s).2.1=true):(D9 s).1.1<=A48 l:=by
 have h:=C0v (D9 s).1.1 l (-1);by_cases hx:(D9 s).1.1<=A48 l
 ·exact hx
 ·exfalso;have h1:decide (l.foldl A6Q (-1)<(D9 s).1.1)=true:=decide_eq_true (by have:A48 l=l.foldl A6Q (-1):=rfl;omega);rw [h1] at h;have h2:=(Bool.and_eq_true _ _▸h.symm:_/\_).2;have h3:=List.all_eq_true.1 h2 s hs;simp only [A5C,hk,Bool.true_and] at h3;rw [A0 (by omega)] at h3;cases h3
def A5E(d:G0):Bool:=decide (d.1.length=d.2.length/\d.1.length<=200)&&((List.range d.1.length).all fun i=>!decide (((rd .str d.1 (i:Int)).size:Int)>64)&&!decide (((rd .str d.2 (i:Int)).size:Int)>64))
theorem A9r(d:G0):A0S d=some (A5E d,()):=by
 simp only [A0S,B6G,A5E];by_cases h1:(d.1.length:Int)=(d.2.length:Int)
 ·rw [A0 h1];by_cases h2:(d.1.length:Int)>200
  ·rw [A0 h2,A4 (show ¬ (d.1.length=d.2.length/\d.1.length<=200) by omega)];rfl
  ·rw [A4 h2,A0 (show d.1.length=d.2.length/\d.1.length<=200 by omega)];simp only [Bool.not_true,cond_false,B8,Bool.true_and];refine C1k (A2S d) d.1.length (by simp only [maxLen];omega) (fun i=>!decide (((rd .str d.1 (i:Int)).size:Int)>64)&&!decide (((rd .str d.2 (i:Int)).size:Int)>64)) (fun i hi=>?_) (by simp [A2S]);have g1:((i:Int)<(d.1.length:Int)):=by omega
   have g2:(0:Int)<=(i:Int):=by omega
   have g3:((i:Int)<(d.2.length:Int)):=by omega
   simp only [A2S,A0 g1,A0 g2,A0 g3,cond_true];cases decide (((rd .str d.1 (i:Int)).size:Int)>64)<;>cases decide (((rd .str d.2 (i:Int)).size:Int)>64)<;>rfl
 ·rw [A4 h1,A4 (show ¬ (d.1.length=d.2.length/\d.1.length<=200) by omega)];rfl
theorem E4c{d:G0}(h:A5E d=true):A5E (d.1,d.1)=true:=by
 simp only [A5E,Bool.and_eq_true] at h ⊢;refine ⟨decide_eq_true ⟨trivial,(of_decide_eq_true h.1).2⟩,List.all_eq_true.2 fun i hi=>?_⟩;have:=List.all_eq_true.1 h.2 i hi;simp only [Bool.and_eq_true] at this ⊢;exact ⟨this.1,this.1⟩
theorem C1m(us:List TUp):A2u us us=true:=by
 simp only [A2u,Bool.and_eq_true];refine ⟨decide_eq_true trivial,List.all_eq_true.2 fun i hi=>?_⟩;simp [A9T]
theorem D1J(a:List Int)(h:a.length<=maxLen):A39 a a=some (true,()):=by
 simp only [A39,B3n,decide_true,Bool.not_true,cond_false];have e:=C1k (A5h a a) a.length h (fun _=>true) (fun i hi=>by
  have g1:((i:Int)<(a.length:Int)):=by omega
  have g2:(0:Int)<=(i:Int):=by omega
  simp only [A5h,A0 g1,A0 g2,cond_true,decide_true,Bool.not_true,cond_false]) (by simp [A5h])
 rw [e];simp
def C4O(us:List TUp)(id:X0)(ch:List Int):List TUp:=
 us.set (B5 us id) ((rd kUp us (B5 us id:Int)).1,(rd kUp us (B5 us id:Int)).2.1,(rd kUp us (B5 us id:Int)).2.2.1++ch,(rd kUp us (B5 us id:Int)).2.2.2)
def E12(st:A6)(id:X0)(n:Int)(ch:List Int):A6:=wrote st (st.2.1,st.2.2.1,2,id,n,ch) (C4O st.2.2.2 id ch)
def putAt(st:A6)(id:X0)(off:Int)(dat:List Int):Nat->A6
 | 0=>st
 | j+1=>E12 (putAt st id off dat j) id (off+((j*24:Nat):Int)) (P1 24 dat j)
def nPc(dat:List Int):Nat:=(dat.length+24-1) / 24
structure E13 (st:A6) (id:X0) (off:Int) (dat:List Int):Prop where
 idok:idB id=true
 ep:0<=st.2.1/\st.2.1<=10000
 nx:0<=st.2.2.1/\st.2.2.1+(nPc dat:Int)<=(st.1.1.length:Int)
 len:st.1.1.length<=200
 dk:A5D st.1
 up:Ups st.2.2.2
 has:H6 st.2.2.2 id=true
 nd:(rd kUp st.2.2.2 (B5 st.2.2.2 id:Int)).2.2.2=false
 at':off=(List.length (rd kUp st.2.2.2 (B5 st.2.2.2 id:Int)).2.2.1:Int)
 fits:off+(dat.length:Int)<=(rd kUp st.2.2.2 (B5 st.2.2.2 id:Int)).2.1
 byt:Byt dat
 lo:1<=dat.length
structure E8h (st:A6) (id:X0) (off:Int) (dat:List Int) (j:Nat) (s:A6):Prop where
 ep:s.2.1=st.2.1
 nx:s.2.2.1=st.2.2.1+(j:Int)
 len:s.1.1.length=st.1.1.length
 dk:A5D s.1
 up:Ups s.2.2.2
 has:H6 s.2.2.2 id=true
 ix:B5 s.2.2.2 id=B5 st.2.2.2 id
 val:rd kUp s.2.2.2 (B5 s.2.2.2 id:Int)=((rd kUp st.2.2.2 (B5 st.2.2.2 id:Int)).1,(rd kUp st.2.2.2 (B5 st.2.2.2 id:Int)).2.1,(rd kUp st.2.2.2 (B5 st.2.2.2 id:Int)).2.2.1++dat.take (j*24),false)
theorem C3K(dat:List Int)(j:Nat)(h:j*24<dat.length):1<=(P1 24 dat j).length/\(P1 24 dat j).length<=24/\(P1 24 dat j).length=min (j*24+24) dat.length-j*24:=by
 have e:(P1 24 dat j).length=min (j*24+24) dat.length-j*24:=by unfold P1;rw [List.length_drop,List.length_take]
 rw [e];refine ⟨by omega,by omega,rfl⟩
theorem D8M(dat:List Int)(j:Nat):dat.take (j*24)++P1 24 dat j=dat.take ((j+1)*24):=by
 have h:=List.take_append_drop (j*24) (dat.take (j*24+24));rw [List.take_take,Nat.min_eq_left (by omega)] at h;rw [show (j+1)*24=j*24+24 by omega];exact h
theorem B9R{dat:List Int}{j:Nat}:j<nPc dat↔j*24<dat.length:=by
 unfold nPc;omega
theorem B9S{st:A6}{id:X0}{off:Int}{dat:List Int}(hc:E13 st id off dat){j:Nat}{s:A6}(h:E8h st id off dat j s)(hj:j<nPc dat) :
  V4 (s.2.1,s.2.2.1,2,id,off+((j*24:Nat):Int),P1 24 dat j)=true/\L8 s.2.2.2 (s.2.1,s.2.2.1,2,id,off+((j*24:Nat):Int),P1 24 dat j)=some (C4O s.2.2.2 id (P1 24 dat j))/\
   E8h st id off dat (j+1) (E12 s id (off+((j*24:Nat):Int)) (P1 24 dat j)):=by
 obtain ⟨p1,p2,p3⟩:=C3K dat j (B9R.1 hj);have hj2:=B9R.1 hj;have hlen0:(List.length (dat.take (j*24)):Int)=((j*24:Nat):Int):=by rw [List.length_take];omega
 obtain ⟨hlt,_⟩:=H1.1 hc.has;have hu:=hc.up.2.2 _ (List.getElem_mem hlt);rw [<- C7 (k:=kUp) hlt] at hu;have hu1:=hu.1;have hu2:=hu.2.1;have hat:=hc.at';have hft:=hc.fits;have hn1:=hc.nx.1;have hn2:=hc.nx.2;have hl:=hc.len;have hnx:=h.nx;have hbp:Byt (P1 24 dat j):=A9n (A5A hc.byt _) _;have hr:V4 (s.2.1,s.2.2.1,2,id,off+((j*24:Nat):Int),P1 24 dat j)=true:=by
  simp only [V4,hc.idok,h.ep];rw [A0 hc.ep,A0 (show 0<=s.2.2.1/\s.2.2.1<=199 by omega),if_neg (by omega),if_pos trivial,A0 (show 0<=off+((j*24:Nat):Int)/\off+((j*24:Nat):Int)<=1000000000 by omega),A0 (show 1<=(List.length (P1 24 dat j):Int)/\(List.length (P1 24 dat j):Int)<=24 by omega)];rfl
 have hf:L8 s.2.2.2 (s.2.1,s.2.2.1,2,id,off+((j*24:Nat):Int),P1 24 dat j)=some (C4O s.2.2.2 id (P1 24 dat j)):=by
  have e1:(List.length (rd kUp s.2.2.2 (B5 s.2.2.2 id:Int)).2.2.1:Int)=off+((j*24:Nat):Int):=by
   rw [h.val];simp only [List.length_append];omega
  have e2:(rd kUp s.2.2.2 (B5 s.2.2.2 id:Int)).2.2.2=false:=by rw [h.val]
  have e3:@Eq Int (rd kUp s.2.2.2 (B5 s.2.2.2 id:Int)).2.1 (rd kUp st.2.2.2 (B5 st.2.2.2 id:Int)).2.1:=by rw [h.val]
  simp only [L8,h.has,e2,C4O];rw [if_neg (by omega),if_neg (by simp),if_pos trivial,if_neg (fun hx=>by
   rcases hx with hx | hx | hx
   ·cases hx
   ·exact hx e1.symm
   ·have hx2:(List.length (rd kUp s.2.2.2 (B5 s.2.2.2 id:Int)).2.2.1:Int)+(List.length (P1 24 dat j):Int)>(rd kUp st.2.2.2 (B5 st.2.2.2 id:Int)).2.1:=by rw [<- e3];exact hx
    omega)]
 have hus:=B9M h.up ⟨hr,hbp⟩ hf;obtain ⟨k1,k2,k3⟩:=E4b h.has ((rd kUp s.2.2.2 (B5 s.2.2.2 id:Int)).1,(rd kUp s.2.2.2 (B5 s.2.2.2 id:Int)).2.1,(rd kUp s.2.2.2 (B5 s.2.2.2 id:Int)).2.2.1++P1 24 dat j,(rd kUp s.2.2.2 (B5 s.2.2.2 id:Int)).2.2.2) rfl;refine ⟨hr,hf,h.ep,?_,?_,E11 h.dk hr _,hus,k1,k2.trans h.ix,?_⟩
 ·show s.2.2.1+1=st.2.2.1+((j+1:Nat):Int);omega
 ·show (s.1.1.set _ _).length=_;rw [List.length_set];exact h.len
 ·show rd kUp (s.2.2.2.set (B5 s.2.2.2 id) _) ((B5 (s.2.2.2.set (B5 s.2.2.2 id) _) id:Nat):Int)=_;rw [k2,k3,h.val];simp only [List.append_assoc,D8M]
theorem E75{st:A6}{id:X0}{off:Int}{dat:List Int}(hc:E13 st id off dat):E8h st id off dat 0 st:=
 ⟨rfl,by simp,rfl,hc.dk,hc.up,hc.has,rfl,by
  have e2:(rd kUp st.2.2.2 (B5 st.2.2.2 id:Int)).2.2.2=false:=hc.nd;rw [Nat.zero_mul,List.take_zero,List.append_nil,<- e2]⟩
theorem C12{st:A6}{id:X0}{off:Int}{dat:List Int}(hc:E13 st id off dat):∀ j,j<=nPc dat->E8h st id off dat j (putAt st id off dat j)
 | 0,_=>E75 hc
 | j+1,hj=>(B9S hc (C12 hc j (by omega)) (by omega)).2.2
theorem D1K{st:A6}{id:X0}{off:Int}{dat:List Int}(hc:E13 st id off dat):∀ (k j:Nat),j+k=nPc dat->∀ o:Int,(j<nPc dat->o=off+((j*24:Nat):Int))->
  ∃ o',C1d (A3K D5 id) ((pieces 24 dat).drop j) (o,(putAt st id off dat j).2.1,(putAt st id off dat j).2.2.1,(putAt st id off dat j).1.1,(putAt st id off dat j).1.2,(putAt st id off dat j).2.2.2,()) =
   some (o',(putAt st id off dat (nPc dat)).2.1,(putAt st id off dat (nPc dat)).2.2.1,(putAt st id off dat (nPc dat)).1.1,(putAt st id off dat (nPc dat)).1.2,(putAt st id off dat (nPc dat)).2.2.2,())
 | 0,j,hj,o,_=>by
  rw [Nat.add_zero] at hj;subst hj;have:(pieces 24 dat).length=nPc dat:=by simp [pieces,nPc]
  rw [<- this,List.drop_length];exact ⟨o,rfl⟩
 | k+1,j,hj,o,ho=>by
  have hlt:j<nPc dat:=by omega
  have hlen:(pieces 24 dat).length=nPc dat:=by simp [pieces,nPc]
  have hdrop:(pieces 24 dat).drop j=P1 24 dat j::(pieces 24 dat).drop (j+1):=by
   rw [List.drop_eq_getElem_cons (by omega)];simp [pieces]
  have ho:=ho hlt;have hI:=C12 hc j (by omega);obtain ⟨hr,hf,hn⟩:=B9S hc hI hlt;have hl:=hc.len;have hn1:=hc.nx.1;have hn2:=hc.nx.2;have hnx:=hI.nx;have hle:=hI.len;obtain ⟨hlt',_⟩:=H1.1 hc.has;have hu:=hc.up.2.2 _ (List.getElem_mem hlt');rw [<- C7 (k:=kUp) hlt'] at hu;have hu2:=hu.2.1;have hat:=hc.at';have hft:=hc.fits;obtain ⟨p1,p2,p3⟩:=C3K dat j (B9R.1 hlt);have hj2:=B9R.1 hlt;have hw:=B6d (putAt st id off dat j) 2 id (off+((j*24:Nat):Int)) (P1 24 dat j) hI.up hr (A9n (A5A hc.byt _) _) (by omega) (by omega) (by omega) _ hf;rw [hdrop];simp only [C1d,A3K];have hw':D5 (((putAt st id off dat j).1.1,(putAt st id off dat j).1.2),((putAt st id off dat j).2.1,((putAt st id off dat j).2.2.1,(putAt st id off dat j).2.2.2))) 2 id o (P1 24 dat j)=some (putAt st id off dat (j+1),()):=by
   rw [ho];exact hw
  rw [hw',w64 (by omega) (by omega)];simp only [A3];exact D1K hc k (j+1) (by omega) _ (fun hl2=>by have:=B9R.1 hl2;omega)
theorem E14{st:A6}{id:X0}{off:Int}{dat:List Int}(hc:E13 st id off dat)(h400:dat.length<=400) :
  C3 (A3O F5 dat id off) (0,st.2.1,st.2.2.1,st.1.1,st.1.2,st.2.2.2,()) =
   some ((putAt st id off dat (nPc dat)).2.1,(putAt st id off dat (nPc dat)).2.2.1,(putAt st id off dat (nPc dat)).1.1,(putAt st id off dat (nPc dat)).1.2,(putAt st id off dat (nPc dat)).2.2.2,()):=by
 obtain ⟨z,e,hz⟩:=P0 (A3O F5 dat id off) (fun l=>((dat.length:Int)+24-l.1).toNat)
  (fun l=>∃ j:Nat,j<=nPc dat/\l=(((j*24:Nat):Int),(putAt st id off dat j).2.1,(putAt st id off dat j).2.2.1,(putAt st id off dat j).1.1,(putAt st id off dat j).1.2,(putAt st id off dat j).2.2.2,()))
  (fun z=>z=((putAt st id off dat (nPc dat)).2.1,(putAt st id off dat (nPc dat)).2.2.1,(putAt st id off dat (nPc dat)).1.1,(putAt st id off dat (nPc dat)).1.2,(putAt st id off dat (nPc dat)).2.2.2,())) (fun l hl=>by
   obtain ⟨j,hj,rfl⟩:=hl;have hI:=C12 hc j hj;have hl:=hc.len;have hn1:=hc.nx.1;have hn2:=hc.nx.2;have hnx:=hI.nx;have hle:=hI.len;obtain ⟨hlt',_⟩:=H1.1 hc.has;have hu:=hc.up.2.2 _ (List.getElem_mem hlt');rw [<- C7 (k:=kUp) hlt'] at hu;have hu2:=hu.2.1;have hat:=hc.at';have hft:=hc.fits;simp only [A3O];by_cases hi:j<nPc dat
   ·have hj2:=B9R.1 hi;obtain ⟨hr,hf,hn⟩:=B9S hc hI hi;obtain ⟨p1,p2,p3⟩:=C3K dat j hj2;rw [A0 (show ((j*24:Nat):Int)<(dat.length:Int) by omega),w64 (n:=((j*24:Nat):Int)+24) (by omega) (by omega)];obtain ⟨to,hto,hto2⟩:∃ to:Int,(bif decide (((j*24:Nat):Int)+24>(dat.length:Int)) then some ((dat.length:Int),()) else some (((j*24:Nat):Int)+24,()))=some (to,())/\(to.toNat=min (j*24+24) dat.length/\0<=to):=by
     by_cases hcc:((j*24:Nat):Int)+24>(dat.length:Int)
     ·rw [A0 hcc];exact ⟨_,rfl,by omega,by omega⟩
     ·rw [A4 hcc];exact ⟨_,rfl,by omega,by omega⟩
    simp only [cond_true,hto,bO];have hpc:(dat.take to.toNat).drop ((j*24:Nat):Int).toNat=P1 24 dat j:=by
     rw [hto2.1,Int.toNat_natCast,P1,List.take_eq_take_iff.2 (show min (min (j*24+24) dat.length) dat.length=min (j*24+24) dat.length by omega)]
    rw [hpc,A0 (show 0<=((j*24:Nat):Int) by omega),A0 (show ((j*24:Nat):Int)<=to by omega),A0 (show to<=(dat.length:Int) by omega),A0 (by simp;omega),A0 (by simp;omega),w64 (n:=off+((j*24:Nat):Int)) (by omega) (by omega)];simp only [cond_true,List.nil_append];have hw:=B6c (putAt st id off dat j) 0 0 2 id (off+((j*24:Nat):Int)) (P1 24 dat j) hI.up hr (A9n (A5A hc.byt _) _) (by omega) (by omega) (by omega) _ hf;have hw':F5 (((putAt st id off dat j).1.1,(putAt st id off dat j).1.2),((putAt st id off dat j).2.1,((putAt st id off dat j).2.2.1,(putAt st id off dat j).2.2.2))) (0,(0,(2,(id,(off+((j*24:Nat):Int),P1 24 dat j)))))=some (putAt st id off dat (j+1),()):=hw;rw [hw'];simp only [bO];refine .inl ⟨_,rfl,⟨j+1,by omega,?_⟩,by simp only;omega⟩;rw [show ((j*24:Nat):Int)+24=(((j+1)*24:Nat):Int) by omega]
   ·have:j=nPc dat:=by omega
    subst this;have:¬ nPc dat*24<dat.length:=fun h=>hi (B9R.2 h)
    rw [A4 (show ¬ ((nPc dat*24:Nat):Int)<(dat.length:Int) by omega)];exact .inr ⟨_,rfl,rfl⟩) (0,st.2.1,st.2.2.1,st.1.1,st.1.2,st.2.2.2,()) ⟨0,by omega,rfl⟩
 rw [e,hz]
def A6p(st:A6)(id:X0)(off:Int)(dat:List Int):A6×Int:=
 if idB id=true/\1<=dat.length/\dat.length<=400 then
  (if H6 st.2.2.2 id=true then
   (if (rd kUp st.2.2.2 (B5 st.2.2.2 id:Int)).2.2.2=true\/off≠(List.length (rd kUp st.2.2.2 (B5 st.2.2.2 id:Int)).2.2.1:Int)\/off+(dat.length:Int)>(rd kUp st.2.2.2 (B5 st.2.2.2 id:Int)).2.1 then (st,4)
    else if (st.1.1.length:Int)-st.2.2.1<(nPc dat:Int) then (st,5) else (putAt st id off dat (nPc dat),0))
   else (st,2))
 else (st,1)
theorem E76(dat:List Int)(h:dat.length<=400):(IntKind.i64.wrap ((IntKind.i64.wrap ((IntKind.i64.wrap ((dat.length:Int)+24))-1)).tdiv 24))=(nPc dat:Int):=by
 have htd:((dat.length:Int)+24-1).tdiv 24=(nPc dat:Int):=by
  rw [Int.tdiv_eq_ediv_of_nonneg (by omega)];unfold nPc;omega
 rw [w64 (n:=(dat.length:Int)+24) (by omega) (by omega),w64 (n:=(dat.length:Int)+24-1) (by omega) (by omega),htd,w64 (by unfold nPc;omega) (by unfold nPc;omega)]
structure Rt (st:A6):Prop where
 g:D1C st
 up:Ups st.2.2.2
 dk:A5D st.1
theorem C13{st:A6}{id:X0}{off:Int}{dat:List Int}(h:Rt st)(hb:Byt dat)(h1:idB id=true)(h2:1<=dat.length/\dat.length<=400)(h3:H6 st.2.2.2 id=true)
  (h4:¬ ((rd kUp st.2.2.2 (B5 st.2.2.2 id:Int)).2.2.2=true\/off≠(List.length (rd kUp st.2.2.2 (B5 st.2.2.2 id:Int)).2.2.1:Int)\/off+(dat.length:Int)>(rd kUp st.2.2.2 (B5 st.2.2.2 id:Int)).2.1))
  (h5:¬ (st.1.1.length:Int)-st.2.2.1<(nPc dat:Int)):E13 st id off dat:=by
 obtain ⟨g1,g2,g3,g4,⟨g5,g6⟩,_⟩:=h.g;rw [not_or,not_or] at h4;refine ⟨h1,⟨g1,g2⟩,⟨g5,by omega⟩,g4,h.dk,h.up,h3,by simpa using h4.1,Decidable.not_not.1 h4.2.1,by have h6:=h4.2.2;exact Int.not_lt.1 h6,hb,h2.1⟩
theorem E15(st:A6)(id:X0)(off:Int)(dat:List Int)(hid:id.size<=maxLen)(h:Rt st)(hb:Byt dat)(hd:dat.length<=1048576)(ho:-9223372036854775808<=off/\off<=9223372036854775807) :
  A2m st id off dat=some ((A6p st id off dat).2,(A6p st id off dat).1,()):=by
 obtain ⟨g1,g2,g3,g4,⟨g5,g6⟩,_⟩:=h.g;have hU:=h.up;have hl:st.1.1.length<=1048576:=by omega
 have hul:=hU.2.1;simp only [A2m,B0A,B6T id hid,P3,bO,A6p];cases hidb:idB id with
 | false=>simp [B8]
 | true=>
  simp only [Bool.not_true,cond_false,true_and];by_cases hlen:1<=(dat.length:Int)/\(dat.length:Int)<=400
  ·rw [A0 hlen,if_pos (show 1<=dat.length/\dat.length<=400 by omega)];simp only [Bool.not_true,cond_false,B8];rw [B1L st.2.2.2 id (by simp only [maxLen];omega),C10 st g5 g6 hl,E76 dat (by omega)];cases hh:H6 st.2.2.2 id with
   | false=>
    simp only [Bool.false_eq_true,if_false,bO];rw [A0 (show (-1:Int)<0 by omega)];rfl
   | true=>
    obtain ⟨hlt,hid2⟩:=H1.1 hh;have hu:=hU.2.2 _ (List.getElem_mem hlt);rw [<- C7 (k:=kUp) hlt] at hu;have hu1:=hu.1;have hu2:=hu.2.1;simp only [if_true,bO];rw [A4 (show ¬ (B5 st.2.2.2 id:Int)<0 by omega)];simp only [cond_false];cases hdn:(rd kUp st.2.2.2 (B5 st.2.2.2 id:Int)).2.2.2 with
    | true=>simp [bO]
    | false=>
     simp only [cond_false];cases ho':decide (off=(List.length (rd kUp st.2.2.2 (B5 st.2.2.2 id:Int)).2.2.1:Int)) with
     | false=>
      have ho:=of_decide_eq_false ho';rw [if_pos (.inr (.inl ho))];rfl
     | true=>
      have ho:=of_decide_eq_true ho';simp only [Bool.not_true,cond_false,bO];rw [w64 (n:=off+(dat.length:Int)) (by omega) (by omega)];by_cases hw:off+(dat.length:Int)>(rd kUp st.2.2.2 (B5 st.2.2.2 id:Int)).2.1
      ·rw [A0 hw,if_pos (.inr (.inr hw))];rfl
      ·have hno:¬ ((rd kUp st.2.2.2 (B5 st.2.2.2 id:Int)).2.2.2=true\/off≠(List.length (rd kUp st.2.2.2 (B5 st.2.2.2 id:Int)).2.2.1:Int)\/off+(dat.length:Int)>(rd kUp st.2.2.2 (B5 st.2.2.2 id:Int)).2.1):=by
        rw [hdn];rintro (hx | hx | hx)
        ·cases hx
        ·exact hx ho
        ·exact hw hx
       have hno':=hno;rw [hdn] at hno';rw [A4 hw,if_neg hno'];simp only [cond_false,bO];by_cases hleft:(st.1.1.length:Int)-st.2.2.1<(nPc dat:Int)
       ·rw [A0 hleft,if_pos hleft];rfl
       ·rw [A4 hleft,if_neg hleft,A0 (show dat.length<=1152921504606846976 by omega)];simp only [cond_false,cond_true];have hc:=C13 h hb hidb ⟨by omega,by omega⟩ hh hno hleft;obtain ⟨o',e⟩:=D1K hc (nPc dat) 0 (by omega) off (fun _=>by simp);rw [List.drop_zero] at e;have e':C1d (A3K D5 id) (pieces 24 dat) (off,st.2.1,st.2.2.1,st.1.1,st.1.2,st.2.2.2,())=_:=e;rw [e'];rfl
  ·rw [A4 hlen,if_neg (show ¬ (1<=dat.length/\dat.length<=400) by omega)];rfl
theorem C3L(st:A6)(id:X0)(off:Int)(dat:List Int)(hid:id.size<=maxLen)(h:Rt st)(hS:A8v st)(hok:E7 st=some (true,()))(hb:Byt dat)(hd:dat.length<=1048576)(ho:-9223372036854775808<=off/\off<=9223372036854775807) :
  Q8 st id off dat=some ((A6p st id off dat).1,(A6p st id off dat).2,()):=by
 obtain ⟨g1,g2,g3,g4,⟨g5,g6⟩,_⟩:=h.g;have hU:=h.up;have hl:st.1.1.length<=1048576:=by omega
 simp only [Q8,B0G,A12 st hS,hok,B20 id hid,P7,bO,A6p];cases hidb:idB id with
 | false=>simp [B8]
 | true=>
  simp only [Bool.not_true,cond_false,true_and];by_cases hlen:1<=(dat.length:Int)/\(dat.length:Int)<=400
  ·rw [A0 hlen,if_pos (show 1<=dat.length/\dat.length<=400 by omega)];simp only [Bool.not_true,cond_false,B8];rw [C0w st.2.2.2 id hU,C11 st g5 g6 hl,E76 dat (by omega)];cases hh:H6 st.2.2.2 id with
   | false=>
    simp only [Bool.false_eq_true,if_false,bO];rw [A0 (show (-1:Int)<0 by omega)];rfl
   | true=>
    obtain ⟨hlt,hid2⟩:=H1.1 hh;have hu:=hU.2.2 _ (List.getElem_mem hlt);rw [<- C7 (k:=kUp) hlt] at hu;have hu1:=hu.1;have hu2:=hu.2.1;simp only [if_true,bO];rw [A4 (show ¬ (B5 st.2.2.2 id:Int)<0 by omega),A0 (show (0:Int)<=(B5 st.2.2.2 id:Int) by omega),A0 (show (B5 st.2.2.2 id:Int)<(st.2.2.2.length:Int) by omega)];simp only [cond_true,cond_false];cases hdn:(rd kUp st.2.2.2 (B5 st.2.2.2 id:Int)).2.2.2 with
    | true=>simp [bO]
    | false=>
     simp only [cond_false];cases ho':decide (off=(List.length (rd kUp st.2.2.2 (B5 st.2.2.2 id:Int)).2.2.1:Int)) with
     | false=>
      have ho:=of_decide_eq_false ho';rw [if_pos (.inr (.inl ho))];rfl
     | true=>
      have ho:=of_decide_eq_true ho';simp only [Bool.not_true,cond_false,bO];rw [w64 (n:=off+(dat.length:Int)) (by omega) (by omega)];by_cases hw:off+(dat.length:Int)>(rd kUp st.2.2.2 (B5 st.2.2.2 id:Int)).2.1
      ·rw [A0 hw,if_pos (.inr (.inr hw))];rfl
      ·have hno:¬ ((rd kUp st.2.2.2 (B5 st.2.2.2 id:Int)).2.2.2=true\/off≠(List.length (rd kUp st.2.2.2 (B5 st.2.2.2 id:Int)).2.2.1:Int)\/off+(dat.length:Int)>(rd kUp st.2.2.2 (B5 st.2.2.2 id:Int)).2.1):=by
        rw [hdn];rintro (hx | hx | hx)
        ·cases hx
        ·exact hx ho
        ·exact hw hx
       have hno':=hno;rw [hdn] at hno';rw [A4 hw,if_neg hno'];simp only [cond_false,bO];by_cases hleft:(st.1.1.length:Int)-st.2.2.1<(nPc dat:Int)
       ·rw [A0 hleft,if_pos hleft];rfl
       ·rw [A4 hleft,if_neg hleft];simp only [cond_false];have hc:=C13 h hb hidb ⟨by omega,by omega⟩ hh hno hleft;rw [E14 hc (by omega)];rfl
  ·rw [A4 hlen,if_neg (show ¬ (1<=dat.length/\dat.length<=400) by omega)];rfl
theorem D8N{st:A6}{id:X0}{off:Int}{dat:List Int}(h:Rt st)(hb:Byt dat):Ups (A6p st id off dat).1.2.2.2/\A5D (A6p st id off dat).1.1:=by
 unfold A6p;split
 ·rename_i h1;split
  ·rename_i h3;split
   ·exact ⟨h.up,h.dk⟩
   ·rename_i h4;split
    ·exact ⟨h.up,h.dk⟩
    ·rename_i h5;have:=C12 (C13 h hb h1.1 h1.2 h3 h4 h5) _ (Nat.le_refl _);exact ⟨this.up,this.dk⟩
  ·exact ⟨h.up,h.dk⟩
 ·exact ⟨h.up,h.dk⟩
theorem E16{s:A6}(hd:A5D s.1)(hu:Ups s.2.2.2):A8v s:=⟨hd,by have:=hu.2.1;omega,B3E hu⟩
def A49(st:A6)(id:X0)(want:Int):A6×Int:=
 if idB id=true/\0<=want/\want<=1000000 then
  (if H6 st.2.2.2 id=true then (st,3)
   else if (st.1.1.length:Int)-st.2.2.1<1\/10<=st.2.2.2.length then (st,5)
   else (wrote st (st.2.1,st.2.2.1,1,id,want,[]) (st.2.2.2.take (B5 st.2.2.2 id)++(id,want,[],false)::st.2.2.2.drop (B5 st.2.2.2 id)),0))
 else (st,1)
def A3Q(st:A6)(id:X0)(sum:Int):A6×Int:=
 if idB id=true then
  (if H6 st.2.2.2 id=true then
   (if (List.length (rd kUp st.2.2.2 (B5 st.2.2.2 id:Int)).2.2.1:Int)<(rd kUp st.2.2.2 (B5 st.2.2.2 id:Int)).2.1 then (st,4)
    else if sum≠((A6o (rd kUp st.2.2.2 (B5 st.2.2.2 id:Int)).2.2.1 ^^^ 4294967295:Nat):Int) then (st,6)
    else if (rd kUp st.2.2.2 (B5 st.2.2.2 id:Int)).2.2.2=true then (st,0)
    else if (st.1.1.length:Int)-st.2.2.1<1 then (st,5)
    else (wrote st (st.2.1,st.2.2.1,3,id,0,[]) (st.2.2.2.set (B5 st.2.2.2 id) ((rd kUp st.2.2.2 (B5 st.2.2.2 id:Int)).1,(rd kUp st.2.2.2 (B5 st.2.2.2 id:Int)).2.1,(rd kUp st.2.2.2 (B5 st.2.2.2 id:Int)).2.2.1,true)),0))
   else (st,2))
 else (st,1)
def A7S(st:A6)(id:X0):A6×Int:=
 if idB id=true then
  (if H6 st.2.2.2 id=true then
   (if (st.1.1.length:Int)-st.2.2.1<1 then (st,5)
    else (wrote st (st.2.1,st.2.2.1,4,id,0,[]) (st.2.2.2.take (B5 st.2.2.2 id)++st.2.2.2.drop (B5 st.2.2.2 id+1)),0))
   else (st,2))
 else (st,1)
theorem B21{st:A6}(h:D1C st)(k n:Int)(id:X0)(hid:idB id=true)(hl:¬ (st.1.1.length:Int)-st.2.2.1<1)(hk:k=1/\0<=n/\n<=1000000000\/(k=3\/k=4)/\n=0):V4 (st.2.1,st.2.2.1,k,id,n,[])=true:=by
 obtain ⟨g1,g2,g3,g4,⟨g5,g6⟩,_⟩:=h;simp only [V4,hid,List.length_nil];rw [A0 (show 0<=st.2.1/\st.2.1<=10000 by omega),A0 (show 0<=st.2.2.1/\st.2.2.1<=199 by omega)];rcases hk with ⟨rfl,h0,h1⟩ | ⟨rfl | rfl,rfl⟩
 ·rw [if_pos rfl,A0 (show 0<=n/\n<=1000000000 from ⟨h0,h1⟩)];rfl
 ·rfl
 ·rfl
theorem C14{st:A6}{id:X0}{want:Int}(h1:¬ H6 st.2.2.2 id=true)(h2:¬ 10<=st.2.2.2.length):L8 st.2.2.2 (st.2.1,st.2.2.1,1,id,want,[])=some (st.2.2.2.take (B5 st.2.2.2 id)++(id,want,[],false)::st.2.2.2.drop (B5 st.2.2.2 id)):=by
 simp only [L8,if_true];rw [if_neg (fun h=>h.elim h1 h2)]
theorem C15{st:A6}{id:X0}(hU:Ups st.2.2.2)(h1:H6 st.2.2.2 id=true)(h2:¬ (List.length (rd kUp st.2.2.2 (B5 st.2.2.2 id:Int)).2.2.1:Int)<(rd kUp st.2.2.2 (B5 st.2.2.2 id:Int)).2.1)(h3:¬ (rd kUp st.2.2.2 (B5 st.2.2.2 id:Int)).2.2.2=true) :
  L8 st.2.2.2 (st.2.1,st.2.2.1,3,id,0,[])=some (st.2.2.2.set (B5 st.2.2.2 id) ((rd kUp st.2.2.2 (B5 st.2.2.2 id:Int)).1,(rd kUp st.2.2.2 (B5 st.2.2.2 id:Int)).2.1,(rd kUp st.2.2.2 (B5 st.2.2.2 id:Int)).2.2.1,true)):=by
 obtain ⟨hlt,hid2⟩:=H1.1 h1;have hu:=hU.2.2 _ (List.getElem_mem hlt);rw [<- C7 (k:=kUp) hlt] at hu;have hu1:=hu.1;simp only [L8,h1];rw [if_neg (by omega),if_neg (by simp),if_neg (by omega),if_pos trivial,if_neg (fun h=>h.elim h3 (fun h=>h (Int.le_antisymm hu1 (Int.not_lt.1 h2))))]
theorem C6F{st:A6}{id:X0}(h1:H6 st.2.2.2 id=true):L8 st.2.2.2 (st.2.1,st.2.2.1,4,id,0,[])=some (st.2.2.2.take (B5 st.2.2.2 id)++st.2.2.2.drop (B5 st.2.2.2 id+1)):=by
 simp only [L8,h1];rw [if_neg (by omega),if_neg (by simp),if_neg (by omega),if_neg (by omega),if_pos trivial]
theorem D8O(st:A6)(id:X0)(want:Int)(hid:id.size<=maxLen)(h:Rt st):A1r st id want=some ((A49 st id want).2,(A49 st id want).1,()):=by
 obtain ⟨g1,g2,g3,g4,⟨g5,g6⟩,_⟩:=h.g;have hU:=h.up;have hl:st.1.1.length<=1048576:=by omega
 have hul:=hU.2.1;simp only [A1r,A8b,B6T id hid,P3,bO,A49];cases hidb:idB id with
 | false=>simp [B8,bO]
 | true=>
  simp only [Bool.not_true,cond_false,true_and];by_cases hw:0<=want/\want<=1000000
  ·rw [A0 hw,if_pos hw];simp only [Bool.not_true,cond_false,B8];rw [B1L st.2.2.2 id (by simp only [maxLen];omega),C10 st g5 g6 hl];cases hh:H6 st.2.2.2 id with
   | true=>
    simp only [if_true,bO];rw [A4 (show ¬ (B5 st.2.2.2 id:Int)<0 by omega)];rfl
   | false=>
    simp only [Bool.false_eq_true,if_false,bO];rw [A0 (show (-1:Int)<0 by omega)];simp only [cond_true];by_cases hleft:(st.1.1.length:Int)-st.2.2.1<1
    ·rw [A0 hleft,if_pos (.inl hleft)];rfl
    ·rw [A4 hleft];simp only [cond_false];by_cases h10:10<=st.2.2.2.length
     ·rw [A0 (show (st.2.2.2.length:Int)>=10 by omega),if_pos (.inr h10)];rfl
     ·rw [A4 (show ¬ (st.2.2.2.length:Int)>=10 by omega),if_neg (fun hx=>hx.elim hleft h10)];simp only [cond_false];have hr:=B21 h.g 1 want id hidb hleft (.inl ⟨rfl,hw.1,by omega⟩);have hf:=C14 (st:=st) (id:=id) (want:=want) (by rw [hh];simp) h10;rw [B6d st 1 id want [] hU hr T9 g5 (by omega) hl _ hf];rfl
  ·rw [A4 hw,if_neg hw];rfl
theorem B9T(st:A6)(id:X0)(want:Int)(hid:id.size<=maxLen)(h:Rt st)(hS:A8v st)(hok:E7 st=some (true,())):O6 st id want=some ((A49 st id want).1,(A49 st id want).2,()):=by
 obtain ⟨g1,g2,g3,g4,⟨g5,g6⟩,_⟩:=h.g;have hU:=h.up;have hl:st.1.1.length<=1048576:=by omega
 have hul:=hU.2.1;simp only [O6,A8k,A12 st hS,hok,B20 id hid,P7,bO,A49];cases hidb:idB id with
 | false=>simp [B8,bO]
 | true=>
  simp only [Bool.not_true,cond_false,true_and];by_cases hw:0<=want/\want<=1000000
  ·rw [A0 hw,if_pos hw];simp only [Bool.not_true,cond_false,B8];rw [C0w st.2.2.2 id hU,C11 st g5 g6 hl];cases hh:H6 st.2.2.2 id with
   | true=>
    simp only [if_true,bO];rw [A0 (show (B5 st.2.2.2 id:Int)>=0 by omega)];rfl
   | false=>
    simp only [Bool.false_eq_true,if_false,bO];rw [A4 (show ¬ (-1:Int)>=0 by omega)];simp only [cond_false];by_cases hleft:(st.1.1.length:Int)-st.2.2.1<1
    ·rw [A0 hleft,if_pos (.inl hleft)];rfl
    ·rw [A4 hleft];simp only [cond_false];by_cases h10:10<=st.2.2.2.length
     ·rw [A0 (show (st.2.2.2.length:Int)=10 by omega),if_pos (.inr h10)];rfl
     ·rw [A4 (show ¬ (st.2.2.2.length:Int)=10 by omega),if_neg (fun hx=>hx.elim hleft h10)];simp only [cond_false];have hr:=B21 h.g 1 want id hidb hleft (.inl ⟨rfl,hw.1,by omega⟩);have hf:=C14 (st:=st) (id:=id) (want:=want) (by rw [hh];simp) h10;rw [B6c st 0 0 1 id want [] hU hr T9 g5 (by omega) hl _ hf];rfl
  ·rw [A4 hw,if_neg hw];rfl
theorem D8P(st:A6)(id:X0)(sum:Int)(hid:id.size<=maxLen)(h:Rt st):A1s st id sum=some ((A3Q st id sum).2,(A3Q st id sum).1,()):=by
 obtain ⟨g1,g2,g3,g4,⟨g5,g6⟩,_⟩:=h.g;have hU:=h.up;have hl:st.1.1.length<=1048576:=by omega
 have hul:=hU.2.1;simp only [A1s,A8c,B6T id hid,bO,A3Q];cases hidb:idB id with
 | false=>rfl
 | true=>
  simp only [Bool.not_true,cond_false,if_true];rw [B1L st.2.2.2 id (by simp only [maxLen];omega),C10 st g5 g6 hl];cases hh:H6 st.2.2.2 id with
  | false=>
   simp only [Bool.false_eq_true,if_false,bO];rw [A0 (show (-1:Int)<0 by omega)];rfl
  | true=>
   obtain ⟨hlt,hid2⟩:=H1.1 hh;have hu:=hU.2.2 _ (List.getElem_mem hlt);have hdl:=B3E hU _ (List.getElem_mem hlt);rw [<- C7 (k:=kUp) hlt] at hu hdl;simp only [if_true,bO];rw [A4 (show ¬ (B5 st.2.2.2 id:Int)<0 by omega)];simp only [cond_false];rw [D14 _ hu.2.2.2 (by simp only [maxLen];omega)];simp only [bO];by_cases hd1:(List.length (rd kUp st.2.2.2 (B5 st.2.2.2 id:Int)).2.2.1:Int)<(rd kUp st.2.2.2 (B5 st.2.2.2 id:Int)).2.1
   ·rw [A0 hd1,if_pos hd1];rfl
   rw [A4 hd1,if_neg hd1];simp only [cond_false];by_cases hc:sum=((A6o (rd kUp st.2.2.2 (B5 st.2.2.2 id:Int)).2.2.1 ^^^ 4294967295:Nat):Int)
   ·rw [A0 hc,if_neg (fun hx=>hx hc)];simp only [Bool.not_true,cond_false];cases hdn:(rd kUp st.2.2.2 (B5 st.2.2.2 id:Int)).2.2.2 with
    | true=>rfl
    | false=>
     simp only [Bool.not_false,cond_true,cond_false,Bool.false_eq_true,if_false,bO];by_cases hleft:(st.1.1.length:Int)-st.2.2.1<1
     ·rw [A0 hleft,if_pos hleft];rfl
     ·rw [A4 hleft,if_neg hleft];simp only [cond_false];have hr:=B21 h.g 3 0 id hidb hleft (.inr ⟨.inl rfl,rfl⟩);have hf:=C15 hU hh hd1 (by rw [hdn];simp);have hwi:D5 ((st.1.1,st.1.2),(st.2.1,(st.2.2.1,st.2.2.2))) 3 id 0 []=_:=B6d st 3 id 0 [] hU hr T9 g5 (by omega) hl _ hf;simp only [B8,Bool.not_false,cond_true];rw [hwi];rfl
   ·rw [A4 hc,if_pos hc];rfl
theorem B9U(st:A6)(id:X0)(sum:Int)(hid:id.size<=maxLen)(h:Rt st)(hS:A8v st)(hok:E7 st=some (true,())):O7 st id sum=some ((A3Q st id sum).1,(A3Q st id sum).2,()):=by
 obtain ⟨g1,g2,g3,g4,⟨g5,g6⟩,_⟩:=h.g;have hU:=h.up;have hl:st.1.1.length<=1048576:=by omega
 have hul:=hU.2.1;simp only [O7,A8l,A12 st hS,hok,B20 id hid,bO,A3Q];cases hidb:idB id with
 | false=>rfl
 | true=>
  simp only [Bool.not_true,cond_false,B8,if_true];rw [C0w st.2.2.2 id hU,C11 st g5 g6 hl];cases hh:H6 st.2.2.2 id with
  | false=>
   simp only [Bool.false_eq_true,if_false,bO];rw [A0 (show (-1:Int)<0 by omega)];rfl
  | true=>
   obtain ⟨hlt,hid2⟩:=H1.1 hh;have hu:=hU.2.2 _ (List.getElem_mem hlt);have hdl:=B3E hU _ (List.getElem_mem hlt);rw [<- C7 (k:=kUp) hlt] at hu hdl;simp only [if_true,bO];rw [A4 (show ¬ (B5 st.2.2.2 id:Int)<0 by omega),A0 (show (0:Int)<=(B5 st.2.2.2 id:Int) by omega),A0 (show (B5 st.2.2.2 id:Int)<(st.2.2.2.length:Int) by omega)];simp only [cond_true,cond_false];rw [B9E _ hu.2.2.2 (by simp only [maxLen];omega)];simp only [bO];by_cases hd1:(List.length (rd kUp st.2.2.2 (B5 st.2.2.2 id:Int)).2.2.1:Int)<(rd kUp st.2.2.2 (B5 st.2.2.2 id:Int)).2.1
   ·rw [A0 hd1,if_pos hd1];rfl
   rw [A4 hd1,if_neg hd1];simp only [cond_false];by_cases hc:sum=((A6o (rd kUp st.2.2.2 (B5 st.2.2.2 id:Int)).2.2.1 ^^^ 4294967295:Nat):Int)
   ·rw [A0 hc,if_neg (fun hx=>hx hc)];simp only [Bool.not_true,cond_false];cases hdn:(rd kUp st.2.2.2 (B5 st.2.2.2 id:Int)).2.2.2 with
    | true=>rfl
    | false=>
     simp only [Bool.not_false,cond_true,cond_false,Bool.false_eq_true,if_false,bO];by_cases hleft:(st.1.1.length:Int)-st.2.2.1<1
     ·rw [A0 hleft,if_pos hleft];rfl
     ·rw [A4 hleft,if_neg hleft];simp only [cond_false];have hr:=B21 h.g 3 0 id hidb hleft (.inr ⟨.inl rfl,rfl⟩);have hf:=C15 hU hh hd1 (by rw [hdn];simp);rw [B6c st 0 0 3 id 0 [] hU hr T9 g5 (by omega) hl _ hf];rfl
   ·rw [A4 hc,if_pos hc];rfl
theorem D8Q(st:A6)(id:X0)(hid:id.size<=maxLen)(h:Rt st):A1t st id=some ((A7S st id).2,(A7S st id).1,()):=by
 obtain ⟨g1,g2,g3,g4,⟨g5,g6⟩,_⟩:=h.g;have hU:=h.up;have hl:st.1.1.length<=1048576:=by omega
 have hul:=hU.2.1;simp only [A1t,A8d,B6T id hid,bO,A7S];cases hidb:idB id with
 | false=>rfl
 | true=>
  simp only [Bool.not_true,cond_false,if_true,B8];rw [B1L st.2.2.2 id (by simp only [maxLen];omega),C10 st g5 g6 hl];cases hh:H6 st.2.2.2 id with
  | false=>
   simp only [Bool.false_eq_true,if_false,bO];rw [A0 (show (-1:Int)<0 by omega)];rfl
  | true=>
   simp only [if_true,bO];rw [A4 (show ¬ (B5 st.2.2.2 id:Int)<0 by omega)];simp only [cond_false,Bool.not_true];by_cases hleft:(st.1.1.length:Int)-st.2.2.1<1
   ·rw [A0 hleft,if_pos hleft];rfl
   ·rw [A4 hleft,if_neg hleft];simp only [cond_false];have hr:=B21 h.g 4 0 id hidb hleft (.inr ⟨.inr rfl,rfl⟩);have hf:=C6F (st:=st) hh;have hwi:D5 ((st.1.1,st.1.2),(st.2.1,(st.2.2.1,st.2.2.2))) 4 id 0 []=_:=B6d st 4 id 0 [] hU hr T9 g5 (by omega) hl _ hf;rw [hwi];rfl
theorem B9V(st:A6)(id:X0)(hid:id.size<=maxLen)(h:Rt st)(hS:A8v st)(hok:E7 st=some (true,())):O8 st id=some ((A7S st id).1,(A7S st id).2,()):=by
 obtain ⟨g1,g2,g3,g4,⟨g5,g6⟩,_⟩:=h.g;have hU:=h.up;have hl:st.1.1.length<=1048576:=by omega
 have hul:=hU.2.1;simp only [O8,A8m,A12 st hS,hok,B20 id hid,bO,A7S];cases hidb:idB id with
 | false=>rfl
 | true=>
  simp only [Bool.not_true,cond_false,B8,if_true];rw [C0w st.2.2.2 id hU,C11 st g5 g6 hl];cases hh:H6 st.2.2.2 id with
  | false=>
   simp only [Bool.false_eq_true,if_false,bO];rw [A0 (show (-1:Int)<0 by omega)];rfl
  | true=>
   simp only [if_true,bO];rw [A4 (show ¬ (B5 st.2.2.2 id:Int)<0 by omega)];simp only [cond_false];by_cases hleft:(st.1.1.length:Int)-st.2.2.1<1
   ·rw [A0 hleft,if_pos hleft];rfl
   ·rw [A4 hleft,if_neg hleft];simp only [cond_false];have hr:=B21 h.g 4 0 id hidb hleft (.inr ⟨.inr rfl,rfl⟩);have hf:=C6F (st:=st) hh;rw [B6c st 0 0 4 id 0 [] hU hr T9 g5 (by omega) hl _ hf];rfl
theorem D3i{xs:List Int}(h:Byt xs):bytesOf (strOf xs)=xs:=by
 show ((strOfNums xs).data.toList.map fun b=>(b.toNat:Int))=xs;rw [strOfNums_data,List.map_map];refine (List.map_congr_left fun x hx=>?_).trans (List.map_id _);have:=h x hx;simp only [Function.comp,id];have e:(UInt8.ofNat x.toNat).toNat=x.toNat % 256:=UInt8.toNat_ofNat;rw [e];omega
theorem D3j(s:X0):strOf (bytesOf s)=s:=by
 refine D05 ?_;rw [ByteArray.toList_eq,ByteArray.toList_eq];show ((bytesOf s).map fun n=>UInt8.ofNat n.toNat)=s.data.toList;rw [bytesOf,List.map_map];refine (List.map_congr_left fun x hx=>?_).trans (List.map_id _);simp
theorem D8R(n:Nat):IntKind.u8.wrap (n:Int)=((n % 256:Nat):Int):=by
 simp only [IntKind.wrap,IntKind.bits,IntKind.signed];simp
theorem D8S(x y:Nat)(h:y<256):(x*256) ||| y=x*256+y:=by
 have:=Nat.two_pow_add_eq_or_of_lt (i:=8) (b:=y) (by simpa using h) x;rw [Nat.mul_comm x 256];exact this.symm
theorem D8T(p q:List Int)(n k:Nat):∀ j,j<=k->A1D (p++(big (n:Int) k++q)) p.length j=n / 2 ^ (8*(k-j)) % 2 ^ (8*j)
 | 0,_=>by simp [A1D,Nat.mod_one]
 | j+1,hj=>by
  have ih:=D8T p q n k j (by omega);have hget:(p++(big (n:Int) k++q)).getD (p.length+j) 0=D11 (n:Int) k j:=by
   simp only [List.getD];rw [List.getElem?_append_right (by omega),Nat.add_sub_cancel_left,List.getElem?_append_left (by rw [M9];omega)];simp only [big,List.getElem?_map,List.getElem?_range (show j<k by omega),Option.map_some,Option.getD_some]
  have hat:D11 (n:Int) k j=((n / 2 ^ (8*(k-1-j)) % 256:Nat):Int):=by
   unfold D11;rw [<- D8R]
   congr 1
   rw [show (2:Int) ^ (8*(k-1-j))=((2 ^ (8*(k-1-j)):Nat):Int) by rw [Int.natCast_pow];rfl,Int.fdiv_eq_ediv_of_nonneg _ (Int.natCast_nonneg _),<- Int.natCast_ediv]
  simp only [A1D];rw [ih,hget,hat,Int.toNat_natCast,D8S _ _ (Nat.mod_lt _ (by omega))];rw [show k-1-j=k-(j+1) by omega];have e1:2 ^ (8*(k-j))=2 ^ (8*(k-(j+1)))*256:=by rw [show 8*(k-j)=8*(k-(j+1))+8 by omega,Nat.pow_add]
  have e2:2 ^ (8*(j+1))=256*2 ^ (8*j):=by rw [show 8*(j+1)=8+8*j by omega,Nat.pow_add]
  rw [e1,<- Nat.div_div_eq_div_mul,e2,Nat.mod_mul];omega
theorem B1M{b:List Int}(p q:List Int)(n:Int)(k a:Nat)(h:b=p++(big n k++q))(ha:a=p.length)(h0:0<=n)(h1:n<2 ^ (8*k)):(A1D b a k:Int)=n:=by
 subst h;subst ha;obtain ⟨m,rfl⟩:∃ m:Nat,n=(m:Int):=⟨n.toNat,by omega⟩;rw [D8T p q m k k (Nat.le_refl _),Nat.sub_self,Nat.mul_zero,Nat.pow_zero,Nat.div_one];rw [show (2:Int) ^ (8*k)=((2 ^ (8*k):Nat):Int) by rw [Int.natCast_pow];rfl] at h1;rw [Nat.mod_eq_of_lt (by omega)]
theorem D6J{r:I2}(h:B8E r):bytesOf (A0l r)=B8D r++big (A23 (F01 (B8D r))) 4:=by
 unfold A0l;exact D3i (D02 (D17 r h.2) (E3K _ _))
theorem E8i{r:I2}(h:V4 r=true)(c:List Int):B8D r++c=big r.1 3++(big r.2.1 2++(big r.2.2.1 1++(big (r.2.2.2.1.size:Int) 1++(bytesOf r.2.2.2.1++(big r.2.2.2.2.1 4++(big (List.length r.2.2.2.2.2:Int) 1++(r.2.2.2.2.2++c))))))):=by
 have hb:=A25 h;have hq:0<=r.2.1:=by
  simp only [V4,Bool.and_eq_true] at h;exact (of_decide_eq_true h.1.1.2).1
 unfold B8D;rw [A7R (n:=r.1) (by omega),A7R (n:=r.2.1) hq,A7R (n:=r.2.2.1) (by omega),A7R (n:=(r.2.2.2.1.size:Int)) (by omega),A7R (n:=r.2.2.2.2.1) (by omega),A7R (n:=(List.length r.2.2.2.2.2:Int)) (by omega)];simp only [List.append_assoc]
theorem E4d{r:I2}(h:V4 r=true):0<=r.2.1/\r.2.1<=199:=by
 simp only [V4,Bool.and_eq_true] at h;exact of_decide_eq_true h.1.1.2
theorem E4e{r:I2}(h:V4 r=true)(c:List Int):E2 (B8D r++c)=r.2.2.2.1.size/\U0 (B8D r++c)=List.length r.2.2.2.2.2/\recAt (B8D r++c)=r:=by
 have hb:=A25 h;have hq:=E4d h;have e:=E8i h c;generalize B8D r++c=b at e;have b6:(A1D b 6 1:Int)=(r.2.2.2.1.size:Int):=B1M (big r.1 3++(big r.2.1 2++big r.2.2.1 1)) _ _ 1 6 (by rw [e];simp only [List.append_assoc];rfl) (by simp [M9]) (by omega) (by omega);have hid:E2 b=r.2.2.2.1.size:=by unfold E2;omega
 have b11:(A1D b (11+E2 b) 1:Int)=(List.length r.2.2.2.2.2:Int):=
  B1M (big r.1 3++(big r.2.1 2++(big r.2.2.1 1++(big (r.2.2.2.1.size:Int) 1++(bytesOf r.2.2.2.1++big r.2.2.2.2.1 4))))) _ _ 1 _ (by rw [e];simp only [List.append_assoc];rfl) (by simp [M9,bytesOf_length,hid];omega) (by omega) (by omega)
 have hdl:U0 b=List.length r.2.2.2.2.2:=by unfold U0;omega
 refine ⟨hid,hdl,?_⟩;have b0:(A1D b 0 3:Int)=r.1:=B1M [] _ _ 3 0 (by rw [e];rfl) rfl (by omega) (by omega);have b3:(A1D b 3 2:Int)=r.2.1:=B1M (big r.1 3) _ _ 2 3 (by rw [e]) (by simp [M9]) (by omega) (by omega);have b5:(A1D b 5 1:Int)=r.2.2.1:=B1M (big r.1 3++big r.2.1 2) _ _ 1 5 (by rw [e];simp only [List.append_assoc];rfl) (by simp [M9]) (by omega) (by omega);have b7:(A1D b (7+E2 b) 4:Int)=r.2.2.2.2.1:=B1M (big r.1 3++(big r.2.1 2++(big r.2.2.1 1++(big (r.2.2.2.1.size:Int) 1++bytesOf r.2.2.2.1)))) _ _ 4 _ (by rw [e];simp only [List.append_assoc];rfl) (by simp [M9,bytesOf_length,hid];omega) (by omega) (by omega);have t1:(b.take (7+E2 b)).drop 7=bytesOf r.2.2.2.1:=by
  have e7:b=(big r.1 3++(big r.2.1 2++(big r.2.2.1 1++big (r.2.2.2.1.size:Int) 1)))++(bytesOf r.2.2.2.1++(big r.2.2.2.2.1 4++(big (List.length r.2.2.2.2.2:Int) 1++(r.2.2.2.2.2++c)))):=by rw [e];simp only [List.append_assoc]
  have hl7:(big r.1 3++(big r.2.1 2++(big r.2.2.1 1++big (r.2.2.2.1.size:Int) 1))).length=7:=by simp [M9]
  rw [hid,List.drop_take,Nat.add_sub_cancel_left,e7,<- hl7,List.drop_left,<- bytesOf_length,List.take_left]
 have t2:(b.take (12+E2 b+U0 b)).drop (12+E2 b)=r.2.2.2.2.2:=by
  have e12:b=(big r.1 3++(big r.2.1 2++(big r.2.2.1 1++(big (r.2.2.2.1.size:Int) 1++(bytesOf r.2.2.2.1++(big r.2.2.2.2.1 4++big (List.length r.2.2.2.2.2:Int) 1))))))++(r.2.2.2.2.2++c):=by rw [e];simp only [List.append_assoc]
  have hl12:(big r.1 3++(big r.2.1 2++(big r.2.2.1 1++(big (r.2.2.2.1.size:Int) 1++(bytesOf r.2.2.2.1++(big r.2.2.2.2.1 4++big (List.length r.2.2.2.2.2:Int) 1)))))).length=12+r.2.2.2.1.size:=by simp [M9,bytesOf_length];omega
  rw [hid,hdl,List.drop_take,Nat.add_sub_cancel_left,e12,<- hl12,List.drop_left,List.take_left]
 unfold recAt;rw [b0,b3,b5,b7,t1,t2,D3j]
theorem C3M{r:I2}(h:B8E r):D9 (A0l r)=(r,true,()):=by
 have hpb:=D6J h;obtain ⟨h1,h2,h3⟩:=E4e h.1 (big (A23 (F01 (B8D r))) 4);have hsz:(A0l r).size=12+r.2.2.2.1.size+List.length r.2.2.2.2.2+4:=by
  unfold A0l;rw [B6U,List.length_append,B9J,M9]
 have hg:B3A (A0l r)=true:=by
  unfold B3A;rw [hpb,h1,h2,h3,hsz,A0 (by omega),h.1];simp
 unfold D9;rw [if_pos hg,hpb,h3]
theorem E4f{r:I2}(h:V4 r=true):(A0l r).size<=64:=by
 have hb:=A25 h;unfold A0l;rw [B6U,List.length_append,B9J,M9];omega
def A4A(last:Int)(i:Nat)(s:X0):Bool:=(D9 s).2.1&&decide ((D9 s).1.2.1=(i:Int))&&!decide ((D9 s).1.1<last)
def L1(last:Int)(i:Nat):List X0->List I2
 | []=> []
 | s::l=>if A4A last i s=true then (D9 s).1::L1 (D9 s).1.1 (i+1) l else []
def B7(now:List X0):List I2:=L1 0 0 now
def A2v:Int->List I2->Int
 | e,[]=>e
 | _,r::l=>A2v r.1 l
theorem A8w(last:Int)(i:Nat)(l:List X0):(L1 last i l).length<=l.length:=by
 induction l generalizing last i with
 | nil=>exact Nat.le_refl _
 | cons s l ih=>
  simp only [L1];split
  ·have:=ih (D9 s).1.1 (i+1);simp only [List.length_cons];omega
  ·simp
theorem B6e(last:Int)(i:Nat)(l:List X0):∀ r∈L1 last i l,B8E r:=by
 induction l generalizing last i with
 | nil=>intro r hr;cases hr
 | cons s l ih=>
  intro r hr;simp only [L1] at hr;split at hr
  ·rename_i hg;simp only [A4A,Bool.and_eq_true] at hg;rcases List.mem_cons.1 hr with rfl | hr
   ·exact C7c hg.1.1
   ·exact ih _ _ r hr
  ·cases hr
theorem E77(last:Int)(i:Nat)(l:List X0):last<=A2v last (L1 last i l)/\∀ r∈L1 last i l,r.1<=A2v last (L1 last i l):=by
 induction l generalizing last i with
 | nil=>exact ⟨Int.le_refl _,fun r hr=>by cases hr⟩
 | cons s l ih=>
  simp only [L1];split
  ·rename_i hg;obtain ⟨h1,h2⟩:=ih (D9 s).1.1 (i+1);simp only [A4A,Bool.and_eq_true,Bool.not_eq_true',decide_eq_false_iff_not] at hg;have h3:=hg.2;simp only [A2v];refine ⟨by omega,fun r hr=>?_⟩;rcases List.mem_cons.1 hr with rfl | hr
   ·exact h1
   ·exact h2 r hr
  ·exact ⟨Int.le_refl _,fun r hr=>by cases hr⟩
theorem D5G(last:Int)(i:Nat)(a b:List X0)(h:(L1 last i a).length=a.length):L1 last i (a++b)=L1 last i a++L1 (A2v last (L1 last i a)) (i+a.length) b:=by
 induction a generalizing last i with
 | nil=>simp [L1,A2v]
 | cons s a ih=>
  simp only [L1,List.cons_append] at h ⊢;split
  ·rename_i hg;rw [if_pos hg] at h;simp only [List.length_cons,Nat.add_right_cancel_iff] at h;rw [ih _ _ h,List.cons_append,A2v,List.length_cons]
   congr 3
   omega
  ·rename_i hg;rw [if_neg hg] at h;simp at h
theorem E17(last:Int)(i:Nat)(l:List X0):L1 last i (l.take (L1 last i l).length)=L1 last i l:=by
 induction l generalizing last i with
 | nil=>rfl
 | cons s l ih=>
  simp only [L1];split
  ·rename_i hg;simp only [List.length_cons,List.take_succ_cons,L1,if_pos hg,ih]
  ·rfl
theorem C3N(last:Int)(i:Nat)(l:List X0)(h:∀ s,l.head? = some s->A4A last i s=false):L1 last i l = []:=by
 cases l with
 | nil=>rfl
 | cons s l=>simp only [L1,h s rfl,Bool.false_eq_true,if_false]
theorem B6f(last:Int)(i:Nat)(s:X0)(l:List X0):L1 last i (s::l)=bif A4A last i s then (D9 s).1::L1 (D9 s).1.1 (i+1) l else []:=by
 simp only [L1];cases A4A last i s<;>rfl
set_option maxRecDepth 100000 in
theorem C16(d:G0)(h:A8u d.1):A0f d=some (B7 d.1,()):=by
 have hl:=h.1;obtain ⟨z,e,hz⟩:=P0 (A0F M4 d) (fun l=>((d.1.length:Int)-l.2.1).toNat) (fun l=>∃ i:Nat,l.2.1=(i:Int)/\i<=d.1.length/\List.length l.2.2.1=i/\B7 d.1=l.2.2.1++L1 l.1 i (d.1.drop i))
  (fun z=>z=(B7 d.1,())) (fun l hl=>by
   obtain ⟨i,h0,h1,h2,h3⟩:=hl;simp only [A0F];by_cases hi:i<d.1.length
   ·rw [h0,A0 (show (i:Int)<(d.1.length:Int) by omega),A0 (show (0:Int)<=(i:Int) by omega)];simp only [cond_true];rw [A9o _ (A9S h hi)];simp only [A3];rw [A7Q hi];have hdrop:d.1.drop i=d.1[i]::d.1.drop (i+1):=List.drop_eq_getElem_cons hi;rw [hdrop] at h3;rw [B6f] at h3;simp only [A4A] at h3;obtain ⟨g,hg⟩:∃ g,D9 d.1[i]=g:=⟨_,rfl⟩;rw [hg] at h3 ⊢;cases hk:g.2.1 with
    | false=>
     rw [hk] at h3;simp only [Bool.false_and,cond_false,List.append_nil] at h3;exact .inr ⟨_,rfl,by rw [h3]⟩
    | true=>
     rw [hk] at h3;simp only [Bool.true_and] at h3;simp only [Bool.not_true,cond_false];by_cases e1:g.1.2.1=(i:Int)
     ·rw [A0 e1] at h3 ⊢;by_cases e2:g.1.1<l.1
      ·rw [A0 e2] at h3 ⊢;simp only [Bool.not_true,Bool.and_false,cond_false,List.append_nil] at h3;exact .inr ⟨_,rfl,by rw [h3]⟩
      ·rw [A4 e2] at h3 ⊢;simp only [Bool.not_false,Bool.and_true,cond_true,Bool.true_and] at h3;simp only [Bool.not_true,cond_false];rw [A0 (by simp;omega),A0 (by simp;omega),w64 (by omega) (by omega)];refine .inl ⟨_,rfl,⟨i+1,by simp only;omega,by omega,by simp;omega,?_⟩,by simp only;omega⟩;simp only;rw [h3,List.append_assoc];rfl
     ·rw [A4 e1] at h3 ⊢;simp only [Bool.false_and,cond_false,List.append_nil] at h3;exact .inr ⟨_,rfl,by rw [h3]⟩
   ·rw [h0,A4 (show ¬ (i:Int)<(d.1.length:Int) by omega)];rw [List.drop_eq_nil_of_le (by omega)] at h3;simp only [L1,List.append_nil] at h3;exact .inr ⟨_,rfl,by rw [h3]⟩) (0,0,[],()) ⟨0,rfl,by omega,rfl,by simp [B7]⟩
 have e':A0f d=some z:=e;rw [e',hz]
structure GoodS (st:A6):Prop where
 dk:A5E st.1=true
 ep:0<=st.2.1/\st.2.1<=10000
 up:I1 [] (B7 st.1.1)=some st.2.2.2
 nx:st.2.2.1=(List.length (B7 st.1.1):Int)
 le:A2v 0 (B7 st.1.1)<=st.2.1
 tl:((st.1.1.drop (B7 st.1.1).length).all fun s=>!A5C st.2.1 s)=true
theorem A4h{d:G0}(h:A5E d=true):A5D d/\d.1.length=d.2.length/\d.1.length<=200/\(∀ s∈d.1,s.size<=64)/\∀ s∈d.2,s.size<=64:=by
 simp only [A5E,Bool.and_eq_true] at h;obtain ⟨h1,h2⟩:=h;have h1:=of_decide_eq_true h1;have k1:∀ s∈d.1,s.size<=64:=fun s hs=>by
  obtain ⟨i,hi,rfl⟩:=List.getElem_of_mem hs;have:=List.all_eq_true.1 h2 i (List.mem_range.2 hi);simp only [Bool.and_eq_true,Bool.not_eq_true',decide_eq_false_iff_not] at this;have h3:=this.1;rw [A7Q hi] at h3;omega
 have k2:∀ s∈d.2,s.size<=64:=fun s hs=>by
  obtain ⟨i,hi,rfl⟩:=List.getElem_of_mem hs;have:=List.all_eq_true.1 h2 i (List.mem_range.2 (by omega));simp only [Bool.and_eq_true,Bool.not_eq_true',decide_eq_false_iff_not] at this;have h3:=this.2;rw [A7Q hi] at h3;omega
 exact ⟨⟨⟨by omega,fun s hs=>by have:=k1 s hs;omega⟩,by omega,fun s hs=>by have:=k2 s hs;omega⟩,h1.1,h1.2,k1,k2⟩
theorem C4P{d:G0}(h1:d.1.length=d.2.length)(h2:d.1.length<=200)(h3:∀ s∈d.1,s.size<=64)(h4:∀ s∈d.2,s.size<=64):A5E d=true:=by
 simp only [A5E,Bool.and_eq_true];refine ⟨decide_eq_true ⟨h1,h2⟩,List.all_eq_true.2 fun i hi=>?_⟩;have hi:=List.mem_range.1 hi;rw [A7Q hi,A7Q (show i<d.2.length by omega)];have k1:=h3 _ (List.getElem_mem hi);have k2:=h4 _ (List.getElem_mem (show i<d.2.length by omega));rw [A4 (by omega),A4 (by omega)];rfl
theorem E18(l:List I2)(h:0<l.length)(e:Int):(rd B0q l ((l.length:Int)-1)).1=A2v e l:=by
 induction l generalizing e with
 | nil=>simp at h
 | cons r l ih=>
  cases l with
  | nil=>rfl
  | cons r' l=>
   have h2:=ih (by simp) r.1;simp only [A2v] at h2 ⊢;rw [<- h2];have e1:((r::r'::l).length:Int)-1=(((l.length+1):Nat):Int):=by simp only [List.length_cons];omega
   have e2:((r'::l).length:Int)-1=((l.length:Nat):Int):=by simp only [List.length_cons];omega
   rw [e1,e2,C7 (k:=B0q) (xs:=r::r'::l) (by simp),C7 (k:=B0q) (xs:=r'::l) (by simp)];rfl
theorem C7e(st:A6)(h:A8u st.1.1)(hb:∀ u∈st.2.2.2,Byt u.2.2.1):∃ b,E7 st=some (b,())/\A3p st=some (b,())/\(b=true↔GoodS st):=by
 obtain ⟨b,hs,hi,_⟩:=D1D st h;refine ⟨b,hs,hi,?_⟩;have hl:=h.1;have hrg:=B6e 0 0 st.1.1;have hll:=A8w 0 0 st.1.1;have hfs:=A5B (B7 st.1.1) (by simp only [maxLen,B7];omega) hrg;simp only [E7,B2u,A9r,C16 st.1 h,hfs,P7,A3] at hs;have hsc:L1 0 0 st.1.1=B7 st.1.1:=rfl;rw [hsc] at hrg hll;cases hbd:A5E st.1 with
 | false=>
  rw [hbd] at hs;have:b=false:=by
   simp only [Bool.not_false,cond_true] at hs
   first | (injection hs with hs;injection hs with hs;exact hs.symm) | (simp [B8] at hs;exact hs.symm)
  rw [this];exact ⟨fun e=>by (cases e),fun g=>by rw [g.dk] at hbd;cases hbd⟩
 | true=>
  rw [hbd] at hs;simp only [Bool.not_true,cond_false] at hs;by_cases he:0<=st.2.1/\st.2.1<=10000
  ·rw [A0 he] at hs;simp only [Bool.not_true,cond_false,B8] at hs;unfold W8 at hs;cases hf:I1 [] (B7 st.1.1) with
   | none=>
    rw [hf] at hs;have:b=false:=by
     first | (injection hs with hs;injection hs with hs;exact hs.symm) | (simp at hs;exact hs.symm)
    rw [this];exact ⟨fun e=>by (cases e),fun g=>by rw [g.up] at hf;cases hf⟩
   | some us=>
    have hu:=A9q B3D hrg hf;have hul:=hu.2.1;rw [hf] at hs;simp only at hs;rw [D5D _ _ (show us.length<=maxLen by simp only [maxLen];omega)] at hs;simp only [Bool.not_true,cond_false] at hs;cases hsm:A2u us st.2.2.2 with
    | false=>
     rw [hsm] at hs;have:b=false:=by
      first | (injection hs with hs;injection hs with hs;exact hs.symm) | (simp at hs;exact hs.symm)
     rw [this];refine ⟨fun e=>by (cases e),fun g=>?_⟩;have:=g.up;rw [hf] at this;injection this with this
     rw [this,C1m] at hsm;cases hsm
    | true=>
     have heq:=E10 (fun u hu'=>(hu.2.2 u hu').2.2.2) hb hsm;rw [hsm] at hs;simp only [Bool.not_true,cond_false] at hs;by_cases hn:st.2.2.1=(List.length (B7 st.1.1):Int)
     ·rw [A0 hn] at hs;simp only [Bool.not_true,cond_false] at hs;have htail:=D5E st h (B7 st.1.1).length hll;rw [hn] at hs;rw [htail] at hs;by_cases hl0:(List.length (B7 st.1.1):Int)>0
      ·rw [A0 hl0,w64 (n:=(List.length (B7 st.1.1):Int)-1) (by omega) (by omega),A0 (show (0:Int)<=(List.length (B7 st.1.1):Int)-1 by omega),A0 (show (List.length (B7 st.1.1):Int)-1<(List.length (B7 st.1.1):Int) by omega),E18 (B7 st.1.1) (by omega) 0] at hs;simp only [cond_true] at hs;by_cases hle:A2v 0 (B7 st.1.1)>st.2.1
       ·rw [A0 hle] at hs;have:b=false:=by
         first | (injection hs with hs;injection hs with hs;exact hs.symm) | (simp at hs;exact hs.symm)
        rw [this];exact ⟨fun e=>by (cases e),fun g=>by have:=g.le;omega⟩
       ·rw [A4 hle] at hs;simp only [cond_false] at hs;have:b=((st.1.1.drop (B7 st.1.1).length).all fun s=>!A5C st.2.1 s):=by
         first | (injection hs with hs;injection hs with hs;exact hs.symm) | (simp at hs;exact hs.symm)
        rw [this];exact ⟨fun e=>⟨hbd,he,by rw [hf,heq],hn,by omega,e⟩,fun g=>g.tl⟩
      ·rw [A4 hl0] at hs;simp only [cond_false] at hs;have:b=((st.1.1.drop (B7 st.1.1).length).all fun s=>!A5C st.2.1 s):=by
        first | (injection hs with hs;injection hs with hs;exact hs.symm) | (simp at hs;exact hs.symm)
       rw [this];have hnil:B7 st.1.1 = []:=List.length_eq_zero_iff.1 (by omega);exact ⟨fun e=>⟨hbd,he,by rw [hf,heq],hn,by rw [hnil];exact he.1,e⟩,fun g=>g.tl⟩
     ·rw [A4 hn] at hs;have:b=false:=by
       first | (injection hs with hs;injection hs with hs;exact hs.symm) | (simp at hs;exact hs.symm)
      rw [this];exact ⟨fun e=>by (cases e),fun g=>absurd g.nx hn⟩
  ·rw [A4 he] at hs;have:b=false:=by
    first | (injection hs with hs;injection hs with hs;exact hs.symm) | (simp [B8] at hs;exact hs.symm)
   rw [this];exact ⟨fun e=>by (cases e),fun g=>absurd g.ep he⟩
theorem D6K{st:A6}(h:GoodS st)(hr:Ups st.2.2.2):Rt st:=by
 obtain ⟨k1,k2,k3,k4,k5⟩:=A4h h.dk;have:=A8w 0 0 st.1.1;have hn:=h.nx;exact ⟨⟨h.ep.1,h.ep.2,k2,k3,by simp only [B7] at hn;omega,st.2.2.2,hr,C1m _⟩,hr,k1⟩
theorem B9W{st:A6}(h:GoodS st):Ups st.2.2.2:=A9q B3D (B6e 0 0 st.1.1) h.up
theorem B9a:∀ (l l':List I2) (us:List TUp),I1 us (l++l')=(I1 us l).bind fun us'=>I1 us' l'
 | [],l',us=>rfl
 | r::l,l',us=>by
  simp only [List.cons_append,I1];cases L8 us r with
  | none=>rfl
  | some us'=>exact B9a l l' us'
theorem E4g(l:List I2)(r:I2)(e:Int):A2v e (l ++ [r])=r.1:=by
 induction l generalizing e with
 | nil=>rfl
 | cons x l ih=>exact ih x.1
theorem B22{st:A6}(h:GoodS st){r:I2}(hr:B8E r)(h1:r.1=st.2.1)(h2:r.2.1=st.2.2.1)(hlt:st.2.2.1<(st.1.1.length:Int)){us:List TUp}(hf:L8 st.2.2.2 r=some us) :
  GoodS (wrote st r us)/\B7 (wrote st r us).1.1=B7 st.1.1 ++ [r]:=by
 obtain ⟨k1,k2,k3,k4,k5⟩:=A4h h.dk;have hn:=h.nx;generalize hL:B7 st.1.1=L at *
 have hll:L.length<=st.1.1.length:=by rw [<- hL];exact A8w 0 0 st.1.1
 have hlt':L.length<st.1.1.length:=by omega
 have hto:st.2.2.1.toNat=L.length:=by omega
 have hset:st.1.1.set L.length (A0l r)=st.1.1.take L.length++A0l r::st.1.1.drop (L.length+1):=by
  rw [List.set_eq_take_append_cons_drop,if_pos hlt']
 have htake:L1 0 0 (st.1.1.take L.length)=L:=by
  have:=E17 0 0 st.1.1;rw [show L1 0 0 st.1.1=L from hL] at this;exact this
 have hgo:A4A (A2v 0 L) L.length (A0l r)=true:=by
  simp only [A4A,C3M hr,Bool.true_and];rw [h1,h2,A0 (by omega),A4 (by have:=h.le;rw [hL] at this;omega)];rfl
 have htl:=h.tl;rw [hL] at htl;have hscan:B7 (wrote st r us).1.1=L ++ [r]:=by
  show L1 0 0 (st.1.1.set st.2.2.1.toNat (A0l r))=_;rw [hto,hset,D5G _ _ _ _ (by rw [htake,List.length_take];omega),htake]
  congr 1
  have hle:(st.1.1.take L.length).length=L.length:=by rw [List.length_take];omega
  simp only [L1,hle,Nat.zero_add,hgo,if_true,C3M hr]
  congr 1
  refine C3N _ _ _ fun s hs=>?_
  have hmem:s∈st.1.1.drop (L.length+1):=List.mem_of_mem_head? hs;have hmem2:s∈st.1.1.drop L.length:=by
   rw [List.drop_eq_getElem_cons hlt'];exact List.mem_cons_of_mem _ hmem
  have:=List.all_eq_true.1 htl s hmem2;simp only [A5C,Bool.not_eq_true',Bool.and_eq_false_iff,decide_eq_false_iff_not] at this;simp only [A4A,h1];rcases this with h3 | h3
  ·rw [h3];rfl
  ·rw [A0 (show (D9 s).1.1<st.2.1 by omega)];simp
 have hlen:(L ++ [r]).length=L.length+1:=by simp
 refine ⟨⟨?_,h.ep,?_,?_,?_,?_⟩,hscan⟩
 ·refine C4P ?_ ?_ (fun s hs=>?_) k5
  ·show (st.1.1.set _ _).length=_;rw [List.length_set];exact k2
  ·show (st.1.1.set _ _).length<=_;rw [List.length_set];exact k3
  ·rcases List.mem_or_eq_of_mem_set hs with hs | rfl
   ·exact k4 s hs
   ·exact E4f hr.1
 ·have hup:=h.up;rw [hL] at hup;rw [hscan,B9a,hup];show I1 st.2.2.2 [r]=some us;simp only [I1,hf]
 ·rw [hscan,hlen];show st.2.2.1+1=_;omega
 ·rw [hscan,E4g,h1];exact Int.le_refl _
 ·rw [hscan,hlen];show ((st.1.1.set st.2.2.1.toNat (A0l r)).drop (L.length+1)).all _=true;rw [hto,List.drop_set_of_lt (by omega)];rw [List.drop_eq_getElem_cons hlt',List.all_cons,Bool.and_eq_true] at htl;exact htl.2
def U1(now sure:List X0)(k:List Bool):List X0:=(List.range now.length).map fun i=>bif k.getD i false then now.getD i ⟨#[]⟩ else sure.getD i ⟨#[]⟩
def B4b(d:G0)(k:List Bool):G0:=(U1 d.1 d.2 k,U1 d.1 d.2 k)
theorem B9b(now sure:List X0)(k:List Bool):(U1 now sure k).length=now.length:=by simp [U1]
theorem C4Q{now sure:List X0}{k:List Bool}(h:now.length=sure.length){i:Nat}(hi:i<now.length):(U1 now sure k)[i]? = if k.getD i false=true then now[i]? else sure[i]?:=by
 simp only [U1,List.getElem?_map,List.getElem?_range hi,Option.map_some];rw [List.getElem?_eq_getElem hi,List.getElem?_eq_getElem (show i<sure.length by omega)];have e1:now.getD i ⟨#[]⟩=now[i]:=by simp [List.getD,hi]
 have e2:sure.getD i ⟨#[]⟩=sure[i]'(by omega):=by simp [List.getD,show i<sure.length by omega]
 rw [e1,e2];by_cases hb:k.getD i false=true
 ·rw [if_pos hb,hb];rfl
 ·rw [if_neg hb,Bool.eq_false_iff.2 hb];rfl
def A4B{α:Type}(l x:List α)(i:Nat):List α:=l.take i++x.drop i
theorem B23{α:Type}{l x:List α}(h:l.length=x.length)(i:Nat):(A4B l x i).length=x.length:=by simp [A4B];omega
theorem A9s{α:Type}{l x:List α}(h:l.length=x.length){i:Nat}(hi:i<l.length):(A4B l x i).set i l[i]=A4B l x (i+1):=by
 have hl:(l.take i).length=i:=by rw [List.length_take];omega
 unfold A4B;rw [List.drop_eq_getElem_cons (show i<x.length by omega)];have e:(l.take i++x[i]'(by omega)::x.drop (i+1)).set i l[i]=l.take i++(x[i]'(by omega)::x.drop (i+1)).set (i-(l.take i).length) l[i]:=List.set_append_right _ _ (by omega);rw [e,hl,Nat.sub_self,List.set_cons_zero,List.take_succ_eq_append_getElem hi,List.append_assoc];rfl
theorem D5H{α:Type}{l x:List α}(h:l.length=x.length){i:Nat}(hi:i<l.length)(he:l[i]? = x[i]?):A4B l x i=A4B l x (i+1):=by
 unfold A4B;rw [List.drop_eq_getElem_cons (show i<x.length by omega),List.take_succ_eq_append_getElem hi,List.append_assoc];rw [List.getElem?_eq_getElem hi,List.getElem?_eq_getElem (show i<x.length by omega)] at he;injection he with he
 rw [he];rfl
theorem B9c{α:Type}{l x:List α}(h:l.length=x.length){i:Nat}(hi:i<x.length):(A4B l x i)[i]? = x[i]?:=by
 unfold A4B;rw [List.getElem?_append_right (by rw [List.length_take];omega),List.length_take,Nat.min_eq_left (by omega),Nat.sub_self,List.getElem?_drop,Nat.add_zero]
theorem B4c(d:G0)(k:List Bool)(hd:A5E d=true):Q9 d k=some (B4b d k,()):=by
 obtain ⟨hS,hlen,h200,_,_⟩:=A4h hd;have hml:=B9b d.1 d.2 k;simp only [Q9,B11,A1l d hS,A9r,hd,bO,Bool.not_true,cond_false];have key:=E0 (L3 k) (fun i=>((i:Int),A4B (U1 d.1 d.2 k) d.1 i,A4B (U1 d.1 d.2 k) d.2 i,())) d.1.length (B4b d k,()) (fun i hi=>?_) ?_
 ·exact key
 ·have l1:=B23 (l:=U1 d.1 d.2 k) (x:=d.1) hml i;have l2:=B23 (l:=U1 d.1 d.2 k) (x:=d.2) (by omega) i;have g1:=B9c (l:=U1 d.1 d.2 k) (x:=d.1) hml hi;have g2:=B9c (l:=U1 d.1 d.2 k) (x:=d.2) (by omega) (show i<d.2.length by omega);have hm:=C4Q (k:=k) hlen hi;have hmi:i<(U1 d.1 d.2 k).length:=by omega
  simp only [L3,l1];rw [A0 (show (i:Int)<(d.1.length:Int) by omega)];have hb:(bif decide ((i:Int)<(k.length:Int)) then bif decide (0<=(i:Int)) then bif decide ((i:Int)<(k.length:Int)) then (some ((rd .bool k (i:Int)),()):Option (Bool×Unit)) else none else none else some (false,()))=some (k.getD i false,()):=by
   by_cases hik:i<k.length
   ·rw [A0 (show (i:Int)<(k.length:Int) by omega),A0 (show (0:Int)<=(i:Int) by omega)];simp only [cond_true];rw [C7 (k:=.bool) hik];simp [List.getD,hik]
   ·rw [A4 (show ¬ (i:Int)<(k.length:Int) by omega)];simp [List.getD,List.getElem?_eq_none (show k.length<=i by omega)]
  rw [hb];simp only [cond_true,bO,l2,hlen];rw [A0 (show (0:Int)<=(i:Int) by omega),A0 (show (i:Int)<(d.2.length:Int) by omega),w64 (by omega) (by omega)];have r1:rd .str (A4B (U1 d.1 d.2 k) d.1 i) (i:Int)=d.1[i]:=by
   rw [A7Q (by omega)];have:=g1;rw [List.getElem?_eq_getElem (by omega),List.getElem?_eq_getElem hi] at this;injection this
  have r2:rd .str (A4B (U1 d.1 d.2 k) d.2 i) (i:Int)=d.2[i]:=by
   rw [A7Q (by omega)];have:=g2;rw [List.getElem?_eq_getElem (by omega),List.getElem?_eq_getElem (show i<d.2.length by omega)] at this;injection this
  rw [r1,r2,Int.toNat_natCast];rw [List.getElem?_eq_getElem hmi,List.getElem?_eq_getElem hi,List.getElem?_eq_getElem (show i<d.2.length by omega)] at hm;cases hkb:k.getD i false with
  | true=>
   rw [hkb,if_pos rfl] at hm;injection hm with hm
   simp only [cond_true];rw [<- hm,A9s (by omega) hmi,D5H (l:=U1 d.1 d.2 k) (x:=d.1) hml hmi (by rw [List.getElem?_eq_getElem hmi,List.getElem?_eq_getElem hi,hm])];rfl
  | false=>
   rw [hkb,if_neg (by simp)] at hm;injection hm with hm
   simp only [cond_true,cond_false];rw [<- hm,A9s hml hmi,D5H (l:=U1 d.1 d.2 k) (x:=d.2) (by omega) hmi (by rw [List.getElem?_eq_getElem hmi,List.getElem?_eq_getElem (show i<d.2.length by omega),hm])];rfl
 ·have e1:A4B (U1 d.1 d.2 k) d.1 d.1.length=U1 d.1 d.2 k:=by unfold A4B;rw [List.drop_length,List.append_nil,List.take_of_length_le (by omega)]
  have e2:A4B (U1 d.1 d.2 k) d.2 d.1.length=U1 d.1 d.2 k:=by unfold A4B;rw [hlen,List.drop_length,List.append_nil,List.take_of_length_le (by omega)]
  simp only [L3,e1,e2];rw [A4 (by omega)];rfl
theorem E4h(d:G0)(k:List Bool)(hd:A5E d=true):A4V d k=some (B4b d k,()):=by
 obtain ⟨d',h1,h2,_⟩:=E8f d k (A4h hd).1;rw [B4c d k hd] at h1;rw [h2,<- h1]
theorem D8U(last:Int)(i:Nat)(l:List X0)(j:Nat):L1 last i (l.take j)=(L1 last i l).take j:=by
 induction l generalizing last i j with
 | nil=>simp [L1]
 | cons s l ih=>
  cases j with
  | zero=>simp [L1]
  | succ j=>
   simp only [List.take_succ_cons,B6f,ih];cases A4A last i s<;>simp
theorem D5I(last:Int)(j:Nat)(l:List X0)(i:Nat)(hi:i<(L1 last j l).length):∃ s,l[i]? = some s/\D9 s=((L1 last j l)[i],true,()):=by
 induction l generalizing last j i with
 | nil=>simp [L1] at hi
 | cons s l ih=>
  have e:=B6f last j s l;cases hg:A4A last j s with
  | false=>rw [hg] at e;rw [e] at hi;simp at hi
  | true=>
   rw [hg] at e;simp only [cond_true] at e;cases i with
   | zero=>
    refine ⟨s,rfl,?_⟩;simp only [A4A,Bool.and_eq_true] at hg;have h0:(L1 last j (s::l))[0]=(D9 s).1:=by simp only [e];rfl
    rw [h0];have:=hg.1.1;generalize D9 s=g at this;obtain ⟨a,b,u⟩:=g;simp only at this;rw [this]
   | succ i=>
    have hi2:i<(L1 (D9 s).1.1 (j+1) l).length:=by rw [e] at hi;simpa using hi
    obtain ⟨s',h1,h2⟩:=ih _ _ i hi2;refine ⟨s',h1,?_⟩;rw [h2]
    congr 1
    simp only [e,List.getElem_cons_succ]
theorem B6g{now x:List X0}{j:Nat}(hj:j<=(B7 now).length)(hx:x.take j=now.take j)(hlen:x.length=now.length):B7 x=(B7 now).take j++L1 (A2v 0 ((B7 now).take j)) j (x.drop j):=by
 have hll:=A8w 0 0 now;have hs:L1 0 0 (x.take j)=(B7 now).take j:=by rw [hx,D8U];rfl
 have h1:(L1 0 0 (x.take j)).length=(x.take j).length:=by
  rw [hs,List.length_take,List.length_take];simp only [B7] at hj ⊢;omega
 have:=D5G 0 0 (x.take j) (x.drop j) h1;rw [List.take_append_drop,hs] at this;have hj2:(x.take j).length=j:=by rw [List.length_take];simp only [B7] at hj;omega
 rw [hj2,Nat.zero_add] at this;exact this
theorem E78{now:List X0}{j:Nat}(hj:(B7 now).length=j):L1 (A2v 0 (B7 now)) j (now.drop j) = []:=by
 have h:=B6g (now:=now) (x:=now) (j:=j) (by omega) rfl rfl;rw [<- hj,List.take_length] at h;rw [<- hj];have h2:B7 now ++ []=B7 now++L1 (A2v 0 (B7 now)) (B7 now).length (now.drop (B7 now).length):=by rw [List.append_nil];exact h
 exact (List.append_cancel_left h2).symm
theorem E3Q{st:A6}(h:GoodS st):∀ s∈st.1.1,(D9 s).2.1=true->(D9 s).1.1<=st.2.1:=by
 intro s hs hr;obtain ⟨i,hi,rfl⟩:=List.getElem_of_mem hs;by_cases hl:i<(B7 st.1.1).length
 ·obtain ⟨s',h1,h2⟩:=D5I 0 0 st.1.1 i hl;rw [List.getElem?_eq_getElem hi] at h1;injection h1 with h1
  rw [h1,h2];have:=(E77 0 0 st.1.1).2 _ (List.getElem_mem hl);exact Int.le_trans this h.le
 ·have hm:st.1.1[i]∈st.1.1.drop (B7 st.1.1).length:=by
   rw [List.mem_iff_getElem];refine ⟨i-(B7 st.1.1).length,by rw [List.length_drop];omega,?_⟩;rw [List.getElem_drop]
   congr 1
   omega
  have:=List.all_eq_true.1 h.tl _ hm;simp only [A5C,hr,Bool.true_and,Bool.not_eq_true',decide_eq_false_iff_not] at this;omega
structure Dur (st:A6) (c:Nat):Prop where
 g:GoodS st
 le:c<=(B7 st.1.1).length
 out:∀ i,¬ (c<=i/\i<(B7 st.1.1).length)->st.1.2[i]? = st.1.1[i]?
 inn:∀ i s,c<=i->i<(B7 st.1.1).length->st.1.2[i]? = some s->A5C st.2.1 s=false
 ep:∀ i (h:i<(B7 st.1.1).length),c<=i->(B7 st.1.1)[i].1=st.2.1
 sc:B7 st.1.2=(B7 st.1.1).take c
theorem D8V{e:Int}{s:X0}(h:A5C e s=false)(i:Nat):A4A e i s=false:=by
 simp only [A5C,Bool.and_eq_false_iff,decide_eq_false_iff_not] at h;simp only [A4A];rcases h with h | h
 ·rw [h];rfl
 ·rw [A0 (show (D9 s).1.1<e by omega)];simp
theorem D1L{L:List I2}{e:Int}{j:Nat}(h0:0<j)(hj:j<=L.length):A2v e (L.take j)=(L[j-1]'(by omega)).1:=by
 induction L generalizing e j with
 | nil=>simp at hj;omega
 | cons r L ih=>
  cases j with
  | zero=>omega
  | succ j=>
   simp only [List.take_succ_cons,A2v];cases j with
   | zero=>simp [A2v]
   | succ j=>
    rw [ih (by omega) (by simpa using hj)];simp
theorem B9d{st:A6}{c:Nat}(h:Dur st c)(k:List Bool){i:Nat}(hi:i<st.1.1.length)(hk:k.getD i false=true\/¬ (c<=i/\i<(B7 st.1.1).length)):(U1 st.1.1 st.1.2 k)[i]? = st.1.1[i]?:=by
 obtain ⟨_,k2,_⟩:=A4h h.g.dk;rw [C4Q k2 hi];split
 ·rfl
 ·rename_i hn;rcases hk with hk | hk
  ·exact absurd hk hn
  ·exact h.out i hk
theorem E4i{α:Type}{x now:List α}{j:Nat}(hx:x.take j=now.take j)(hj:j<now.length)(hlen:x.length=now.length)(he:x[j]? = now[j]?):x.take (j+1)=now.take (j+1):=by
 rw [List.take_succ_eq_append_getElem (show j<x.length by omega),List.take_succ_eq_append_getElem hj,hx];rw [List.getElem?_eq_getElem (show j<x.length by omega),List.getElem?_eq_getElem hj] at he;injection he with he
 rw [he]
theorem E79{st:A6}{c:Nat}(h:Dur st c)(k:List Bool):∃ m,c<=m/\m<=(B7 st.1.1).length/\B7 (U1 st.1.1 st.1.2 k)=(B7 st.1.1).take m:=by
 obtain ⟨_,k2,k3,_⟩:=A4h h.g.dk;have hml:=B9b st.1.1 st.1.2 k;have hll:(B7 st.1.1).length<=st.1.1.length:=A8w 0 0 st.1.1;have go:∀ (n j:Nat),j+n=(B7 st.1.1).length->c<=j->(U1 st.1.1 st.1.2 k).take j=st.1.1.take j->∃ m,c<=m/\m<=(B7 st.1.1).length/\B7 (U1 st.1.1 st.1.2 k)=(B7 st.1.1).take m:=by
  intro n
  induction n with
  | zero=>
   intro j hj hc hx;rw [Nat.add_zero] at hj;refine ⟨j,hc,by omega,?_⟩;rw [B6g (by omega) hx hml,hj,List.take_length];have hdrop:(U1 st.1.1 st.1.2 k).drop (B7 st.1.1).length=st.1.1.drop (B7 st.1.1).length:=by
    refine List.ext_getElem? fun i=>?_
    rw [List.getElem?_drop,List.getElem?_drop];by_cases hi:(B7 st.1.1).length+i<st.1.1.length
    ·exact B9d h k hi (.inr (by omega))
    ·rw [List.getElem?_eq_none (by omega),List.getElem?_eq_none (by omega)]
   rw [hdrop,E78 rfl,List.append_nil]
  | succ n ih=>
   intro j hj hc hx;have hjl:j<st.1.1.length:=by omega
   cases hk:k.getD j false with
   | true=>exact ih (j+1) (by omega) (by omega) (E4i hx hjl hml (B9d h k hjl (.inl hk)))
   | false=>
    refine ⟨j,hc,by omega,?_⟩;rw [B6g (by omega) hx hml];have hs:L1 (A2v 0 ((B7 st.1.1).take j)) j ((U1 st.1.1 st.1.2 k).drop j) = []:=by
     refine C3N _ _ _ fun s hs=>?_
     have hs2:(U1 st.1.1 st.1.2 k)[j]? = some s:=by
      rw [List.head?_eq_getElem?,List.getElem?_drop,Nat.add_zero] at hs;exact hs
     rw [C4Q k2 hjl,hk,if_neg (by simp)] at hs2;by_cases hjc:j=c
     ·have hsp:=B6g (now:=st.1.2) (x:=st.1.2) (j:=c) (by rw [h.sc,List.length_take];omega) rfl rfl;rw [h.sc,List.take_take,Nat.min_self] at hsp;have hnil:L1 (A2v 0 ((B7 st.1.1).take c)) c (st.1.2.drop c) = []:=by
       have h2:(B7 st.1.1).take c ++ []=(B7 st.1.1).take c++L1 (A2v 0 ((B7 st.1.1).take c)) c (st.1.2.drop c):=by rw [List.append_nil];exact hsp
       exact (List.append_cancel_left h2).symm
      rw [hjc] at hs2 ⊢;have hcl:c<st.1.2.length:=(List.getElem?_eq_some_iff.1 hs2).1;rw [List.drop_eq_getElem_cons hcl,B6f] at hnil;have:st.1.2[c]=s:=by rw [List.getElem?_eq_getElem hcl] at hs2;injection hs2
      rw [this] at hnil;cases hg:A4A (A2v 0 ((B7 st.1.1).take c)) c s with
      | false=>rfl
      | true=>rw [hg] at hnil;cases hnil
     ·rw [D1L (by omega) (by omega),h.ep (j-1) (by omega) (by omega)];exact D8V (h.inn j s hc (by omega) hs2) _
    rw [hs,List.append_nil]
 refine go ((B7 st.1.1).length-c) c (by have:=h.le;omega) (Nat.le_refl _) ?_;refine List.ext_getElem? fun i=>?_
 by_cases hi:i<c
 ·rw [List.getElem?_take_of_lt hi,List.getElem?_take_of_lt hi];exact B9d h k (by have:=h.le;omega) (.inr (by omega))
 ·rw [List.getElem?_eq_none (by rw [List.length_take];omega),List.getElem?_eq_none (by rw [List.length_take];omega)]
theorem D06{now sure:List X0}{k:List Bool}(h:now.length=sure.length){s:X0}(hs:s∈U1 now sure k):s∈now\/s∈sure:=by
 obtain ⟨i,hi,rfl⟩:=List.getElem_of_mem hs;have hi':i<now.length:=by rw [B9b] at hi;exact hi
 have:=C4Q (k:=k) h hi';rw [List.getElem?_eq_getElem hi] at this;split at this
 ·exact .inl (List.mem_of_getElem? this.symm)
 ·exact .inr (List.mem_of_getElem? this.symm)
theorem D8W{st:A6}{c:Nat}(h:Dur st c):∀ s∈st.1.2,(D9 s).2.1=true->(D9 s).1.1<=st.2.1:=by
 intro s hs hr;obtain ⟨i,hi,rfl⟩:=List.getElem_of_mem hs;by_cases hb:c<=i/\i<(B7 st.1.1).length
 ·have:=h.inn i _ hb.1 hb.2 (List.getElem?_eq_getElem hi);simp only [A5C,hr,Bool.true_and,decide_eq_false_iff_not] at this;omega
 ·have:=h.out i hb;rw [List.getElem?_eq_getElem hi] at this;exact E3Q h.g _ (List.mem_of_getElem? this.symm) hr
theorem C4R:∀ (l:List I2) (us us':List TUp) (m:Nat),I1 us l=some us'->∃ u,I1 us (l.take m)=some u
 | _,us,_,0,_=>⟨us,by simp [I1]⟩
 | [],us,us',m+1,h=>⟨us',by simpa using h⟩
 | r::l,us,us',m+1,h=>by
  simp only [I1] at h;simp only [List.take_succ_cons,I1];split at h
  ·rename_i u1 e1;exact C4R l u1 us' m h
  ·cases h
theorem E8j{l:List X0}{b:Int}(hb:-1<=b)(h:∀ s∈l,(D9 s).2.1=true->(D9 s).1.1<=b):A48 l<=b:=by
 have h1:=C0v (b+1) l (-1);have h2:(l.all fun s=>!A5C (b+1) s)=true:=List.all_eq_true.2 fun s hs=>by
  simp only [A5C,Bool.not_eq_true',Bool.and_eq_false_iff,decide_eq_false_iff_not];cases hr:(D9 s).2.1 with
  | false=>exact .inl rfl
  | true=>have:=h s hs hr;exact .inr (by omega)
 rw [h2,A0 (show (-1:Int)<b+1 by omega),Bool.and_true] at h1;have:=of_decide_eq_true h1;show l.foldl A6Q (-1)<=b;omega
def A0B(x:List X0)(us:List TUp):A6:=((x,x),(A48 x+1,((List.length (B7 x):Int),us)))
theorem C7f{x:List X0}{us:List TUp}(hd:A5E (x,x)=true)(hu:I1 [] (B7 x)=some us)(ht:A48 x+1<=10000):GoodS (A0B x us):=by
 have h0:=D04 x;refine ⟨hd,⟨by show 0<=A48 x+1;omega,ht⟩,hu,rfl,?_,?_⟩
 ·show A2v 0 (B7 x)<=A48 x+1;have hg:∀ (i:Nat) (hi:i<(B7 x).length),∃ s,x[i]? = some s/\D9 s=((B7 x)[i],true,()):=D5I 0 0 x;by_cases hl:0<(B7 x).length
  ·have e:=D1L (L:=B7 x) (e:=0) (j:=(B7 x).length) hl (Nat.le_refl _);rw [List.take_length] at e;rw [e];obtain ⟨s,h1,h2⟩:=hg ((B7 x).length-1) (by omega);have h3:=E3P (List.mem_of_getElem? h1) (by rw [h2]);rw [h2] at h3;have h5:((B7 x)[(B7 x).length-1]'(by omega)).1<=A48 x:=h3;have h6:@LE.le Int _ ((B7 x)[(B7 x).length-1]'(by omega)).1 (A48 x+1):=by omega
   exact h6
  ·rw [List.length_eq_zero_iff.1 (show (B7 x).length=0 by omega)];show (0:Int)<=_;omega
 ·refine List.all_eq_true.2 fun s hs=>?_
  have hs2:s∈x:=List.mem_of_mem_drop hs;simp only [A5C,Bool.not_eq_true',Bool.and_eq_false_iff,decide_eq_false_iff_not];cases hr:(D9 s).2.1 with
  | false=>exact .inl rfl
  | true=>
   have:=E3P hs2 hr;refine .inr ?_;show ¬ (D9 s).1.1>=A48 x+1;omega
theorem B24{st:A6}(h:GoodS st):Dur ((st.1.1,st.1.1),st.2) (B7 st.1.1).length:=
 ⟨⟨E4c h.dk,h.ep,h.up,h.nx,h.le,h.tl⟩,Nat.le_refl _,fun i _=>rfl,fun i s h1 h2 _=>by (have h3:i<(B7 st.1.1).length:=h2;omega),fun i h1 h2=>by (have h3:i<(B7 st.1.1).length:=h1;omega),(List.take_length).symm⟩
theorem C3O{x:List X0}{us:List TUp}(h:GoodS (A0B x us)):Dur (A0B x us) (B7 x).length:=B24 h
theorem D5J{st:A6}{c:Nat}(h:Dur st c){r:I2}(hr:B8E r)(h1:r.1=st.2.1)(h2:r.2.1=st.2.2.1)(hlt:st.2.2.1<(st.1.1.length:Int)){us:List TUp}(hf:L8 st.2.2.2 r=some us):Dur (wrote st r us) c:=by
 obtain ⟨hg,hsc⟩:=B22 h.g hr h1 h2 hlt hf;have hnx:=h.g.nx;have hto:st.2.2.1.toNat=(B7 st.1.1).length:=by omega
 have hll:(B7 st.1.1).length<st.1.1.length:=by omega
 have hlen:((B7 st.1.1) ++ [r]).length=(B7 st.1.1).length+1:=by simp
 have hle:=h.le;refine ⟨hg,by rw [hsc,hlen];omega,fun i hi=>?_,fun i s hc hi hs=>?_,fun i hi hc=>?_,?_⟩
 ·rw [hsc,hlen] at hi;show st.1.2[i]? = (st.1.1.set st.2.2.1.toNat (A0l r))[i]?;rw [hto,List.getElem?_set_ne (by omega)];exact h.out i (by omega)
 ·rw [hsc,hlen] at hi;by_cases hi2:i<(B7 st.1.1).length
  ·exact h.inn i s hc hi2 hs
  ·have e:=h.out i (by omega);have hs':st.1.2[i]? = some s:=hs;rw [e] at hs';have hm:s∈st.1.1.drop (B7 st.1.1).length:=by
    rw [List.mem_iff_getElem?];exact ⟨i-(B7 st.1.1).length,by rw [List.getElem?_drop,show (B7 st.1.1).length+(i-(B7 st.1.1).length)=i by omega];exact hs'⟩
   have:=List.all_eq_true.1 h.g.tl s hm;have h7:A5C st.2.1 s=false:=by simpa using this
   exact h7
 ·have hi':=hi;rw [hsc,hlen] at hi';have e:(B7 (wrote st r us).1.1)[i]=((B7 st.1.1) ++ [r])[i]'(by omega):=by simp only [hsc]
  rw [e];by_cases hi2:i<(B7 st.1.1).length
  ·rw [List.getElem_append_left hi2];exact h.ep i hi2 hc
  ·rw [List.getElem_append_right (by omega)];simp only [show i-(B7 st.1.1).length=0 by omega,List.getElem_cons_zero];exact h1
 ·show B7 st.1.2=_;rw [hsc,List.take_append_of_le_length hle];exact h.sc
theorem C6G{st:A6}{c:Nat}(h:Dur st c)(k:List Bool)(hep:st.2.1<=9999):∃ m us,c<=m/\m<=(B7 st.1.1).length/\B7 (U1 st.1.1 st.1.2 k)=(B7 st.1.1).take m/\I1 [] ((B7 st.1.1).take m)=some us/\
  A48 (U1 st.1.1 st.1.2 k)<=st.2.1/\A5E (B4b st.1 k)=true/\GoodS (A0B (U1 st.1.1 st.1.2 k) us):=by
 obtain ⟨_,k2,k3,k4,k5⟩:=A4h h.g.dk;obtain ⟨m,h1,h2,h3⟩:=E79 h k;obtain ⟨us,hu⟩:=C4R _ _ _ m h.g.up;have hml:=B9b st.1.1 st.1.2 k;have hdb:A5E (U1 st.1.1 st.1.2 k,U1 st.1.1 st.1.2 k)=true:=by
  have hall:∀ s∈U1 st.1.1 st.1.2 k,s.size<=64:=fun s hs=>(D06 k2 hs).elim (k4 s) (k5 s)
  exact C4P rfl (by simp only [hml];exact k3) hall hall
 have ht:A48 (U1 st.1.1 st.1.2 k)<=st.2.1:=E8j (by have:=h.g.ep.1;omega) fun s hs hr=>(D06 k2 hs).elim (fun hs=>E3Q h.g s hs hr) (fun hs=>D8W h s hs hr)
 exact ⟨m,us,h1,h2,h3,hu,ht,hdb,C7f hdb (by rw [h3];exact hu) (by omega)⟩
inductive Steps (id:X0) (st:A6):A6->Prop
 | refl:Steps id st st
 | step {st1:A6} {r:I2} {us:List TUp}:Steps id st st1->B8E r->r.1=st1.2.1->r.2.1=st1.2.2.1->st1.2.2.1<(st1.1.1.length:Int)->r.2.2.2.1=id->(r.2.2.1=1->r.2.2.2.2.1<=1000000)->L8 st1.2.2.2 r=some us->Steps id st (wrote st1 r us)
theorem F03{st:A6}(h:Rt st):0<=st.2.2.1/\st.1.1.length<=200:=⟨h.g.2.2.2.2.1.1,h.g.2.2.2.1⟩
theorem B9e{st:A6}{id:X0}{n:Int}(h:Rt st):Steps id st (A49 st id n).1:=by
 unfold A49;split
 ·rename_i h1;split
  ·exact Steps.refl
  ·rename_i h2;split
   ·exact Steps.refl
   ·rename_i h3;have hr:=B21 h.g 1 n id h1.1 (fun hx=>h3 (.inl hx)) (.inl ⟨rfl,h1.2.1,by omega⟩);exact .step Steps.refl ⟨hr,T9⟩ rfl rfl (by omega) rfl (fun _=>h1.2.2) (C14 h2 (fun hx=>h3 (.inr hx)))
 ·exact Steps.refl
theorem B9f{st:A6}{id:X0}{n:Int}(h:Rt st):Steps id st (A3Q st id n).1:=by
 unfold A3Q;split
 ·rename_i h1;split
  ·rename_i h2;split
   ·exact Steps.refl
   ·rename_i h3;split
    ·exact Steps.refl
    ·split
     ·exact Steps.refl
     ·rename_i h5;split
      ·exact Steps.refl
      ·rename_i h6;have hr:=B21 h.g 3 0 id h1 h6 (.inr ⟨.inl rfl,rfl⟩);exact .step Steps.refl ⟨hr,T9⟩ rfl rfl (by omega) rfl (fun e=>by cases e) (C15 h.up h2 h3 h5)
  ·exact Steps.refl
 ·exact Steps.refl
theorem B9g{st:A6}{id:X0}(h:Rt st):Steps id st (A7S st id).1:=by
 unfold A7S;split
 ·rename_i h1;split
  ·rename_i h2;split
   ·exact Steps.refl
   ·rename_i h3;have hr:=B21 h.g 4 0 id h1 h3 (.inr ⟨.inr rfl,rfl⟩);exact .step Steps.refl ⟨hr,T9⟩ rfl rfl (by omega) rfl (fun e=>by cases e) (C6F h2)
  ·exact Steps.refl
 ·exact Steps.refl
theorem C7g{st:A6}{id:X0}{off:Int}{dat:List Int}(hc:E13 st id off dat):∀ j,j<=nPc dat->Steps id st (putAt st id off dat j)
 | 0,_=>Steps.refl
 | j+1,hj=>by
  have hI:=C12 hc j (by omega);obtain ⟨hr,hf,_⟩:=B9S hc hI (by omega);have h1:=hc.nx.2;have h2:=hI.nx;have h3:=hI.len;exact .step (C7g hc j (by omega)) ⟨hr,A9n (A5A hc.byt _) _⟩ rfl rfl (by omega) rfl (fun e=>by cases e) hf
theorem B6h{st:A6}{id:X0}{off:Int}{dat:List Int}(h:Rt st)(hb:Byt dat):Steps id st (A6p st id off dat).1:=by
 unfold A6p;split
 ·rename_i h1;split
  ·rename_i h3;split
   ·exact Steps.refl
   ·rename_i h4;split
    ·exact Steps.refl
    ·rename_i h5;exact C7g (C13 h hb h1.1 h1.2 h3 h4 h5) _ (Nat.le_refl _)
  ·exact Steps.refl
 ·exact Steps.refl
theorem C17{id:X0}{st st':A6}(hs:Steps id st st'){c:Nat}(h:Dur st c):Dur st' c/\st'.2.1=st.2.1/\st'.1.2=st.1.2/\st'.1.1.length=st.1.1.length/\
  (∃ R,B7 st'.1.1=B7 st.1.1++R/\∀ r∈R,r.2.2.2.1=id)/\∀ s∈st'.1.1,s∈st.1.1\/∃ r,B8E r/\r.2.2.2.1=id/\s=A0l r:=by
 induction hs with
 | refl=>exact ⟨h,rfl,rfl,rfl,⟨[],by simp,fun r hr=>by cases hr⟩,fun s hs=>.inl hs⟩
 | @step st1 r us h1 hr e1 e2 hlt hid _ hf ih=>
  obtain ⟨k1,k2,k3,k4,⟨R,k5,k6⟩,k7⟩:=ih;refine ⟨D5J k1 hr e1 e2 hlt hf,k2,k3,by simp only [wrote,List.length_set];exact k4,?_,?_⟩
  ·refine ⟨R ++ [r],?_,fun r' hr'=>?_⟩
   ·rw [(B22 k1.g hr e1 e2 hlt hf).2,k5,List.append_assoc]
   ·rcases List.mem_append.1 hr' with hr' | hr'
    ·exact k6 r' hr'
    ·rw [List.mem_singleton.1 hr'];exact hid
  ·intro s hs;rcases List.mem_or_eq_of_mem_set hs with hs | rfl
   ·exact k7 s hs
   ·exact .inr ⟨_,hr,hid,rfl⟩
theorem B25{st:A6}(h:GoodS st):Rt st/\A8v st/\E7 st=some (true,())/\A3p st=some (true,()):=by
 have hU:=B9W h;have hS:=A4h h.dk;obtain ⟨b,h1,h2,h3⟩:=C7e st hS.1.1 (fun u hu=>(hU.2.2 u hu).2.2.2);rw [h3.2 h] at h1 h2;exact ⟨D6K h hU,E16 hS.1 hU,h1,h2⟩
theorem D6L{N:Int}{us us':List TUp}{r:I2}(h:L8 us r=some us')(hr:r.2.2.1=1->r.2.2.2.2.1<=N)(hus:∀ u∈us,(show Int from u.2.1)<=N):∀ u∈us',(show Int from u.2.1)<=N:=by
 intro u hu;simp only [L8] at h;have hset:∀ v:TUp,H6 us r.2.2.2.1=true->v.2.1=(rd kUp us (B5 us r.2.2.2.1:Int)).2.1->u∈us.set (B5 us r.2.2.2.1) v->(show Int from u.2.1)<=N:=fun v hh hv hu=>by
  rcases List.mem_or_eq_of_mem_set hu with hu | rfl
  ·exact hus u hu
  ·obtain ⟨hlt,_⟩:=H1.1 hh;rw [C7 (k:=kUp) (xs:=us) hlt] at hv;have:=hus _ (List.getElem_mem hlt);rw [<- hv] at this;exact this
 split at h
 ·rename_i h1;split at h
  ·cases h
  ·injection h with h;subst h
   rcases List.mem_append.1 hu with hu | hu
   ·exact hus u (List.mem_of_mem_take hu)
   ·rcases List.mem_cons.1 hu with rfl | hu
    ·exact hr h1
    ·exact hus u (List.mem_of_mem_drop hu)
 ·split at h
  ·cases h
  ·rename_i hh;have hh:H6 us r.2.2.2.1=true:=by simpa using hh
   split at h
   ·split at h
    ·cases h
    ·injection h with h;subst h
     refine hset _ hh ?_ hu;rfl
   ·split at h
    ·split at h
     ·cases h
     ·injection h with h;subst h
      refine hset _ hh ?_ hu;rfl
    ·split at h
     ·injection h with h;subst h
      rcases List.mem_append.1 hu with hu | hu
      ·exact hus u (List.mem_of_mem_take hu)
      ·exact hus u (List.mem_of_mem_drop hu)
     ·cases h
theorem B6i{N:Int}:∀ {l:List I2} {us us':List TUp},I1 us l=some us'->(∀ r∈l,r.2.2.1=1->r.2.2.2.2.1<=N)->(∀ u∈us,(show Int from u.2.1)<=N)->∀ u∈us',(show Int from u.2.1)<=N
 | [],us,us',h,_,hus=>by
  simp only [I1,Option.some.injEq] at h;subst h;exact hus
 | r::l,us,us',h,hr,hus=>by
  simp only [I1] at h;split at h
  ·rename_i us1 e1;exact B6i h (fun x hx=>hr x (List.mem_cons_of_mem _ hx)) (D6L e1 (hr r List.mem_cons_self) hus)
  ·cases h
def C6H(st:A6):Prop:=∀ r∈B7 st.1.1,r.2.2.1=1->r.2.2.2.2.1<=1000000
theorem D1M{id:X0}{st st':A6}(hs:Steps id st st'){c:Nat}(h:Dur st c)(hw:C6H st):C6H st':=by
 induction hs with
 | refl=>exact hw
 | @step st1 r us h1 hr e1 e2 hlt hid hn hf ih=>
  have hg:=(C17 h1 h).1.g;unfold C6H;rw [(B22 hg hr e1 e2 hlt hf).2];intro x hx h1;rcases List.mem_append.1 hx with hx | hx
  ·exact ih x hx h1
  ·rw [List.mem_singleton] at hx;subst hx;exact hn h1
structure B26 (k:Nat) (st:A6):Prop where
 dur:∃ c,Dur st c
 ep:st.2.1<=(k:Int)
 ids:∀ s,s∈st.1.1\/s∈st.1.2->(D9 s).2.1=true->(D9 s).1.2.2.2.1∈ [(⟨#[97]⟩:X0),(⟨#[98]⟩:X0),(⟨#[99]⟩:X0)]
 wn:C6H st
theorem B3G{k:Nat}{st st':A6}{id:X0}(h:B26 k st)(hs:Steps id st st')(hid:id∈ [(⟨#[97]⟩:X0),(⟨#[98]⟩:X0),(⟨#[99]⟩:X0)]):B26 k st':=by
 obtain ⟨c,hd⟩:=h.dur;obtain ⟨k1,k2,k3,_,_,k7⟩:=C17 hs hd;refine ⟨⟨c,k1⟩,by rw [k2];exact h.ep,fun s hs hr=>?_,D1M hs hd h.wn⟩;rw [k3] at hs;rcases hs with hs | hs
 ·rcases k7 s hs with hs | ⟨r,h1,h2,rfl⟩
  ·exact h.ids s (.inl hs) hr
  ·rw [C3M h1,h2];exact hid
 ·exact h.ids s (.inr hs) hr
theorem C18{x:List X0}{us:List TUp}(h:GoodS (A0B x us)):C5 (x,x)=some (A0B x us,true,()):=by
 obtain ⟨hS,_,h200,_⟩:=A4h h.dk;have hdk:A5E (x,x)=true:=h.dk;have hl:x.length<=200:=h200;have hll:=A8w 0 0 x;have hfs:=A5B (B7 x) (by simp only [maxLen,B7];omega) (B6e 0 0 x);have hf:W8 (B7 x)=(us,true,()):=by
  unfold W8;rw [show I1 [] (B7 x)=some us from h.up]
 have htop:=D04 x;have hep:A48 x+1<=10000:=h.ep.2;simp only [C5,U4,A9r,hdk,C16 (x,x) hS.1,hfs,hf,A9U (x,x) hS.1,A1l (x,x) hS,bO,Bool.not_true,cond_false];rw [w64 (n:=A48 x+1) (by omega) (by omega),A4 (show ¬ A48 x+1>10000 by omega)];rfl
theorem D8a{k:Nat}{st:A6}(h:B26 k st)(hk:k<=9999)(ke:List Bool):∃ us,Q9 st.1 ke=some (B4b st.1 ke,())/\C5 (B4b st.1 ke)=some (A0B (U1 st.1.1 st.1.2 ke) us,true,())/\B26 (k+1) (A0B (U1 st.1.1 st.1.2 ke) us):=by
 obtain ⟨c,hd⟩:=h.dur;obtain ⟨_,k2,_⟩:=A4h hd.g.dk;have hep:=h.ep;obtain ⟨m,us,_,_,g3,_,h5,h6,h7⟩:=C6G hd ke (by omega);refine ⟨us,B4c st.1 ke hd.g.dk,C18 h7,⟨_,C3O h7⟩,?_,fun s hs hr=>?_,fun r hr h1=>by
  have hr':r∈B7 (U1 st.1.1 st.1.2 ke):=hr;rw [g3] at hr';exact h.wn r (List.mem_of_mem_take hr') h1⟩
 ·show A48 (U1 st.1.1 st.1.2 ke)+1<=((k+1:Nat):Int);omega
 ·have hs2:s∈U1 st.1.1 st.1.2 ke:=hs.elim id id;exact h.ids s (D06 k2 hs2) hr
theorem E19{k:Nat}{st:A6}(h:B26 k st):B26 k ((st.1.1,st.1.1),st.2):=by
 obtain ⟨c,hd⟩:=h.dur;exact ⟨⟨_,B24 hd.g⟩,h.ep,fun s hs hr=>h.ids s (.inl (hs.elim id id)) hr,h.wn⟩
theorem A68{k k':Nat}{st:A6}(h:B26 k st)(hk:k<=k'):B26 k' st:=⟨h.dur,by have:=h.ep;omega,h.ids,h.wn⟩
theorem E1A(k:Nat)(hk:k<=9999)(c:B6)(st:A6)(hc:Cur c)(h:B26 k st):∃ y c',I5 c st=some (y,c',())/\B26 (k+1) y/\Cur c':=by
 obtain ⟨cc,hdur⟩:=h.dur;obtain ⟨hR,hS,hok,_⟩:=B25 hdur.g;have hk1:k<=k+1:=Nat.le_succ k;obtain ⟨s,c1,q1,h1,hs⟩:=B9I c [(⟨#[97]⟩:X0),(⟨#[98]⟩:X0),(⟨#[99]⟩:X0)] hc (by simp);have hsz:s.size<=maxLen:=by
  simp only [List.mem_cons,List.not_mem_nil,or_false] at hs;rcases hs with rfl | rfl | rfl<;>decide
 obtain ⟨k,c2,q2,h2,k0,k1⟩:=G8 c1 12 h1 (by omega);simp only [I5,A0V,q1,q2,bO];obtain ⟨b0,m0⟩:∃ b,(bif decide (k=0) then (some (decide (k=0),()):Option (Bool×Unit)) else some (decide (k=1),()))=some (b,()):=by
  cases decide (k=0)<;>exact ⟨_,rfl⟩
 rw [m0];simp only [bO];cases b0 with
 | true=>
  obtain ⟨n,c3,q3,h3,_⟩:=Q4 c2 [0,3,30,60] h2 (by simp);have q4:=B9T st s n hsz hR hS hok;simp only [cond_true,q3,q4,bO];exact ⟨_,_,rfl,A68 (B3G h (B9e hR) hs) hk1,h3⟩
 | false=>
  simp only [cond_false];obtain ⟨b1,m1⟩:∃ b,(bif decide (k=2) then (some (decide (k=2),()):Option (Bool×Unit)) else bif decide (k=3) then some (decide (k=3),()) else bif decide (k=4) then some (decide (k=4),()) else some (decide (k=5),()))=some (b,()):=by
   cases decide (k=2)<;>cases decide (k=3)<;>cases decide (k=4)<;>exact ⟨_,rfl⟩
  rw [m1];simp only [bO];obtain ⟨u,bu,qu,u1,u2,u3⟩:=E74 st s hR.up;cases b1 with
  | true=>
   obtain ⟨n,c3,q3,h3,hn⟩:=Q4 c2 [1,3,24,30] h2 (by simp);have hn2:0<=n/\n<=30:=by
    simp only [List.mem_cons,List.not_mem_nil,or_false] at hn;omega
   simp only [cond_true,qu,q3,bO];rw [w64 (n:=u.2.1-(List.length u.2.2.1:Int)) (by omega) (by omega)];obtain ⟨n',c4,m2,hn',h4⟩:∃ (n':Int) (c4:B6),(bif bu then bif decide (n>u.2.1-(List.length u.2.2.1:Int)) then A3 (I8 c3 5) fun (c68:Bool×B6×Unit)=>bif (!c68.1) then some (u.2.1-(List.length u.2.2.1:Int),c68.2.1.1,c68.2.1.2.1,c68.2.1.2.2,()) else some (n,c68.2.1.1,c68.2.1.2.1,c68.2.1.2.2,()) else some (n,c3.1,c3.2.1,c3.2.2,()) else some (n,c3.1,c3.2.1,c3.2.2,()))=some (n',c4.1,c4.2.1,c4.2.2,())/\(0<=n'/\n'<=30)/\Cur c4:=by
    cases bu with
    | false=>exact ⟨_,c3,rfl,hn2,h3⟩
    | true=>
     by_cases hg:n>u.2.1-(List.length u.2.2.1:Int)
     ·obtain ⟨b,c5,q5,h5⟩:=A4g c3 5 h3 (by omega);rw [A0 hg,q5];cases b with
      | false=>exact ⟨_,c5,rfl,by omega,h5⟩
      | true=>exact ⟨_,c5,rfl,hn2,h5⟩
     ·rw [A4 hg];exact ⟨_,c3,rfl,hn2,h3⟩
   rw [m2];simp only [bO];obtain ⟨dat,c6,q6,h6,hl6,hb6⟩:=B6V c4 n' h4 (by omega);have q7:=C3L st s (List.length u.2.2.1:Int) dat hsz hR hS hok hb6 (by omega) (by omega);have q6':H0 (c4.1,(c4.2.1,c4.2.2)) n' = _:=q6;rw [q6'];simp only [bO,q7];exact ⟨_,_,rfl,A68 (B3G h (B6h hR hb6) hs) hk1,h6⟩
  | false=>
   simp only [cond_false];cases decide (k=6) with
   | true=>
    have q7:=B9U st s (((A6o u.2.2.1 ^^^ 4294967295:Nat):Int)) hsz hR hS hok;simp only [cond_true,qu,bO];rw [B9E _ u3 (by simp only [maxLen];omega)];simp only [bO,q7];exact ⟨_,_,rfl,A68 (B3G h (B9f hR) hs) hk1,h2⟩
   | false=>
    simp only [cond_false];cases decide (k=7) with
    | true=>
     obtain ⟨b,c5,q5,h5⟩:=A4g c2 3 h2 (by omega);have q7:=B9V st s hsz hR hS hok;simp only [cond_true,q5,bO];cases b with
     | true=>
      simp only [cond_true,q7,bO];exact ⟨_,_,rfl,A68 (B3G h (B9g hR) hs) hk1,h5⟩
     | false=>exact ⟨_,_,rfl,A68 h hk1,h5⟩
    | false=>
     simp only [cond_false];obtain ⟨b3,m3⟩:∃ b,(bif decide (k=8) then (some (decide (k=8),()):Option (Bool×Unit)) else some (decide (k=9),()))=some (b,()):=by
      cases decide (k=8)<;>exact ⟨_,rfl⟩
     rw [m3];simp only [bO];cases b3 with
     | true=>
      simp only [cond_true,A1g,A9P,A12 st hS,hok,B6W st.1 hS.1,bO];exact ⟨_,_,rfl,A68 (E19 h) hk1,h2⟩
     | false=>
      obtain ⟨ke,c7,q9,h7⟩:=D1I c2 h2;obtain ⟨us,f1,f2,f3⟩:=D8a h hk ke;simp only [cond_false,q9,f1,f2,bO];exact ⟨_,_,rfl,f3,h7⟩
theorem E1B(last:Int)(i:Nat)(l:List X0)(h:∀ s∈l,(D9 s).2.1=false):L1 last i l = []:=C3N _ _ _ fun s hs=>by
 simp only [A4A,h s (List.mem_of_mem_head? hs),Bool.false_and]
theorem C4S:(D9 ⟨#[]⟩).2.1=false:=by
 unfold D9 B3A;have h0:(⟨#[]⟩:X0).size=0:=rfl;rw [h0,A4 (by omega)];rfl
theorem B41(n:Int)(hn:n<=200):B26 0 (E3 n,(0,(0,[]))):=by
 have hall:∀ s,s∈(E3 n).1\/s∈(E3 n).2->s=⟨#[]⟩:=by
  intro s hs;unfold E3 at hs;split at hs
  ·rcases hs with hs | hs<;>exact (List.mem_replicate.1 hs).2
  ·rcases hs with hs | hs<;>cases hs
 have hg:∀ s∈(E3 n).1,(D9 s).2.1=false:=fun s hs=>by rw [hall s (.inl hs)];exact C4S
 have hsc:B7 (E3 n).1 = []:=E1B _ _ _ hg;have hsz:∀ s,s∈(E3 n).1\/s∈(E3 n).2->s.size<=64:=fun s hs=>by rw [hall s hs];show 0<=64;omega
 have hlen:(E3 n).1.length=(E3 n).2.length/\(E3 n).1.length<=200:=by
  unfold E3;split<;>simp<;>omega
 have heq:(E3 n).2=(E3 n).1:=by
  unfold E3;split<;>rfl
 have hG:GoodS (E3 n,(0,(0,[]))):=by
  refine ⟨C4P hlen.1 hlen.2 (fun s hs=>hsz s (.inl hs)) (fun s hs=>hsz s (.inr hs)),by simp,?_,?_,?_,?_⟩
  ·show I1 [] (B7 (E3 n).1)=_;rw [hsc];rfl
  ·show (0:Int)=((B7 (E3 n).1).length:Int);rw [hsc];rfl
  ·show A2v 0 (B7 (E3 n).1)<=0;rw [hsc];exact Int.le_refl _
  ·refine List.all_eq_true.2 fun s hs=>?_
   have:=hg s (List.mem_of_mem_drop hs);simp only [A5C,this,Bool.false_and,Bool.not_false]
 refine ⟨⟨0,hG,Nat.zero_le _,fun i _=>by rw [show ((E3 n,((0:Int),((0:Int),([]:List TUp)))):A6).1.2=(E3 n).1 from heq],fun i s _ h2 _=>?_,fun i h1 _=>?_,?_⟩,by simp,fun s hs hr=>?_,fun r hr=>by (have hr':r∈B7 (E3 n).1:=hr;rw [hsc] at hr';cases hr')⟩
 ·have h2':i<(B7 (E3 n).1).length:=h2;rw [hsc] at h2';simp at h2'
 ·have h1':i<(B7 (E3 n).1).length:=h1;rw [hsc] at h1';simp at h1'
 ·show B7 (E3 n).2=(B7 (E3 n).1).take 0;rw [heq,hsc];rfl
 ·rw [hall s hs,C4S] at hr;cases hr
end Go.Proofs.YtpdcljonclhhpaaGreat.Ev
