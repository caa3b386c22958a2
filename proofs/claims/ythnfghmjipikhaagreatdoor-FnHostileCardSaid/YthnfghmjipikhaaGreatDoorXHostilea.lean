/- What the plain functions of the program and of the reference answer: laws of plain data. -/
import Derived.Test.YthnfghmjipikhaaGreatDoorPu
import Derived.Laws.Strings
import Derived.Lib.Split
import Derived.Lib.Atoi
import Derived.Laws.BitsLemmas
import Derived.Lib.ItoaNum
set_option linter.unusedVariables false
set_option linter.unusedSimpArgs false
set_option linter.unusedSectionVars false
namespace Go.Proofs.YthnfghmjipikhaaGreatDoor.Ev
open IntKind (i64 u8 u64 u32)
theorem w64{n:Int}(h0:-9223372036854775808<=n)(h1:n<9223372036854775808):i64.wrap n=n:=by
  simp only [IntKind.wrap,IntKind.bits,IntKind.signed,J5];simp;split<;>omega
theorem B6Q{α β:Type}(f:α->Option (α⊕β))(μ:α->Nat)(I:α->Prop)(Q:β->Prop)
    (h:∀ x,I x->(∃ y,f x=some (.inl y)/\I y/\μ y<μ x)\/∃ z,f x=some (.inr z)/\Q z):∀ x,I x->∃ z,G1 f x=some z/\Q z:=by
  intro x;generalize hn:μ x=n
  induction n using Nat.strongRecOn generalizing x with
  | ind n ih=>
    intro hx;rw [H5];rcases h x hx with ⟨y,e,hy,hl⟩ | ⟨z,e,hz⟩
    · rw [e];exact ih (μ y) (by omega) y rfl hy
    · rw [e];exact ⟨z,rfl,hz⟩
theorem E6W{α β:Type}(f:α->Option (α⊕β))(μ:α->Nat)(I:α->Prop)(z:β)
    (h:∀ x,I x->(∃ y,f x=some (.inl y)/\I y/\μ y<μ x)\/f x=some (.inr z)) (x:α) (hx:I x):G1 f x=some z:=by
  obtain ⟨z',h1,rfl⟩:=B6Q f μ I (·=z) (fun x hx=>(h x hx).imp id fun h=>⟨_,h,rfl⟩) x hx;exact h1
theorem O3{α β:Type}(f:α->Option (α⊕β))(s:Nat->α)(n:Nat)(z:β)(h:∀ i,i<n->f (s i)=some (.inl (s (i+1))))(he:f (s n)=some (.inr z)):G1 f (s 0)=some z:=by
  have key:∀ k i,i+k=n->G1 f (s i)=some z:=by
    intro k
    induction k with
    | zero=>intro i hi;rw [H5,show i=n by omega,he]
    | succ k ih=>intro i hi;rw [H5,h i (by omega)];exact ih (i+1) (by omega)
  exact key n 0 (by omega)
theorem A4h{α β:Type}(f:α->Option (α⊕β))(s:Nat->α)(n:Nat)(z:Nat->β)(go:Nat->Bool)(h:∀ i,i<n->f (s i)=if go i then some (.inl (s (i+1))) else some (.inr (z i)))(he:f (s n)=some (.inr (z n))) :
    ∃ i,i<=n/\(∀ j,j<i->go j=true)/\(i<n->go i=false)/\G1 f (s 0)=some (z i):=by
  have key:∀ k i,i+k=n->(∀ j,j<i->go j=true)->∃ i',i'<=n/\(∀ j,j<i'->go j=true)/\(i'<n->go i' = false)/\G1 f (s i)=some (z i'):=by
    intro k
    induction k with
    | zero=>
      intro i hi hg;obtain rfl:i=n:=by omega
      exact ⟨i,B6 _,hg,fun h=>absurd h (by omega),by rw [H5,he]⟩
    | succ k ih=>
      intro i hi hg;cases hgo:go i with
      | true=>
        obtain ⟨i',h1,h2,h3,h4⟩:=ih (i+1) (by omega) (fun j hj=>by
          by_cases h:j<i
          · exact hg j h
          · rw [show j=i by omega];exact hgo)
        refine ⟨i',h1,h2,h3,?_⟩;rw [H5,h i (by omega),A7 hgo];exact h4
      | false=>
        refine ⟨i,by omega,hg,fun _=>hgo,?_⟩;rw [H5,h i (by omega),hgo];rfl
  exact key n 0 (by omega) (fun j hj=>by omega)
theorem D7Q(s:X0)(i:Int):0<=bt s i:=by unfold bt;omega
theorem C63(s:X0)(i:Int):bt s i<256:=by
  have:=(s.data.toList.getD i.toNat 0).toNat_lt;unfold bt;omega
theorem E2t(s:X0)(i:Int):i64.wrap (bt s i)=bt s i:=w64 (by have:=D7Q s i;omega) (by have:=C63 s i;omega)
theorem A6d{k:K}{xs:List k.T}{i:Nat}(h:i<xs.length):rd k xs (i:Int)=xs[i]:=by
  unfold rd;rw [E5];simp [List.getD,h]
theorem C1m{U:IntKind}{xs:List Int}{i:Nat}(h:i<xs.length):rd (.int U) xs (i:Int)=xs[i]:=A6d (k:=.int U) h
theorem F2q{xs:List X0}{i:Nat}(h:i<xs.length):rd .str xs (i:Int)=xs[i]:=A6d (k:=.str) h
def Byt(a:List Int):Prop:=∀ x∈a,0<=x/\x<256
theorem pe{α β:Type}(p:α×β):(p.1,p.2)=p:=rfl
theorem A0{p:Prop} [Decidable p] (h:p):decide p=true:=A04 h
theorem A1{p:Prop} [Decidable p] (h:¬ p):decide p=false:=A1e h
def A0K(go:Nat->Bool):Nat->Nat->Nat
  | i,0=>i
  | i,k+1=>if go i then A0K go (i+1) k else i
theorem D7R(go:Nat->Bool):∀ k i,A0K go i k<=i+k
  | 0,i=>B6 _
  | k+1,i=>by
    simp only [A0K];split
    · have:=D7R go k (i+1);omega
    · omega
theorem C8V(go:Nat->Bool):∀ k i,A0K go i k<i+k->go (A0K go i k)=false
  | 0,i,h=>by simp [A0K] at h
  | k+1,i,h=>by
    simp only [A0K] at h ⊢;split
    · rename_i hg
      rw [A7 hg] at h;exact C8V go k (i+1) (by omega)
    · rename_i hg
      simpa using hg
theorem C45{α β:Type}(f:α->Option (α⊕β))(s:Nat->α)(n:Nat)(z:Nat->β)(go:Nat->Bool)(h:∀ i,i<n->f (s i)=if go i then some (.inl (s (i+1))) else some (.inr (z i)))(he:f (s n)=some (.inr (z n))) :
    G1 f (s 0)=some (z (A0K go 0 n)):=by
  have key:∀ k i,i+k=n->G1 f (s i)=some (z (A0K go i k)):=by
    intro k
    induction k with
    | zero=>
      intro i hi;obtain rfl:i=n:=by omega
      rw [H5,he];rfl
    | succ k ih=>
      intro i hi;rw [H5,h i (by omega)];simp only [A0K];cases go i with
      | true=>simp only [L4];exact ih (i+1) (by omega)
      | false=>rfl
  exact key n 0 (by omega)
theorem F2A(L:Int×Unit->Option ((Int×Unit)⊕(Bool×Unit)))(n:Nat)(hn:n<=maxLen)(go:Nat->Bool)(hs:∀ i:Nat,i<n->L ((i:Int),())=bif go i then some (.inl (i64.wrap ((i:Int)+1),())) else some (.inr (false,())))
    (he:L ((n:Int),())=some (.inr (true,()))):G1 L (0,())=some ((List.range n).all go,()):=by
  have h:=C45 L (fun i=>((i:Int),())) n (fun i=>(decide (i=n),())) go (fun i hi=>by
    rw [hs i hi,w64 (by omega) (by simp only [maxLen] at hn;omega)];cases go i with
    | true=>rfl
    | false=>simp only [I6,K7,A3];rw [A1 (by omega)]) (by rw [he];simp)
  have h':G1 L (0,())=some (decide (A0K go 0 n=n),()):=h;rw [h'];have key:∀ k i,decide (A0K go i k=i+k)=((List.range k).all fun j=>go (i+j)):=by
    intro k
    induction k with
    | zero=>intro i;simp [A0K]
    | succ k ih=>
      intro i;have e:((List.range (k+1)).all fun j=>go (i+j))=(go i&&(List.range k).all fun j=>go (i+1+j)):=by
        rw [List.range_succ_eq_map,List.all_cons,List.all_map];simp only [K6]
        congr 2
        funext j
        simp only [Function.comp]
        congr 1
        omega
      rw [e,<- ih (i+1)];by_cases hg:go i=true
      · have e1:A0K go i (k+1)=A0K go (i+1) k:=by simp only [A0K];rw [A7 hg]
        rw [C3B,hg];simp only [H3,J5,e1];omega
      · have e1:A0K go i (k+1)=i:=by simp only [A0K];rw [A4 hg]
        rw [C3B];simp only [H3,B4,e1];constructor
        · intro h;omega
        · intro h;exact absurd h.1 hg
  have k0:=key n 0;simp only [E9] at k0;rw [k0]
abbrev E9K:=X0×List Int×Int×Int
theorem V6(a b c:Int):M9 a b c=some (decide (b<=a/\a<=c),()):=by
  simp only [M9,D3v];by_cases h:b<=a<;>by_cases h2:a<=c<;>simp [h,h2]
theorem S3(a b c:Int):U3 a b c=some (decide (b<=a/\a<=c),()):=V6 a b c
def D8g(s:X0)(i:Nat):Bool:=decide (97<=bt s i/\bt s i<=122)||decide (48<=bt s i/\bt s i<=57)
def idB(s:X0):Bool:=(List.range s.size).all (D8g s)&&decide (1<=(s.size:Int)/\(s.size:Int)<=8)
theorem E2u(s:X0)(h:s.size<=maxLen)(i:Nat)(hi:i<s.size):B82 M9 s ((i:Int),())=if D8g s i then some (.inl (((i+1:Nat):Int),())) else some (.inr (.inr (false,()))):=by
  have h1:((i:Int)<(s.size:Int)):=by omega
  have h2:(0:Int)<=(i:Int):=by omega
  simp only [B82,A0 h1,A0 h2,A8,E2t,V6,A5];rw [w64 (by omega) (by simp only [maxLen] at h;omega)];unfold D8g;cases decide (97<=bt s i/\bt s i<=122)<;>cases decide (48<=bt s i/\bt s i<=57)<;>simp
theorem E6a(s:X0)(h:s.size<=maxLen)(i:Nat)(hi:i<s.size):C1I s ((i:Int),())=if D8g s i then some (.inl (((i+1:Nat):Int),())) else some (.inr (.inr (false,()))):=by
  have h1:((i:Int)<(s.size:Int)):=by omega
  have h2:(0:Int)<=(i:Int):=by omega
  simp only [C1I,A0 h1,A0 h2,A8];rw [w64 (by omega) (by simp only [maxLen] at h;omega)];unfold D8g;by_cases a:bt s i>=97<;>by_cases b:bt s i<=122<;>by_cases c:bt s i>=48<;>by_cases d:bt s i<=57<;>simp [a,b,c,d]
theorem F2B{s:X0}{f:Int×Unit->Option ((Int×Unit)⊕(Unit⊕(Bool×Unit)))}(hs:∀ i:Nat,i<s.size->f ((i:Int),())=if D8g s i then some (.inl (((i+1:Nat):Int),())) else some (.inr (.inr (false,()))))
    (he:f ((s.size:Int),())=some (.inr (.inl ()))) (g:Unit->Option (Bool×Unit)) (hg:g ()=some (decide (1<=(s.size:Int)/\(s.size:Int)<=8),())):H8 (G1 f (0,())) g=some (idB s,()):=by
  obtain ⟨i,h1,h2,h3,h4⟩:=A4h f (fun i=>((i:Int),())) s.size (fun i=>if i<s.size then .inr (false,()) else .inl ()) (D8g s) (fun i hi=>by
    simp only [A7 hi];exact hs i hi) (by simp only [A27,K7];exact he)
  have h4':G1 f (0,())=some (if i<s.size then .inr (false,()) else .inl ()):=h4;rw [h4'];unfold idB;by_cases hi:i<s.size
  · rw [A7 hi]
    have:(List.range s.size).all (D8g s)=false:=by
      rw [A4Q];exact ⟨i,P7.2 hi,by simp [h3 hi]⟩
    simp [H8,this]
  · rw [A4 hi]
    have:(List.range s.size).all (D8g s)=true:=by
      rw [C6];intro j hj;exact h2 j (by have:=P7.1 hj;omega)
    simp only [H8,this,hg,J5]
theorem E0L(s:X0)(h:s.size<=maxLen):B6N s=some (idB s,()):=by
  simp only [B6N,C9s];exact F2B (E2u s h) (by simp [B82]) _ (by simp only [V6,A5])
theorem F1S(s:X0)(h:s.size<=maxLen):C8K s=some (idB s,()):=by
  simp only [C8K,D3t];exact F2B (E6a s h) (by simp [C1I]) _ (by simp only [S3,A5])
theorem E9L{R:Type}(a:Option R):eqO a a=a:=by
  unfold eqO;rw [A7 rfl]
theorem D5w(a:List Int)(h:a.length<=140737488355328):H4 a=some (a,()):=by
  simp only [H4,A22];have e:(bif decide (([]:List Int).length+a.length<=9223372036854775807) then bif decide ((([]:List Int).length+a.length)*1<=140737488355328) then some (([]++a),()) else none else none)=some (a,()):=by
    rw [A0 (by simp;omega),A0 (by simp;omega)];simp
  rw [e];cases a with
  | nil=>simp [E9L]
  | cons x xs=>simp
def D7S(n:Int)(k j:Nat):Int:=u8.wrap (n.fdiv (2 ^ (8*(k-1-j))))
def big(n:Int)(k:Nat):List Int:=(List.range k).map (D7S n k)
theorem A34(n:Int)(k:Nat):(big n k).length=k:=by simp [big]
theorem F46{n:Int}(h0:0<=n)(h1:n<18446744073709551616):u64.wrap n=n:=by
  simp only [IntKind.wrap,IntKind.bits,IntKind.signed];simp;omega
theorem E57(v:Int)(b:List Int)(k:Nat)(hk:k<=8)(hb:b.length+8<=140737488355328):G1 (A5e (v,())) ((k:Int)-1,b,())=some (b++big v k,()):=by
  have key:=O3 (A5e (v,())) (fun j=>((k:Int)-1-(j:Int),b++(List.range j).map (D7S v k),())) k (b++big v k,()) (fun j hj=>?_) ?_
  · simpa using key
  · have h1:(k:Int)-1-(j:Int)>=0:=by omega
    have e1:(k:Int)-1-(j:Int)=((k-1-j:Nat):Int):=by omega
    have hs:u64.wrap (i64.wrap (8*((k:Int)-1-(j:Int))))=((8*(k-1-j):Nat):Int):=by
      rw [w64 (by omega) (by omega),F46 (by omega) (by omega)];omega
    have hm:min (8*(k-1-j)) i64.bits=8*(k-1-j):=A0h (by simp only [IntKind.bits];omega);simp only [A5e,A0 h1,A8,hs,E5,hm];rw [A1 (by omega)];simp only [A3];have hl:(b++(List.range j).map (D7S v k)).length=b.length+j:=by simp
    rw [A0 (by rw [hl];simp;omega),A0 (by rw [hl];simp;omega)];simp only [A8];rw [w64 (by omega) (by omega),List.range_succ,A6A,B3];have e2:(k:Int)-1-(j:Int)-1=(k:Int)-1-((j+1:Nat):Int):=by omega
    rw [e2];rfl
  · have h1:¬ ((k:Int)-1-(k:Int)>=0):=by omega
    simp only [A5e,A1 h1,A3];rfl
def A6s(n:Int):Int:=if n<0 then 0 else n
theorem B89(b:List Int)(n:Int)(k:Nat)(h1:1<=k)(hk:k<=8)(hb:b.length+8<=140737488355328):B6q b n (k:Int)=some (b++big (A6s n) k,()):=by
  simp only [B6q,C6v];rw [A0 (by simp;omega),A0 (by simp;omega)];have e:(bif decide (n<0) then some ((0:Int),()) else some (n,()))=some (A6s n,()):=by
    unfold A6s;by_cases h:n<0<;>simp [h]
  simp only [A8,e,A5,V6];rw [A0 (by omega)];simp only [C3,A3,F6];rw [w64 (by omega) (by omega)];exact E57 _ b k hk hb
theorem B8A(b:List Int)(n:Int)(k:Nat)(hk:k<=8)(hb:b.length+8<=140737488355328):B6l b n (k:Int)=some (b++big (A6s n) k,()):=by
  simp only [B6l,C6q];have e:C1N n=A5e (A6s n,()):=by
    funext l
    have:(bif decide (0>n) then (0:Int) else n)=A6s n:=by
      unfold A6s;by_cases h:n<0<;>simp [h]
    simp only [C1N,A5e,this]
  rw [e,w64 (by omega) (by omega)];exact E57 _ b k hk hb
abbrev Frame:=Int×Int×Int×List Int
def O0(f:Frame):Bool:=decide (0<=f.1/\f.1<=255)&&decide (0<=f.2.1/\f.2.1<=255)&&decide (0<=f.2.2.1/\f.2.2.1<=2147483647)&&decide ((f.2.2.2.length:Int)<=1000)
theorem C8W(f:Frame):B0N f=some (O0 f,()):=by
  simp only [B0N,C3q,V6,A5,O0];cases decide (0<=f.1/\f.1<=255)<;>cases decide (0<=f.2.1/\f.2.1<=255)<;>cases decide (0<=f.2.2.1/\f.2.2.1<=2147483647)<;>simp
def R1(f:Frame):List Int:=big (f.2.2.2.length:Int) 3 ++ [u8.wrap f.1,u8.wrap f.2.1]++big (A6s f.2.2.1) 4++f.2.2.2
theorem C64(b:List Int)(f:Frame)(h:b.length+f.2.2.2.length+24<=140737488355328):B15 b f=some (b++R1 f,()):=by
  simp only [B15,C1O];rw [show (3:Int)=((3:Nat):Int) from rfl,B8A b _ 3 (by omega) (by omega)];have hc:A6s (f.2.2.2.length:Int)=(f.2.2.2.length:Int):=by unfold A6s;rw [A4 (by omega)]
  simp only [A5,hc];have hl:=A34 (f.2.2.2.length:Int) 3;rw [A0 (by simp [hl];omega),A0 (by simp [hl];omega)];simp only [A8];rw [show (4:Int)=((4:Nat):Int) from rfl,B8A _ _ 4 (by omega) (by simp [hl];omega)];simp only [A5];have hl4:=A34 (A6s f.2.2.1) 4;rw [A0 (by simp [hl,hl4];omega),A0 (by simp [hl,hl4];omega)];simp [R1]
theorem A6P(f:Frame)(h:f.2.2.2.length+24<=140737488355328):A0C f=some (if O0 f then R1 f else [],()):=by
  simp only [A0C,C1S,pe,C8W,A5];cases O0 f with
  | false=>rfl
  | true=>
    simp only [C3,A3];rw [show (3:Int)=((3:Nat):Int) from rfl,B89 [] _ 3 (by omega) (by omega) (by simp)];have hc:A6s (f.2.2.2.length:Int)=(f.2.2.2.length:Int):=by unfold A6s;rw [A4 (by omega)]
    simp only [hc];have hl:=A34 (f.2.2.2.length:Int) 3;rw [A0 (by simp [hl]),A0 (by simp [hl])];simp only [A8];rw [show (4:Int)=((4:Nat):Int) from rfl,B89 _ _ 4 (by omega) (by omega) (by simp [hl])];have hl4:=A34 (A6s f.2.2.1) 4;simp only;rw [A0 (by simp [hl,hl4];omega),A0 (by simp [hl,hl4];omega)];simp [R1]
theorem D8h{n:Nat}(h:n<9223372036854775808):i64.wrap (n:Int)=(n:Int):=w64 (by omega) (by omega)
theorem bits_nat{w x:Nat}(h:x<2 ^ w):(BitVec.ofInt w (x:Int)).toNat=x:=by
  rw [BitVec.ofInt_natCast,BitVec.toNat_ofNat];exact B3a h
theorem C01{a:List Int}(h:Byt a)(i:Nat):Byt (a.take i):=fun x hx=>h x (A7S hx)
def far(c:E9K)(off:Int):E9K:=if 0<=off/\off<=(c.2.1.length:Int) then (if off=(c.2.1.length:Int) then (c.1,c.2.1,4,off) else (c.1,c.2.1,3,off)) else (c.1,c.2.1,6,c.2.2.2)
theorem F2r{x y:Int}(hx:0<=x/\x<256)(hy:0<=y/\y<256)(h:UInt8.ofNat x.toNat=UInt8.ofNat y.toNat):x=y:=by
  have:=N6 UInt8.toNat h;simp only [UInt8.toNat_ofNat'] at this;omega
theorem E0M:A7f=A30:=rfl
theorem E2v:A77=A0N:=rfl
theorem C65(g:L3):∃ b,A30 g=some (b,()):=by
  simp only [A30,B1C,V6,A5];by_cases h1:g.1=0
  · rw [A0 h1]
    cases g.2.1<;>exact ⟨_,rfl⟩
  · rw [A1 h1]
    cases decide (1<=g.1/\g.1<=2147483647)<;>exact ⟨_,rfl⟩
theorem E0N(t:D3)(h:t.2.length<=maxLen):∃ b,A7D t=some (b,()):=by
  obtain ⟨z,e,_⟩:=B6Q (A7t B6o t) (fun l=>((t.2.length:Int)-l.2.1).toNat) (fun l=>0<=l.2.1) (fun _=>True) (fun l hl=>by
    simp only [A7t];by_cases hi:l.2.1<(t.2.length:Int)
    · simp only [A0 hi,A0 hl,A8,B6o,C8O,A5]
      rw [w64 (n:=l.2.1+1) (by omega) (by simp only [maxLen] at h;omega)];exact .inl ⟨_,rfl,by simp only;omega,by simp only;omega⟩
    · simp only [A1 hi,A3]
      exact .inr ⟨_,rfl,trivial⟩) (0,0,()) (by simp)
  exact ⟨z.1,e⟩
theorem B1U(t:D3)(h:t.2.length<=maxLen):∃ b,A0N t=some (b,()):=by
  obtain ⟨b,hb⟩:=E0N t h;simp only [A0N,B4j,V6,A5,hb];cases decide (0<=t.1/\t.1<=4096)<;>exact ⟨_,rfl⟩
def B1V(c:M7)(i:Nat):Bool:=
  decide ((rd H2 c.2.2.2.2.2.1 (i:Int)).1.tmod 2=1)&&decide (1<=(rd H2 c.2.2.2.2.2.1 (i:Int)).1/\(rd H2 c.2.2.2.2.2.1 (i:Int)).1<=c.2.2.2.2.2.2.1) &&
  (decide (i=0)||!decide ((rd H2 c.2.2.2.2.2.1 (i:Int)).1<=(rd H2 c.2.2.2.2.2.1 ((i:Int)-1)).1)) &&
  (decide ((rd H2 c.2.2.2.2.2.1 (i:Int)).2.1=1)||decide ((rd H2 c.2.2.2.2.2.1 (i:Int)).2.1=2))&&!decide ((List.length (rd H2 c.2.2.2.2.2.1 (i:Int)).2.2.2:Int)>2000)
theorem E58{L:Int×Unit->Option ((Int×Unit)⊕(Unit⊕(Bool×Unit)))}{n:Nat}{go:Nat->Bool}(hs:∀ i:Nat,i<n->L ((i:Int),())=bif go i then some (.inl (((i+1:Nat):Int),())) else some (.inr (.inr (false,()))))
    (he:L ((n:Int),())=some (.inr (.inl ()))) (g:Unit->Option (Bool×Unit)) (b:Bool) (hg:g ()=some (b,())):H8 (G1 L (0,())) g=some (decide (A0K go 0 n=n)&&b,()):=by
  have h:=C45 L (fun i=>((i:Int),())) n (fun i=>if i=n then .inl () else .inr (false,())) go (fun i hi=>by
    rw [hs i hi];cases go i with
    | true=>rfl
    | false=>simp only [I6,K7,A3];rw [A4 (by omega)]) (by rw [he,A7 rfl])
  have h':G1 L (0,())=_:=h;rw [h'];by_cases hn:A0K go 0 n=n
  · rw [A7 hn,A0 hn];simp [H8,hg]
  · rw [A4 hn,A1 hn];simp [H8]
theorem E0O(c:M7)(h:c.2.2.2.2.2.1.length<=maxLen)(i:Nat)(hi:i<c.2.2.2.2.2.1.length):B3t M9 c ((i:Int),())=bif B1V c i then some (.inl (((i+1:Nat):Int),())) else some (.inr (.inr (false,()))):=by
  have h1:((i:Int)<(c.2.2.2.2.2.1.length:Int)):=by omega
  have h2:(0:Int)<=(i:Int):=by omega
  simp only [maxLen] at h;simp only [B3t,A0 h1,A0 h2,A8,V6,A5,B1V];rw [w64 (n:=(i:Int)+1) (by omega) (by omega),w64 (n:=(i:Int)-1) (by omega) (by omega)];have e1:((i+1:Nat):Int)=(i:Int)+1:=by omega
  rw [e1];have hge:decide ((rd H2 c.2.2.2.2.2.1 ((i:Int)-1)).1>=(rd H2 c.2.2.2.2.2.1 (i:Int)).1)=decide ((rd H2 c.2.2.2.2.2.1 (i:Int)).1<=(rd H2 c.2.2.2.2.2.1 ((i:Int)-1)).1):=rfl;rw [hge];by_cases hz:i=0
  · have g1:¬ (i:Int)>0:=by omega
    simp only [A1 g1,A0 hz,A3,Bool.true_or,C6O];generalize decide ((rd H2 c.2.2.2.2.2.1 (i:Int)).1.tmod 2=1)=x1;generalize decide (1<=(rd H2 c.2.2.2.2.2.1 (i:Int)).1/\(rd H2 c.2.2.2.2.2.1 (i:Int)).1<=c.2.2.2.2.2.2.1)=x2;generalize decide ((rd H2 c.2.2.2.2.2.1 (i:Int)).2.1=1)=x4;generalize decide ((rd H2 c.2.2.2.2.2.1 (i:Int)).2.1=2)=x5;generalize decide ((List.length (rd H2 c.2.2.2.2.2.1 (i:Int)).2.2.2:Int)>2000)=x6;cases x1<;>cases x2<;>cases x4<;>cases x5<;>cases x6<;>rfl
  · have g1:(i:Int)>0:=by omega
    have g2:(0:Int)<=(i:Int)-1:=by omega
    have g3:(i:Int)-1<(c.2.2.2.2.2.1.length:Int):=by omega
    simp only [A0 g1,A0 g2,A0 g3,A1 hz,A8,C6N];generalize decide ((rd H2 c.2.2.2.2.2.1 (i:Int)).1.tmod 2=1)=x1;generalize decide (1<=(rd H2 c.2.2.2.2.2.1 (i:Int)).1/\(rd H2 c.2.2.2.2.2.1 (i:Int)).1<=c.2.2.2.2.2.2.1)=x2;generalize decide ((rd H2 c.2.2.2.2.2.1 (i:Int)).1<=(rd H2 c.2.2.2.2.2.1 ((i:Int)-1)).1)=x3;generalize decide ((rd H2 c.2.2.2.2.2.1 (i:Int)).2.1=1)=x4;generalize decide ((rd H2 c.2.2.2.2.2.1 (i:Int)).2.1=2)=x5;generalize decide ((List.length (rd H2 c.2.2.2.2.2.1 (i:Int)).2.2.2:Int)>2000)=x6;cases x1<;>cases x2<;>cases x3<;>cases x4<;>cases x5<;>cases x6<;>rfl
theorem E0P(c:M7)(h:c.2.2.2.2.2.1.length<=maxLen)(i:Nat)(hi:i<c.2.2.2.2.2.1.length):B5f U3 c ((i:Int),())=bif B1V c i then some (.inl (((i+1:Nat):Int),())) else some (.inr (.inr (false,()))):=by
  have h1:((i:Int)<(c.2.2.2.2.2.1.length:Int)):=by omega
  have h2:(0:Int)<=(i:Int):=by omega
  simp only [maxLen] at h;simp only [B5f,A0 h1,A0 h2,A8,S3,A5,B1V];rw [w64 (n:=(i:Int)+1) (by omega) (by omega),w64 (n:=(i:Int)-1) (by omega) (by omega)];have e1:((i+1:Nat):Int)=(i:Int)+1:=by omega
  rw [e1];by_cases hz:i=0
  · have g1:¬ (i:Int)>0:=by omega
    simp only [A1 g1,A0 hz,A3,Bool.true_or,C6O];generalize decide ((rd H2 c.2.2.2.2.2.1 (i:Int)).1.tmod 2=1)=x1;generalize decide (1<=(rd H2 c.2.2.2.2.2.1 (i:Int)).1/\(rd H2 c.2.2.2.2.2.1 (i:Int)).1<=c.2.2.2.2.2.2.1)=x2;generalize decide ((rd H2 c.2.2.2.2.2.1 (i:Int)).2.1=1)=x4;generalize decide ((rd H2 c.2.2.2.2.2.1 (i:Int)).2.1=2)=x5;generalize decide ((List.length (rd H2 c.2.2.2.2.2.1 (i:Int)).2.2.2:Int)>2000)=x6;cases x1<;>cases x2<;>cases x4<;>cases x5<;>cases x6<;>rfl
  · have g1:(i:Int)>0:=by omega
    have g2:(0:Int)<=(i:Int)-1:=by omega
    have g3:(i:Int)-1<(c.2.2.2.2.2.1.length:Int):=by omega
    simp only [A0 g1,A0 g2,A0 g3,A1 hz,A8,C6N];generalize decide ((rd H2 c.2.2.2.2.2.1 (i:Int)).1.tmod 2=1)=x1;generalize decide (1<=(rd H2 c.2.2.2.2.2.1 (i:Int)).1/\(rd H2 c.2.2.2.2.2.1 (i:Int)).1<=c.2.2.2.2.2.2.1)=x2;generalize decide ((rd H2 c.2.2.2.2.2.1 (i:Int)).1<=(rd H2 c.2.2.2.2.2.1 ((i:Int)-1)).1)=x3;generalize decide ((rd H2 c.2.2.2.2.2.1 (i:Int)).2.1=1)=x4;generalize decide ((rd H2 c.2.2.2.2.2.1 (i:Int)).2.1=2)=x5;generalize decide ((List.length (rd H2 c.2.2.2.2.2.1 (i:Int)).2.2.2:Int)>2000)=x6;cases x1<;>cases x2<;>cases x3<;>cases x4<;>cases x5<;>cases x6<;>rfl
def C2v(c:M7):Bool:=decide (A0K (B1V c) 0 c.2.2.2.2.2.1.length=c.2.2.2.2.2.1.length)&&decide ((c.2.2.2.2.2.1.length:Int)<=100)
theorem D7T(c:M7)(h:c.2.2.2.2.2.1.length<=maxLen):B7u c=some (C2v c,()):=by
  simp only [B7u,C3o];exact E58 (E0O c h) (by simp [B3t]) _ _ rfl
theorem D7U(c:M7)(h:c.2.2.2.2.2.1.length<=maxLen):C12 c=some (C2v c,()):=by
  simp only [C12,C6k];exact E58 (E0P c h) (by simp [B5f]) _ _ rfl
theorem E59{x y:Nat}(hx:x<9223372036854775808)(hy:y<9223372036854775808):bOr .i64 (x:Int) (y:Int)=((x ||| y:Nat):Int):=by
  have h:x ||| y<2 ^ 63:=C9V (by omega) (by omega);unfold bOr;rw [BitVec.toNat_or,bits_nat (by simp only [IntKind.bits];omega),bits_nat (by simp only [IntKind.bits];omega)];exact D8h (by omega)
def O6(b:List Int)(at_:Nat):Nat->Nat
  | 0=>0
  | j+1=>(O6 b at_ j*256) ||| (b.getD (at_+j) 0).toNat
theorem D4B{b:List Int}(hb:Byt b)(i:Nat):0<=b.getD i 0/\b.getD i 0<256:=by
  by_cases h:i<b.length
  · simp only [List.getD,C5 h,A0w]
    exact hb _ (F2 h)
  · simp only [List.getD,B2K (show b.length<=i by omega),Option.getD_none]
    omega
theorem C8a{b:List Int}(hb:Byt b)(at_:Nat):∀ j,O6 b at_ j<2 ^ (8*j)
  | 0=>by simp [O6]
  | j+1=>by
    have h1:=C8a hb at_ j;have h2:=D4B hb (at_+j);have e:2 ^ (8*(j+1))=2 ^ (8*j)*256:=by rw [show 8*(j+1)=8*j+8 by omega,B0g]
    refine C9V ?_ ?_
    · rw [e];exact Nat.mul_lt_mul_of_pos_right h1 (by omega)
    · have:1<=2 ^ (8*j):=Nat.one_le_two_pow
      rw [e];omega
theorem E0Q{b:List Int}(hb:Byt b)(at_ j:Nat)(hj:j<7)(x:Int)(hx:x=b.getD (at_+j) 0):bOr .i64 (i64.wrap (((O6 b at_ j:Nat):Int)*256)) (i64.wrap x)=((O6 b at_ (j+1):Nat):Int):=by
  have h1:=C8a hb at_ j;have h2:=D4B hb (at_+j);have h3:2 ^ (8*j)<=2 ^ 48:=A10 (by omega) (by omega);subst hx;rw [show ((O6 b at_ j:Nat):Int)*256=((O6 b at_ j*256:Nat):Int) by omega,D8h (by omega),show b.getD (at_+j) 0=(((b.getD (at_+j) 0).toNat:Nat):Int) by omega,D8h (by omega),E59 (by omega) (by omega)];simp only [O6,E5]
def A2e(b:List Int)(a:Int)(k:Nat):Int×Bool×Unit:=if 0<=a/\a<=(b.length:Int)-k then ((O6 b a.toNat k:Int),true,()) else (0,false,())
theorem C1n(b:List Int)(hb:Byt b)(h:b.length<=1000000000000000)(a:Int)(k:Nat)(hk:1<=k/\k<=7):B2j b a (k:Int)=some (A2e b a k):=by
  simp only [B2j,C6s,V6,A5,A2e];rw [A0 (show (1:Int)<=(k:Int)/\(k:Int)<=7 by omega),w64 (by omega) (by omega)];simp only [C3,A3];by_cases h1:a<0
  · rw [A0 h1,A4 (by omega)];rfl
  rw [A1 h1];by_cases h2:a>(b.length:Int)-k
  · rw [A0 h2,A4 (by omega)];rfl
  rw [A1 h2,A7 (by omega)];simp only [A3,H8];have key:=O3 (B1D (k:Int) a b) (fun j=>((O6 b a.toNat j:Int),(j:Int),())) k ((O6 b a.toNat k:Int),()) (fun j hj=>?_) ?_
  · have e:G1 (B1D (k:Int) a b) (0,0,())=_:=key
    rw [e]
  · have g1:(j:Int)<(k:Int):=by omega
    simp only [B1D,A0 g1,A8];rw [w64 (n:=a+(j:Int)) (by omega) (by omega)];have g2:0<=a+(j:Int):=by omega
    have g3:a+(j:Int)<(b.length:Int):=by omega
    rw [A0 g2,A0 g3];simp only [A8];rw [E0Q hb a.toNat j (by omega) _ (by
      rw [show a+(j:Int)=((a.toNat+j:Nat):Int) by omega,C1m (by omega)];simp [List.getD,show a.toNat+j<b.length by omega]),show (j:Int)+1=((j+1:Nat):Int) by omega,D8h (by omega)]
  · simp [B1D]
theorem C1o(b:List Int)(hb:Byt b)(h:b.length<=1000000000000000)(a:Int)(k:Nat)(hk:1<=k/\k<=7):B2a b a (k:Int)=some (A2e b a k):=by
  simp only [B2a,C6j,S3,A5,A2e];rw [A0 (show (1:Int)<=(k:Int)/\(k:Int)<=7 by omega),w64 (n:=(b.length:Int)-(k:Int)) (by omega) (by omega)];simp only [C3,A3];by_cases h1:a<0
  · rw [A0 h1,A4 (by omega)];rfl
  rw [A1 h1];by_cases h2:a>(b.length:Int)-k
  · rw [A0 h2,A4 (by omega)];rfl
  rw [A1 h2,A7 (by omega)];simp only [A3,H8];rw [w64 (n:=a+(k:Int)) (by omega) (by omega),A0 (show 0<=a by omega),A0 (show a<=a+(k:Int) by omega),A0 (show a+(k:Int)<=(b.length:Int) by omega)];simp only [A8];have hlen:((b.take (a+(k:Int)).toNat).drop a.toNat).length=k:=by simp;omega
  have key:=O3 (B0u b a (k:Int)) (fun j=>((O6 b a.toNat j:Int),(j:Int),())) k ((O6 b a.toNat k:Int),()) (fun j hj=>?_) ?_
  · have e:G1 (B0u b a (k:Int)) (0,0,())=_:=key
    rw [e]
  · have g1:(j:Int)<(k:Int):=by omega
    have g2:(0:Int)<=(j:Int):=by omega
    simp only [B0u];rw [w64 (n:=a+(k:Int)) (by omega) (by omega)];simp only [hlen,A0 g1,A0 g2,A8];rw [E0Q hb a.toNat j (by omega) _ (by
      rw [C1m (by rw [hlen];exact hj)];simp [List.getD,show a.toNat+j<b.length by omega]),show (j:Int)+1=((j+1:Nat):Int) by omega,D8h (by omega)]
  · simp only [B0u]
    rw [w64 (n:=a+(k:Int)) (by omega) (by omega)];simp [hlen]
def A3f(b:List Int)(a:Int):E2×Int×Int×Unit:=
  if 0<=a/\a<=(b.length:Int)-9 then
    (if (O6 b a.toNat 3:Int)>1000 then ((0,0,0,[]),a,2,())
      else if (O6 b a.toNat 3:Int)>(b.length:Int)-a-9 then ((0,0,0,[]),a,1,())
      else ((rd (.int .u8) b (a+3),rd (.int .u8) b (a+4),Q4 .i64 (O6 b (a+5).toNat 4:Int) 2147483647,(b.take (a+9+(O6 b a.toNat 3:Int)).toNat).drop (a+9).toNat),a+9+(O6 b a.toNat 3:Int),0,()))
  else ((0,0,0,[]),a,1,())
theorem D2j{b:List Int}(hb:Byt b){i:Int}(h0:0<=i)(h1:i<(b.length:Int)):i64.wrap (rd (.int .u8) b i)=rd (.int .u8) b i:=by
  obtain ⟨n,rfl⟩:∃ n:Nat,i=(n:Int):=⟨i.toNat,by omega⟩;rw [C1m (by omega)];have:=hb b[n] (F2 (by omega));exact w64 (by omega) (by omega)
theorem C46(b:List Int)(hb:Byt b)(h:b.length<=1000000000000000)(a:Int)(ha:-9223372036854775808<=a/\a<9223372036854775808):A7w b a=some (A3f b a):=by
  simp only [A7w,C1Q];rw [show (3:Int)=((3:Nat):Int) from rfl,C1n b hb h a 3 (by omega),show (4:Int)=((4:Nat):Int) from rfl,C1n b hb h _ 4 (by omega)];simp only [A5,A3f];by_cases hin:0<=a/\a<=(b.length:Int)-9
  · have hn:=C8a hb a.toNat 3
    rw [A7 hin];have e3:A2e b a 3=((O6 b a.toNat 3:Int),true,()):=by unfold A2e;rw [A7 (by omega)]
    have e5:i64.wrap (a+5)=a+5:=w64 (by omega) (by omega);have e4:A2e b (a+5) 4=((O6 b (a+5).toNat 4:Int),true,()):=by unfold A2e;rw [A7 (by omega)]
    simp only [e5,e3,e4,C3,A3];by_cases h1:(O6 b a.toNat 3:Int)>1000
    · rw [A0 h1,A7 h1];rfl
    rw [A1 h1,A4 h1];have e9:i64.wrap (i64.wrap ((b.length:Int)-a)-9)=(b.length:Int)-a-9:=by rw [w64 (n:=(b.length:Int)-a) (by omega) (by omega)];exact w64 (by omega) (by omega)
    rw [e9];by_cases h2:(O6 b a.toNat 3:Int)>(b.length:Int)-a-9
    · rw [A0 h2,A7 h2];rfl
    rw [A1 h2,A4 h2];simp only [A3,H8];have w3:i64.wrap (a+((3:Nat):Int))=a+3:=w64 (by omega) (by omega);have w4:i64.wrap (a+((4:Nat):Int))=a+4:=w64 (by omega) (by omega);have w9:i64.wrap (a+9)=a+9:=w64 (by omega) (by omega);have wn:i64.wrap (a+9+(O6 b a.toNat 3:Int))=a+9+(O6 b a.toNat 3:Int):=w64 (by omega) (by omega);simp only [w3,w4,w9,wn];rw [A0 (show 0<=a+3 by omega),A0 (show a+3<(b.length:Int) by omega),A0 (show 0<=a+4 by omega),A0 (show a+4<(b.length:Int) by omega),A0 (show 0<=a+9 by omega),A0 (show a+9<=a+9+(O6 b a.toNat 3:Int) by omega),A0 (show a+9+(O6 b a.toNat 3:Int)<=(b.length:Int) by omega),A0 (by simp;omega),A0 (by simp;omega)];simp only [A8,F6];rw [D2j hb (show 0<=a+3 by omega) (by omega),D2j hb (show 0<=a+4 by omega) (by omega)]
  · rw [A4 hin]
    by_cases h3:0<=a/\a<=(b.length:Int)-3
    · have e5:i64.wrap (a+5)=a+5:=w64 (by omega) (by omega)
      have e4:A2e b (a+5) 4=(0,false,()):=by unfold A2e;rw [A4 (by omega)]
      simp only [e5,e4];cases (A2e b a 3).2.1<;>rfl
    · have e3:A2e b a 3=(0,false,()):=by unfold A2e;rw [A4 (by omega)]
      simp only [e3];rfl
theorem B1W(b:List Int)(hb:Byt b)(h:b.length<=1000000000000000)(a:Int)(ha:-9223372036854775808<=a/\a<9223372036854775808):A2r b a=some (A3f b a):=by
  simp only [A2r,C0w];rw [w64 (n:=(b.length:Int)-9) (by omega) (by omega)];simp only [A3f];by_cases h1:a<0
  · rw [A0 h1,A4 (by omega)];rfl
  rw [A1 h1];by_cases h2:a>(b.length:Int)-9
  · rw [A0 h2,A4 (by omega)];rfl
  rw [A1 h2,A7 (by omega)];have hn:=C8a hb a.toNat 3;simp only [A3,H8];rw [show (3:Int)=((3:Nat):Int) from rfl,C1o b hb h a 3 (by omega),show (4:Int)=((4:Nat):Int) from rfl,C1o b hb h _ 4 (by omega)];have e3:A2e b a 3=((O6 b a.toNat 3:Int),true,()):=by unfold A2e;rw [A7 (by omega)]
  have e5:i64.wrap (a+5)=a+5:=w64 (by omega) (by omega);have e4:A2e b (a+5) 4=((O6 b (a+5).toNat 4:Int),true,()):=by unfold A2e;rw [A7 (by omega)]
  have w9:i64.wrap (a+9)=a+9:=w64 (by omega) (by omega);simp only [A5,e5,e3,e4,w9];by_cases h3:(O6 b a.toNat 3:Int)>1000
  · rw [A0 h3,A7 h3];rfl
  rw [A1 h3,A4 h3,w64 (n:=(b.length:Int)-(a+9)) (by omega) (by omega)];by_cases h4:(O6 b a.toNat 3:Int)>(b.length:Int)-a-9
  · rw [A0 (show (O6 b a.toNat 3:Int)>(b.length:Int)-(a+9) by omega),A7 h4];rfl
  rw [A1 (show ¬ (O6 b a.toNat 3:Int)>(b.length:Int)-(a+9) by omega),A4 h4];simp only [A3];have w3:i64.wrap (a+((3:Nat):Int))=a+3:=w64 (by omega) (by omega);have w4:i64.wrap (a+((4:Nat):Int))=a+4:=w64 (by omega) (by omega);have wn:i64.wrap (a+9+(O6 b a.toNat 3:Int))=a+9+(O6 b a.toNat 3:Int):=w64 (by omega) (by omega);simp only [w3,w4,wn];rw [A0 (show 0<=a+3 by omega),A0 (show a+3<(b.length:Int) by omega),A0 (show 0<=a+4 by omega),A0 (show a+4<(b.length:Int) by omega),A0 (show 0<=a+9 by omega),A0 (show a+9<=a+9+(O6 b a.toNat 3:Int) by omega),A0 (show a+9+(O6 b a.toNat 3:Int)<=(b.length:Int) by omega)];simp only [A8];rw [D5w _ (by simp;omega),D2j hb (show 0<=a+3 by omega) (by omega),D2j hb (show 0<=a+4 by omega) (by omega)];rfl
theorem E0R(b:List Int)(hb:Byt b)(h:b.length<=1048576)(a:Int)(k:Nat)(hk:1<=k/\k<=7):B2j b a (k:Int)=some (A2e b a k):=C1n b hb (by omega) a k hk
theorem C66(b:List Int)(hb:Byt b)(h:b.length<=1048576)(a:Int)(ha:-9223372036854775808<=a/\a<9223372036854775808):A7w b a=some (A3f b a):=C46 b hb (by omega) a ha
theorem E0S(b:List Int)(hb:Byt b)(h:b.length<=1048576)(a:Int)(k:Nat)(hk:1<=k/\k<=7):B2a b a (k:Int)=some (A2e b a k):=C1o b hb (by omega) a k hk
theorem D60(b:List Int)(hb:Byt b)(h:b.length<=1048576)(a:Int)(ha:-9223372036854775808<=a/\a<9223372036854775808):A2r b a=some (A3f b a):=B1W b hb (by omega) a ha
theorem B72(xs:List Int):(strOf xs).size=xs.length:=strOfNums_size xs
theorem E0T(x:Int):0<=Q4 .i64 x 255/\Q4 .i64 x 255<=255:=by
  unfold Q4;have h:(BitVec.ofInt i64.bits x &&& BitVec.ofInt i64.bits 255).toNat<=255:=by
    rw [BitVec.toNat_and];have:(BitVec.ofInt i64.bits (255:Int)).toNat=255:=bits_nat (w:=64) (x:=255) (by omega);rw [this];exact Nat.and_le_right
  rw [D8h (by omega)];omega
def Cur(c:I4):Prop:=List.length c.1<=1048576/\0<=c.2.1/\c.2.1<=1048576
theorem B6R(c:I4)(h:Cur c):∃ r c',A7I c=some (r,c',())/\Cur c'/\0<=r/\r<=255:=by
  obtain ⟨h1,h2,h3⟩:=h;simp only [A7I,C72];by_cases hi:c.2.1<(List.length c.1:Int)
  · simp only [A0 hi,A0 h2,A8]
    refine ⟨_,_,rfl,⟨h1,?_,?_⟩,E0T _⟩
    · simp only;rw [w64 (by omega) (by omega)];omega
    · simp only;rw [w64 (by omega) (by omega)];omega
  · simp only [A1 hi,A3]
    exact ⟨_,_,rfl,⟨h1,h2,h3⟩,E0T _⟩
theorem A0m(c:I4)(n:Int)(h:Cur c)(hn:0<n/\n<9223372036854775808):∃ r c',R6 c n=some (r,c',())/\Cur c'/\0<=r/\r<n:=by
  simp only [R6,C42];rw [A1 (show ¬ n<=0 by omega)];have hz:(n == 0)=false:=by simp;omega
  simp only [A3,hz];by_cases h1:n<=256
  · rw [A0 h1]
    obtain ⟨r,c',e,hc,hr⟩:=B6R c h;simp only [A8,e,A5];refine ⟨_,_,rfl,hc,?_⟩;rw [A1Q hr.1];exact ⟨Int.emod_nonneg _ (by omega),C7n _ (by omega)⟩
  · rw [A1 h1]
    obtain ⟨r1,c1,e1,hc1,hr1⟩:=B6R c h;obtain ⟨r2,c2,e2,hc2,hr2⟩:=B6R c1 hc1;obtain ⟨r3,c3,e3,hc3,hr3⟩:=B6R c2 hc2;simp only [A3,e1,e2,e3,A5];refine ⟨_,_,rfl,hc3,?_⟩;rw [w64 (n:=r1*65536) (by omega) (by omega),w64 (n:=r2*256) (by omega) (by omega),w64 (n:=r1*65536+r2*256) (by omega) (by omega),w64 (n:=r1*65536+r2*256+r3) (by omega) (by omega)];rw [A1Q (by omega)];exact ⟨Int.emod_nonneg _ (by omega),C7n _ (by omega)⟩
theorem D4C(c:I4)(xs:List X0)(h:Cur c)(hx:0<xs.length/\xs.length<=1048576):∃ s c',C00 c xs=some (s,c',())/\Cur c'/\s∈xs:=by
  obtain ⟨r,c',e,hc,h0,h1⟩:=A0m c (xs.length:Int) h (by omega);simp only [C00,D00,e,A5,A0 h0,A0 h1,A8];refine ⟨_,_,rfl,hc,?_⟩;obtain ⟨n,rfl⟩:∃ n:Nat,r=(n:Int):=⟨r.toNat,by omega⟩;rw [F2q (by omega)];exact F2 _
theorem A2n(c:I4)(xs:List Int)(h:Cur c)(hx:0<xs.length/\xs.length<=1048576):∃ s c',A44 c xs=some (s,c',())/\Cur c'/\s∈xs:=by
  obtain ⟨r,c',e,hc,h0,h1⟩:=A0m c (xs.length:Int) h (by omega);simp only [A44,C9w,e,A5,A0 h0,A0 h1,A8];refine ⟨_,_,rfl,hc,?_⟩;obtain ⟨n,rfl⟩:∃ n:Nat,r=(n:Int):=⟨r.toNat,by omega⟩;rw [C1m (by omega)];exact F2 _
theorem wrap_u8(x:Int):0<=u8.wrap x/\u8.wrap x<256:=by
  simp only [IntKind.wrap,IntKind.bits,IntKind.signed];simp;omega
theorem C77(c:I4)(n:Int)(h:Cur c)(hn:0<=n/\n<=1048576):∃ b c',A3Q c n=some (b,c',())/\Cur c'/\(List.length b:Int)=n/\Byt b:=by
  simp only [A3Q,B33];obtain ⟨z,e,hz⟩:=B6Q (B04 A7I n) (fun l=>(n-l.1).toNat) (fun l=>0<=l.1/\l.1<=n/\Cur (l.2.1,l.2.2.1,l.2.2.2.1)/\(List.length l.2.2.2.2.1:Int)=l.1/\Byt l.2.2.2.2.1)
    (fun z=>Cur z.2.1/\(List.length z.1:Int)=n/\Byt z.1) (fun l hl=>by
      obtain ⟨h0,h1,hc,hlen,hb⟩:=hl;simp only [B04];by_cases hi:l.1<n
      · obtain ⟨r,c',e,hc',hr⟩:=B6R _ hc
        refine .inl ⟨(l.1+1,c'.1,c'.2.1,c'.2.2,l.2.2.2.2.1 ++ [u8.wrap r],()),?_,⟨by simp only;omega,by simp only;omega,hc',by simp;omega,?_⟩,by simp only;omega⟩
        · rw [A0 hi,e]
          simp only [A8,A5];rw [A0 (by simp;omega),A0 (by simp;omega),w64 (by omega) (by omega)];rfl
        · intro x hx
          rcases D0.1 hx with hx | hx
          · exact hb x hx
          · rw [B0.1 hx];exact wrap_u8 _
      · rw [A1 hi]
        exact .inr ⟨_,rfl,hc,by simp only;omega,hb⟩) (0,c.1,c.2.1,c.2.2,[],()) ⟨by simp,hn.1,h,by simp,fun x hx=>by cases hx⟩
  exact ⟨z.1,z.2.1,e,hz⟩
theorem E9M(a:List Int)(h:a.length<=1048576):∃ c,C5H a=some (c,())/\Cur c:=by
  simp only [C5H,C9u];obtain ⟨z,e,_⟩:=B6Q (C41 a) (fun l=>((a.length:Int)-l.2.1).toNat) (fun l=>0<=l.2.1) (fun _=>True) (fun l hl=>by
    simp only [C41];by_cases hi:l.2.1<(a.length:Int)
    · by_cases h4:l.2.1<4000
      · rw [A0 hi,A0 h4]
        simp only [A8,H8];rw [A0 hl,w64 (n:=l.2.1+1) (by omega) (by omega)];exact .inl ⟨_,rfl,by simp only;omega,by simp only;omega⟩
      · rw [A0 hi,A1 h4]
        exact .inr ⟨_,rfl,trivial⟩
    · rw [A1 hi]
      exact .inr ⟨_,rfl,trivial⟩) (i64.wrap (369369+(a.length:Int)),0,()) (by simp)
  rw [e];exact ⟨_,rfl,h,by simp,by simp⟩
theorem A1D{a b:List Int}(ha:Byt a)(hb:Byt b):Byt (a++b):=fun x hx=>(D0.1 hx).elim (ha x) (hb x)
theorem D2k(n:Int)(k:Nat):Byt (big n k):=by
  intro x hx;obtain ⟨j,_,rfl⟩:=E1.1 hx;exact wrap_u8 _
theorem E0U(s:X0):Byt (bytesOf s):=by
  intro x hx;obtain ⟨b,_,rfl⟩:=E1.1 hx;have:=b.toNat_lt;omega
theorem B73{a:List Int}(h:Byt a)(i:Nat):Byt (a.drop i):=fun x hx=>h x (A2J hx)
theorem B8B(go:Nat->Bool):∀ k i j,i<=j->j<A0K go i k->go j=true
  | 0,i,j,h1,h2=>by simp only [A0K] at h2;omega
  | k+1,i,j,h1,h2=>by
    simp only [A0K] at h2;split at h2
    · rename_i hg
      by_cases e:j=i
      · rw [e];exact hg
      · exact B8B go k (i+1) j (by omega) h2
    · omega
theorem D1b(go:Nat->Bool)(n p:Nat)(hp:p<=n)(h1:∀ j,j<p->go j=true)(h2:p<n->go p=false):A0K go 0 n=p:=by
  have hl:=D7R go n 0;rcases B8d (A0K go 0 n) p with h | h | h
  · have:=C8V go n 0 (by omega)
    rw [h1 _ h] at this;cases this
  · exact h
  · have:=B8B go n 0 p (by omega) h
    rw [h2 (by omega)] at this;cases this
def D8i(op:Int):Int:=if op=1 then 1000000000 else if op=3 then 1000000000 else if op=4 then 4294967295 else 0
def D01(r:B8h):Bool:=decide (1<=r.1/\r.1<=6)&&idB r.2.1&&decide (0<=r.2.2/\r.2.2<=D8i r.1)
theorem D4D(r:B8h)(h:r.2.1.size<=maxLen):B9o r=some (D01 r,()):=by
  simp only [B9o,C9v,V6,E0L _ h,A5,D01,A4D,B4n,D8i];cases decide (1<=r.1/\r.1<=6)
  · rfl
  cases idB r.2.1
  · rfl
  simp only [C3,A3,H8,J5];have hz:decide (0<=r.2.2/\r.2.2<=0)=decide (r.2.2=0):=by
    by_cases h0:r.2.2=0
    · rw [A0 h0,A0 (by omega)]
    · rw [A1 h0,A1 (by omega)]
  by_cases h1:r.1=1
  · simp [h1]
  by_cases h3:r.1=3
  · simp [h3]
  by_cases h4:r.1=4
  · simp [h4]
  simp [h1,h3,h4];rw [C3B];simp;omega
theorem E6b{a b:List Int}(ha:Byt a)(hb:Byt b)(h:(strOf a).toList=(strOf b).toList):a=b:=by
  rw [A0L,A0L] at h;have h2:(a.map fun n=>UInt8.ofNat n.toNat)=b.map fun n=>UInt8.ofNat n.toNat:=h
  have hl:a.length=b.length:=by simpa using N6 List.length h2
  refine A8p hl fun i h1 h3=>?_
  have h4:=N6 (fun l=>l[i]?) h2;simp only [N0,C5 h1,C5 h3,N9,G0] at h4;exact F2r (ha _ (F2 h1)) (hb _ (F2 h3)) h4
theorem C8b{a b:X0}(h:a.toList=b.toList):a=b:=by
  rw [A0L,A0L] at h;obtain ⟨⟨a⟩⟩:=a;obtain ⟨⟨b⟩⟩:=b;have h:a=b:=h;rw [h]
theorem C67{xs:List Int}(h:Byt xs):bytesOf (strOf xs)=xs:=by
  show ((strOfNums xs).data.toList.map fun b=>(b.toNat:Int))=xs;rw [strOfNums_data,C2m];refine (C5p fun x hx=>?_).trans (List.map_id _);have:=h x hx;simp only [Function.comp,id];have e:(UInt8.ofNat x.toNat).toNat=x.toNat % 256:=UInt8.toNat_ofNat;rw [e];omega
theorem C68(s:X0):strOf (bytesOf s)=s:=by
  refine C8b ?_;rw [A0L,A0L];show ((bytesOf s).map fun n=>UInt8.ofNat n.toNat)=s.data.toList;rw [bytesOf,C2m];refine (C5p fun x hx=>?_).trans (List.map_id _);simp
theorem E0V(n:Nat):u8.wrap (n:Int)=((n % 256:Nat):Int):=by
  simp only [IntKind.wrap,IntKind.bits,IntKind.signed];simp
theorem E0W(x y:Nat)(h:y<256):(x*256) ||| y=x*256+y:=by
  have:=A3I (i:=8) (b:=y) (by simpa using h) x;rw [A0F x 256];exact this.symm
theorem E0a(p q:List Int)(n k:Nat):∀ j,j<=k->O6 (p++(big (n:Int) k++q)) p.length j=n / 2 ^ (8*(k-j)) % 2 ^ (8*j)
  | 0,_=>by simp [O6,Nat.mod_one]
  | j+1,hj=>by
    have ih:=E0a p q n k j (by omega);have hget:(p++(big (n:Int) k++q)).getD (p.length+j) 0=D7S (n:Int) k j:=by
      simp only [List.getD];rw [F5 (by omega),W7,F4 (by rw [A34];omega)];simp only [big,N0,C5n (show j<k by omega),N9,A0w]
    have hat:D7S (n:Int) k j=((n / 2 ^ (8*(k-1-j)) % 256:Nat):Int):=by
      unfold D7S;rw [<- E0V]
      congr 1
      rw [show (2:Int) ^ (8*(k-1-j))=((2 ^ (8*(k-1-j)):Nat):Int) by rw [Int.natCast_pow];rfl,A3k _ (C7o _),<- B3c]
    simp only [O6];rw [ih,hget,hat,E5,E0W _ _ (A4l _ (by omega))];rw [show k-1-j=k-(j+1) by omega];have e1:2 ^ (8*(k-j))=2 ^ (8*(k-(j+1)))*256:=by rw [show 8*(k-j)=8*(k-(j+1))+8 by omega,B0g]
    have e2:2 ^ (8*(j+1))=256*2 ^ (8*j):=by rw [show 8*(j+1)=8+8*j by omega,B0g]
    rw [e1,<- Nat.div_div_eq_div_mul,e2,Nat.mod_mul];omega
theorem D7V{b:List Int}(p q:List Int)(n:Int)(k a:Nat)(h:b=p++(big n k++q))(ha:a=p.length)(h0:0<=n)(h1:n<2 ^ (8*k)):(O6 b a k:Int)=n:=by
  subst h;subst ha;obtain ⟨m,rfl⟩:∃ m:Nat,n=(m:Int):=⟨n.toNat,by omega⟩;rw [E0a p q m k k (B6 _),Nat.sub_self,Nat.mul_zero,Nat.pow_zero,Nat.div_one];rw [show (2:Int) ^ (8*k)=((2 ^ (8*k):Nat):Int) by rw [Int.natCast_pow];rfl] at h1;rw [B3a (by omega)]
theorem E2w(c:M7)(hin:List.length c.2.1<=1048576)(hst:List.length c.2.2.2.2.2.1<=1048576)(hd:List.length c.2.2.2.1.2<=1048576)(he:List.length c.2.2.2.2.1.2<=1048576)(hb:Byt c.2.1):∃ r,A1r c=some (r,())/\A4S c=some (r,()):=by
  obtain ⟨g,hg⟩:=C65 c.2.2.1;obtain ⟨t1,ht1⟩:=B1U c.2.2.2.1 (by simp only [maxLen];omega);obtain ⟨t2,ht2⟩:=B1U c.2.2.2.2.1 (by simp only [maxLen];omega);simp only [A1r,C1R,A4S,C13,E0M,E2v,hg,ht1,ht2,V6,S3];rw [D7T c (by simp only [maxLen];omega),D7U c (by simp only [maxLen];omega),C66 _ hb hin 0 (by omega),D60 _ hb hin 0 (by omega)];have hz:decide (c.2.2.2.2.2.2.2>0)=(!decide (c.2.2.2.2.2.2.2=0)&&decide (0<=c.2.2.2.2.2.2.2)):=by
    by_cases h1:c.2.2.2.2.2.2.2=0
    · rw [A1 (by omega),A0 h1];rfl
    · by_cases h2:0<=c.2.2.2.2.2.2.2
      · rw [A0 (by omega),A1 h1,A0 h2];rfl
      · rw [A1 (by omega),A1 h1,A1 h2];rfl
  have hr:decide (0<=c.2.2.2.2.2.2.2/\c.2.2.2.2.2.2.2<=20)=true->decide (0<=c.2.2.2.2.2.2.2)=true:=by
    intro q;exact A0 (B7 q).1
  have hl0:decide ((List.length c.2.1:Int)=0)=!decide ((List.length c.2.1:Int)>0):=by
    by_cases h1:(List.length c.2.1:Int)>0
    · rw [A0 h1,A1 (by omega)];rfl
    · rw [A1 h1,A0 (by omega)];rfl
  have hs0:decide ((List.length c.2.2.2.2.2.1:Int)=0)=!decide ((List.length c.2.2.2.2.2.1:Int)>0):=by
    by_cases h1:(List.length c.2.2.2.2.2.1:Int)>0
    · rw [A0 h1,A1 (by omega)];rfl
    · rw [A1 h1,A0 (by omega)];rfl
  rw [hz,hl0,hs0];simp only [A5];revert hr;generalize decide (0<=c.1/\c.1<=24)=b1;generalize decide (0<=c.2.2.2.2.2.2.1/\c.2.2.2.2.2.2.1<=2147483647)=b2;generalize decide (0<=c.2.2.2.2.2.2.2/\c.2.2.2.2.2.2.2<=20)=b3;generalize decide (0<=c.2.2.2.2.2.2.2)=b4;generalize C2v c=b5;generalize decide ((List.length c.2.1:Int)>1100)=b6;generalize decide ((A3f c.2.1 0).2.2.1=1)=b7;generalize decide (c.1<24)=b8;generalize decide ((List.length c.2.1:Int)>0)=b9;generalize decide (c.2.2.2.2.2.2.2=0)=b10;generalize decide ((List.length c.2.2.2.2.2.1:Int)>0)=b11;generalize decide (c.2.2.1.1=0)=b12;intro hr;cases b1
  · exact ⟨_,rfl,rfl⟩
  cases g
  · exact ⟨_,rfl,rfl⟩
  cases t1
  · exact ⟨_,rfl,rfl⟩
  cases t2
  · exact ⟨_,rfl,rfl⟩
  cases b2
  · cases b5<;>exact ⟨_,rfl,rfl⟩
  cases b5
  · exact ⟨_,rfl,rfl⟩
  cases b6
  · cases b3
    · exact ⟨_,rfl,rfl⟩
    · rw [hr rfl]
      cases b7<;>cases b8<;>cases b9<;>cases b10<;>cases b11<;>cases b12<;>exact ⟨_,rfl,rfl⟩
  · cases b3<;>exact ⟨_,rfl,rfl⟩
def pri:List Int:= [80,82,73,32,42,32,72,84,84,80,47,50,46,48,13,10,13,10,83,77,13,10,13,10]
def prefaceB:List Int:=pri++R1 (4,0,0,[])
theorem E0b:prefaceB.length=33:=by simp [prefaceB,R1,pri,A34]
theorem D8j:B88=some (prefaceB,()):=by
  simp only [B88,C43];rw [A6P _ (by simp)];have:O0 (4,0,0,[])=true:=by decide
  rw [this];have hl:(R1 (4,0,0,[])).length=9:=by simp [R1,A34]
  simp only [A5,L4];rw [A0 (by rw [hl];simp),A0 (by rw [hl];simp)];rfl
set_option maxRecDepth 100000
def lensT:List Int:= [13,23,28,28,28,28,28,28,28,24,30,28,28,30,28,28,28,28,28,28,28,28,30,28,28,28,28,28,28,28,28,28,6,10,10,12,13,6,8,11,10,10,8,11,8,6,6,6,5,5,5,6,6,6,6,6,6,6,7,8,15,6,12,10,13,6,7,7,7,7,7,7,7,7,7,7,7,7,7,7,7,7,7,7,7,7,7,7,8,7,8,13,19,13,14,6,15,5,6,5,6,5,6,6,6,5,7,7,6,6,6,5,6,7,6,5,5,6,7,7,7,7,7,15,11,14,13,28,20,22,20,20,22,22,22,23,22,23,23,23,23,23,24,23,24,24,22,23,24,23,23,23,23,21,22,23,22,23,23,24,22,21,20,22,22,23,23,21,23,22,22,24,21,22,23,23,21,21,22,21,23,22,23,23,20,22,22,22,23,22,22,23,26,26,20,19,22,23,22,25,26,26,26,27,27,26,24,25,19,21,26,27,27,26,27,24,21,21,26,26,28,27,27,27,20,24,20,21,22,21,21,23,22,22,25,25,24,24,26,23,26,27,26,26,27,27,27,27,27,28,27,27,27,27,27,26,30]
theorem C47:B6u=some (lensT,()):=rfl
theorem A1S:lensT.length=257:=by kernel_rfl
theorem D7W:(lensT.all fun x=>decide (5<=x)&&decide (x<=30))=true:=by kernel_rfl
theorem u64_nonneg(x:Int):¬ (u64.wrap x<0):=by
  simp only [IntKind.wrap,IntKind.bits,IntKind.signed,A5O];simp;omega
def cst(n:Int)(st:Int×Int×List Int)(sym:Nat):Int×Int×List Int:=
  if (lensT.getD sym 0)=n then
    (let code:=if st.2.1>0 then i64.wrap ((i64.wrap (st.1+1))*2 ^ (min (u64.wrap (i64.wrap (n-st.2.1))).toNat i64.bits)) else st.1
     (code,n,st.2.2.set sym code)) else st
def C5W(n:Int)(st:Int×Int×List Int):Nat->Int×Int×List Int
  | 0=>st
  | k+1=>cst n (C5W n st k) k
def lvl(st:Int×Int×List Int):Nat->Int×Int×List Int
  | 0=>st
  | k+1=>C5W ((k:Int)+1) (lvl st k) 257
def E9N(b:Int×Int×List Int):List Int:=(lvl b 30).2.2
theorem E0c(b:Int×Int×List Int):E9N b=(lvl b 30).2.2:=rfl
def codesT:List Int:=E9N (0,0,List.replicate 257 0)
theorem F1T(n:Int)(st:Int×Int×List Int)(sym:Nat):(cst n st sym).2.2.length=st.2.2.length:=by
  unfold cst;split<;>simp
theorem D4E(n:Int)(st:Int×Int×List Int):∀ k,(C5W n st k).2.2.length=st.2.2.length
  | 0=>rfl
  | k+1=>by rw [C5W,F1T,D4E n st k]
theorem D8k(st:Int×Int×List Int):∀ k,(lvl st k).2.2.length=st.2.2.length
  | 0=>rfl
  | k+1=>by rw [lvl,D4E,D8k st k]
theorem F1U{xs:List Int}{i:Nat}:rd (.int .i64) xs (i:Int)=xs.getD i 0:=by
  simp [rd,zd]
theorem E30(c l s n:Int)(o:List Int)(ho:o.length=257)(hn:n<1000)(hn0:0<=n)(a b d:Int)(e:List Int) :
    G1 (A9I (lensT,()) (a,b,n,e,())) (c,l,0,o,())=some (.inl ((C5W n (c,l,o) 257).1,(C5W n (c,l,o) 257).2.1,n+1,(C5W n (c,l,o) 257).2.2,())):=by
  have hl:∀ k,(C5W n (c,l,o) k).2.2.length=257:=fun k=>by rw [D4E];exact ho
  refine O3 (A9I (lensT,()) (a,b,n,e,())) (fun k=>((C5W n (c,l,o) k).1,(C5W n (c,l,o) k).2.1,(k:Int),(C5W n (c,l,o) k).2.2,())) 257 _ (fun k hk=>?_) ?_
  · have h1:(k:Int)<=256:=by omega
    have h2:(0:Int)<=(k:Int):=by omega
    have h3:(k:Int)<(lensT.length:Int):=by rw [A1S];omega
    have h4:(k:Int)<((C5W n (c,l,o) k).2.2.length:Int):=by rw [hl];omega
    have h5:i64.wrap ((k:Int)+1)=((k+1:Nat):Int):=by rw [w64 (by omega) (by omega)];omega
    simp only [A9I,A0 h1,A0 h2,A0 h3,A0 h4,A8,F1U,h5,A1 (u64_nonneg _),A3,E5,A5];have e1:C5W n (c,l,o) (k+1)=cst n (C5W n (c,l,o) k) k:=rfl;rw [e1];unfold cst;by_cases hq:lensT.getD k 0=n
    · simp only [hq,R8,C3,A3,L4]
      by_cases hg:(C5W n (c,l,o) k).2.1>0
      · simp only [A0 hg,A8,A7 hg]
      · simp only [A1 hg,A3,A4 hg]
    · simp only [A1 hq,J3,A8,A4 hq]
  · have h1:¬ ((257:Nat):Int)<=256:=by omega
    simp only [A9I,A1 h1,A3];rw [w64 (by omega) (by omega)]
theorem C8c:B0T=some (codesT,()):=by
  show B0T=some (E9N (0,0,List.replicate 257 0),());rw [E0c];simp only [B0T,C3u,C47,A5];have hl:∀ k,(lvl (0,0,List.replicate 257 0) k).2.2.length=257:=fun k=>by rw [D8k];simp
  refine O3 (B3w (lensT,())) (fun k=>((lvl (0,0,List.replicate 257 0) k).1,(lvl (0,0,List.replicate 257 0) k).2.1,((k:Int)+1),(lvl (0,0,List.replicate 257 0) k).2.2,())) 30 _ (fun k hk=>?_) ?_
  · have h1:(k:Int)+1<=30:=by omega
    simp only [B3w,A0 h1,A8];rw [E30 _ _ 0 _ _ (hl k) (by omega) (by omega) _ _ 0 _];simp only [lvl]
    congr 4
  · have h1:¬ ((30:Nat):Int)+1<=30:=by omega
    simp only [B3w,A1 h1,A3]
theorem B06:codesT.length=257:=by
  show (E9N (0,0,List.replicate 257 0)).length=257;rw [E0c,D8k];simp
set_option maxRecDepth 100000
def lensS:X0:=⟨#[49,51,32,50,51,32,50,56,32,50,56,32,50,56,32,50,56,32,50,56,32,50,56,32,50,56,32,50,52,32,51,48,32,50,56,32,50,56,32,51,48,32,50,56,32,50,56,32,50,56,32,50,56,32,50,56,32,50,56,32,50,56,32,50,56,32,51,48,32,50,56,32,50,56,32,50,56,32,50,56,32,50,56,32,50,56,32,50,56,32,50,56,32,50,56,32,54,32,49,48,32,49,48,32,49,50,32,49,51,32,54,32,56,32,49,49,32,49,48,32,49,48,32,56,32,49,49,32,56,32,54,32,54,32,54,32,53,32,53,32,53,32,54,32,54,32,54,32,54,32,54,32,54,32,54,32,55,32,56,32,49,53,32,54,32,49,50,32,49,48,32,49,51,32,54,32,55,32,55,32,55,32,55,32,55,32,55,32,55,32,55,32,55,32,55,32,55,32,55,32,55,32,55,32,55,32,55,32,55,32,55,32,55,32,55,32,55,32,55,32,56,32,55,32,56,32,49,51,32,49,57,32,49,51,32,49,52,32,54,32,49,53,32,53,32,54,32,53,32,54,32,53,32,54,32,54,32,54,32,53,32,55,32,55,32,54,32,54,32,54,32,53,32,54,32,55,32,54,32,53,32,53,32,54,32,55,32,55,32,55,32,55,32,55,32,49,53,32,49,49,32,49,52,32,49,51,32,50,56,32,50,48,32,50,50,32,50,48,32,50,48,32,50,50,32,50,50,32,50,50,32,50,51,32,50,50,32,50,51,32,50,51,32,50,51,32,50,51,32,50,51,32,50,52,32,50,51,32,50,52,32,50,52,32,50,50,32,50,51,32,50,52,32,50,51,32,50,51,32,50,51,32,50,51,32,50,49,32,50,50,32,50,51,32,50,50,32,50,51,32,50,51,32,50,52,32,50,50,32,50,49,32,50,48,32,50,50,32,50,50,32,50,51,32,50,51,32,50,49,32,50,51,32,50,50,32,50,50,32,50,52,32,50,49,32,50,50,32,50,51,32,50,51,32,50,49,32,50,49,32,50,50,32,50,49,32,50,51,32,50,50,32,50,51,32,50,51,32,50,48,32,50,50,32,50,50,32,50,50,32,50,51,32,50,50,32,50,50,32,50,51,32,50,54,32,50,54,32,50,48,32,49,57,32,50,50,32,50,51,32,50,50,32,50,53,32,50,54,32,50,54,32,50,54,32,50,55,32,50,55,32,50,54,32,50,52,32,50,53,32,49,57,32,50,49,32,50,54,32,50,55,32,50,55,32,50,54,32,50,55,32,50,52,32,50,49,32,50,49,32,50,54,32,50,54,32,50,56,32,50,55,32,50,55,32,50,55,32,50,48,32,50,52,32,50,48,32,50,49,32,50,50,32,50,49,32,50,49,32,50,51,32,50,50,32,50,50,32,50,53,32,50,53,32,50,52,32,50,52,32,50,54,32,50,51,32,50,54,32,50,55,32,50,54,32,50,54,32,50,55,32,50,55,32,50,55,32,50,55,32,50,55,32,50,56,32,50,55,32,50,55,32,50,55,32,50,55,32,50,55,32,50,54,32,51,48]⟩
def lensP:List (List UInt8):=Lib.splitK [32] 0 (Lib.count lensS.data.toList [32]) lensS.data.toList
theorem E9O:(lensP.map Lib.atoi)=lensT.map some:=by kernel_rfl
theorem E9P:(lensP.all fun x=>Nat.ble x.length 18)=true:=by kernel_rfl
theorem E0d:(Lib.splitB ⟨#[32]⟩ 0 (Lib.countB lensS ⟨#[32]⟩) lensS).map (·.data.toList)=lensP:=by
  rw [Lib.splitB_data];rfl
theorem E6c(s:X0)(P:List (List UInt8))(hs:s.size<4294967281)(h0:(Lib.splitB ⟨#[32]⟩ 0 (Lib.countB s ⟨#[32]⟩) s).map (·.data.toList)=P)(hP:(P.map Lib.atoi)=lensT.map some)(hz:(P.all fun x=>Nat.ble x.length 18)=true) :
    ∃ c:List X0,B3e s ⟨#[32]⟩=some (c,())/\c.length=257/\∀ k (h:k<c.length),C0d c[k]=some (lensT.getD k 0,(),()):=by
  have h1:(decide (s.size<4294967281)&&decide (1<=(⟨#[32]⟩:X0).size))=true:=by
    rw [A0 hs];rfl
  refine ⟨_,by simp only [B3e,h1,A8];rfl,?_,fun k hk=>?_⟩
  · have:=N6 List.length h0
    rw [T5] at this;rw [this];have h2:=N6 List.length hP;rw [T5,T5,A1S] at h2;exact h2
  · generalize hc:Lib.splitB ⟨#[32]⟩ 0 (Lib.countB s ⟨#[32]⟩) s=c at *
    have e:=h0;have hk2:k<P.length:=by rw [<- e,T5];exact hk
    have e1:(c[k]).data.toList=P[k]:=by
      have:(c.map (·.data.toList))[k]? = P[k]?:=by rw [e]
      rw [N0,C5 hk,C5 hk2] at this;simpa using this
    have e2:Lib.atoi P[k]=some (lensT.getD k 0):=by
      have:(P.map Lib.atoi)[k]? = (lensT.map some)[k]?:=by rw [hP]
      rw [N0,C5 hk2,N0] at this;cases hq:lensT[k]? with
      | none=>rw [hq] at this;cases this
      | some v=>
        rw [hq] at this;simp only [N9,G0] at this;rw [this,D5,hq];rfl
    have e3:(c[k]).size<=18:=by
      have h4:=C6.1 hz P[k] (F2 hk2);have h5:=D8 h4;rw [<- e1] at h5;exact h5
    simp only [C0d,A0 e3,A8,e1,e2]
theorem E9Q:lensS.size<4294967281:=by
  have:Nat.ble (lensS.size+1) 4294967281=true:=by kernel_rfl
  exact D8 this
theorem E9R:∃ c:List X0,B3e lensS ⟨#[32]⟩=some (c,())/\c.length=257/\∀ k (h:k<c.length),C0d c[k]=some (lensT.getD k 0,(),()):=
  E6c lensS lensP E9Q E0d E9O E9P
set_option maxRecDepth 100000
def szs(r:List (Int×Int)):Nat->List (Int×Int)
  | 0=>r
  | k+1=>(szs r k).set k (((szs r k).getD k (0,0)).1,lensT.getD k 0)
theorem E5A(r:List (Int×Int)):∀ k,(szs r k).length=r.length
  | 0=>rfl
  | k+1=>by rw [szs,A0i,E5A r k]
theorem F1V:szs (List.replicate 257 (0,0)) 257=lensT.map fun n=>(0,n):=by kernel_rfl
def ist(n:Int)(st:Int×List (Int×Int))(sym:Nat):Int×List (Int×Int):=
  if (st.2.getD sym (0,0)).2=n then (i64.wrap (st.1+1),st.2.set sym (st.1,(st.2.getD sym (0,0)).2)) else st
def D02(n:Int)(st:Int×List (Int×Int)):Nat->Int×List (Int×Int)
  | 0=>st
  | k+1=>ist n (D02 n st k) k
def D03(st:Int×List (Int×Int)):Nat->Int×List (Int×Int)
  | 0=>st
  | k+1=>D02 ((k:Int)+1) (i64.wrap ((D03 st k).1*2),(D03 st k).2) 257
theorem F1W(n:Int)(st:Int×List (Int×Int))(sym:Nat):(ist n st sym).2.length=st.2.length:=by
  unfold ist;split<;>simp
theorem D4F(n:Int)(st:Int×List (Int×Int)):∀ k,(D02 n st k).2.length=st.2.length
  | 0=>rfl
  | k+1=>by rw [D02,F1W,D4F n st k]
theorem E0e(st:Int×List (Int×Int)):∀ k,(D03 st k).2.length=st.2.length
  | 0=>rfl
  | k+1=>by rw [D03,D4F,E0e st k]
def E0f(a:Int×List (Int×Int)):List (Int×Int):=(D03 a 30).2
theorem E6d(a:Int×List (Int×Int)):E0f a=(D03 a 30).2:=rfl
def F2s:List (Int×Int):=E0f (0,lensT.map fun n=>(0,n))
def E0g(n:Int)(a:Int×List (Int×Int))(b:Int×Int×List Int):Prop:=
  a.2=b.2.2.zip lensT/\b.2.2.length=257/\((b.2.1=0/\b.1=0/\a.1=0)\/(1<=b.2.1/\b.2.1<=n/\a.1=i64.wrap ((b.1+1)*2 ^ (n-b.2.1).toNat)))
theorem E0h(x y:Int):i64.wrap (i64.wrap x*y)=i64.wrap (x*y):=by
  simp only [B3d];generalize hq:(x+9223372036854775808) / 18446744073709551616=q;have e:(x+9223372036854775808) % 18446744073709551616-9223372036854775808=x-18446744073709551616*q:=by omega
  rw [e,Int.sub_mul,Int.mul_assoc];generalize x*y=z;generalize q*y=r;omega
theorem F1a{xs ys:List Int}{k:Nat}{c:Int}(h:k<ys.length):(xs.zip ys).set k (c,ys.getD k 0)=(xs.set k c).zip ys:=by
  refine A8p (by simp) fun i h1 h2=>?_
  simp only [List.getElem_set,List.getElem_zip];split
  · rename_i e
    subst e;rw [D5,C5 h];rfl
  · rfl
theorem F1b{xs:List Int}{k:Nat}(hx:xs.length=257)(hk:k<257):((xs.zip lensT).getD k (0,0)).2=lensT.getD k 0:=by
  have h1:k<(xs.zip lensT).length:=by rw [A9s,hx,A1S];omega
  have h2:k<lensT.length:=by rw [A1S];exact hk
  rw [D5,D5,C5 h1,C5 h2];simp
theorem E9S{n:Int}(hn:1<=n/\n<=30){a:Int×List (Int×Int)}{b:Int×Int×List Int}(h:E0g n a b){k:Nat}(hk:k<257):E0g n (ist n a k) (cst n b k):=by
  obtain ⟨c,tab⟩:=a;obtain ⟨code,p,codes⟩:=b;obtain ⟨h1,h2,h3⟩:=h;simp only at h1 h2 h3;subst h1;have hg:=F1b h2 hk;unfold ist cst;simp only [hg];by_cases hq:lensT.getD k 0=n
  case neg=>rw [A4 hq,A4 hq];exact ⟨rfl,h2,h3⟩
  rw [A7 hq,A7 hq];have hc:(if p>0 then i64.wrap (i64.wrap (code+1)*2 ^ (min (u64.wrap (i64.wrap (n-p))).toNat i64.bits)) else code)=c:=by
    rcases h3 with ⟨e1,e2,e3⟩ | ⟨e1,e2,e3⟩
    · rw [A4 (by omega),e2,e3]
    · rw [A7 (by omega),w64 (n:=n-p) (by omega) (by omega),E0h,e3]
      have e4:min (u64.wrap (n-p)).toNat i64.bits=(n-p).toNat:=by
        simp only [IntKind.wrap,IntKind.bits,IntKind.signed,A5O];simp;omega
      rw [e4]
  simp only [hc];refine ⟨?_,by simpa using h2,.inr ⟨hn.1,C4o _,by simp⟩⟩;rw [<- F1a (by rw [A1S];exact hk),hq]
theorem E5B{n:Int}(hn:1<=n/\n<=30){a:Int×List (Int×Int)}{b:Int×Int×List Int}(h:E0g n a b):∀ k,k<=257->E0g n (D02 n a k) (C5W n b k)
  | 0,_=>h
  | k+1,hk=>E9S hn (E5B hn h k (by omega)) (by omega)
theorem E5C{a:Int×List (Int×Int)}{b:Int×Int×List Int}(h:E0g 0 a b):∀ k:Nat,k<=30->E0g (k:Int) (D03 a k) (lvl b k)
  | 0,_=>h
  | k+1,hk=>by
    obtain ⟨h1,h2,h3⟩:=E5C h k (by omega);refine E5B (by omega) (a:=(i64.wrap ((D03 a k).1*2),(D03 a k).2)) ⟨h1,h2,?_⟩ 257 (B6 _);rcases h3 with ⟨e1,e2,e3⟩ | ⟨e1,e2,e3⟩
    · exact .inl ⟨e1,e2,by simp only [e3];rfl⟩
    · refine .inr ⟨e1,by omega,?_⟩
      simp only [e3];rw [E0h,show (((k+1:Nat):Int)-(lvl b k).2.1).toNat=((k:Int)-(lvl b k).2.1).toNat+1 by omega,Int.pow_succ,Int.mul_assoc]
theorem E0i:∀ xs:List Int,(xs.map fun n=>((0:Int),n))=(List.replicate xs.length (0:Int)).zip xs
  | []=>rfl
  | x::xs=>by simp only [I1,F0,A52,List.zip_cons_cons,E0i xs]
theorem E6e{a:Int×List (Int×Int)}{b:Int×Int×List Int}(h:E0g 0 a b):E0f a=(E9N b).zip lensT:=(E5C h 30 (B6 _)).1
theorem F47:E0g 0 (0,lensT.map fun n=>(0,n)) (0,0,List.replicate 257 0):=⟨by have h:=E0i lensT;rw [A1S] at h;exact h,V2,.inl ⟨rfl,rfl,rfl⟩⟩
theorem E6f:F2s=codesT.zip lensT:=E6e F47
theorem E0j{xs:List (Int×Int)}{i:Nat}:rd L2 xs (i:Int)=xs.getD i (0,0):=by
  simp [rd,zd]
theorem E31(c n:Int)(o:List (Int×Int))(ho:o.length=257)(hn:n<1000)(hn0:0<=n)(a:Int)(e:List (Int×Int)) :
    G1 (A9E (a,n,e,())) (c,0,o,())=some (.inl ((D02 n (c,o) 257).1,n+1,(D02 n (c,o) 257).2,())):=by
  have hl:∀ k,(D02 n (c,o) k).2.length=257:=fun k=>by rw [D4F];exact ho
  refine O3 (A9E (a,n,e,())) (fun k=>((D02 n (c,o) k).1,(k:Int),(D02 n (c,o) k).2,())) 257 _ (fun k hk=>?_) ?_
  · have h1:(k:Int)<257:=by omega
    have h2:(0:Int)<=(k:Int):=by omega
    have h5:i64.wrap ((k:Int)+1)=((k+1:Nat):Int):=by rw [w64 (by omega) (by omega)];omega
    simp only [A9E,A0 h1,A0 h2,A8,E0j,h5,E5];have e1:D02 n (c,o) (k+1)=ist n (D02 n (c,o) k) k:=rfl;rw [e1];unfold ist;by_cases hq:((D02 n (c,o) k).2.getD k (0,0)).2=n
    · simp only [A0 hq,A8,A7 hq]
    · simp only [A1 hq,A3,A4 hq]
  · have h1:¬ ((257:Nat):Int)<257:=by omega
    simp only [A9E,A1 h1,A3];rw [w64 (by omega) (by omega)]
theorem D8l(a:Int×List (Int×Int))(ha:a.2.length=257):G1 (A6J) (a.1,1,a.2,())=some (E0f a,()):=by
  have hl:∀ k,(D03 a k).2.length=257:=fun k=>by rw [E0e,ha]
  rw [E6d];refine O3 A6J (fun k=>((D03 a k).1,((k:Int)+1),(D03 a k).2,())) 30 _ (fun k hk=>?_) ?_
  · have h1:(k:Int)+1<=30:=by omega
    simp only [A6J,A0 h1,A8];rw [E31 _ _ _ (hl k) (by omega) (by omega)];simp only [D03]
    congr 4
  · have h1:¬ ((30:Nat):Int)+1<=30:=by omega
    simp only [A6J,A1 h1,A3]
theorem D8m:B4i=some (codesT.zip lensT,()):=by
  obtain ⟨c,hc,hcl,hca⟩:=E9R;rw [<- E6f];show B4i=some (E0f (0,lensT.map fun n=>(0,n)),());have e0:B4i=A5 (A5 (B3e lensS ⟨#[32]⟩) fun c7=>G1 (A6I C0d c7) (0,(List.replicate 257 (0,0)),())) fun (m1:List A8u×Unit)=>G1 (A6J) (0,1,m1.1,()):=rfl
  rw [e0,hc];have f1:G1 (A6I C0d (c,())) (0,(List.replicate 257 (0,0)),())=some (lensT.map fun n=>(0,n),()):=by
    have hl:∀ k,(szs (List.replicate 257 (0,0)) k).length=257:=fun k=>by rw [E5A];simp
    refine O3 (A6I C0d (c,())) (fun k=>((k:Int),szs (List.replicate 257 (0,0)) k,())) 257 _ (fun k hk=>?_) ?_
    · have h1:(k:Int)<257:=by omega
      have h2:(0:Int)<=(k:Int):=by omega
      have h3:(k:Int)<(c.length:Int):=by rw [hcl];omega
      have h5:i64.wrap ((k:Int)+1)=((k+1:Nat):Int):=by rw [w64 (by omega) (by omega)];omega
      have h6:rd .str c (k:Int)=c[k]'(by omega):=A6d (k:=.str) (by omega);simp only [A6I,A0 h1,A0 h2,A0 h3,A8,h6,hca k (by omega),A5,E0j,h5,E5];rfl
    · have h1:¬ ((257:Nat):Int)<(c.length:Int):=by rw [hcl];omega
      simp only [A6I,A1 h1,A3,F1V]
  simp only [A5,f1];exact D8l (0,lensT.map fun n=>(0,n)) (by simp only [T5,A1S])
set_option maxRecDepth 100000
theorem gA{R:Type}{n:Nat}{X:Option R}(h:n<=140737488355328):(bif decide (n<=9223372036854775807) then bif decide (n*1<=140737488355328) then X else none else none)=X:=by
  rw [A0 (by omega),A0 (by omega)];rfl
theorem E32{R:Type}{n:Nat}{X:Option R}(h:n<=1000000000000):(bif decide (n<=9223372036854775807) then bif decide (n*32<=140737488355328) then X else none else none)=X:=by
  rw [A0 (by omega),A0 (by omega)];rfl
theorem F2t{R:Type}{n:Nat}{X:Option R}(h:n<=1000000000000):(bif decide (n<=9223372036854775807) then bif decide (n*48<=140737488355328) then X else none else none)=X:=by
  rw [A0 (by omega),A0 (by omega)];rfl
def more:Nat->Int->List Int
  | 0,v=> [u8.wrap v]
  | k+1,v=>if v>127 then u8.wrap (bOr .i64 (Q4 .i64 v 127) 128)::more k (v.fdiv 128) else [u8.wrap v]
theorem E0k:∀ k v,(more k v).length<=k+1
  | 0,v=>by simp [more]
  | k+1,v=>by
    have:=E0k k (v.fdiv 128);simp only [more];split<;>simp<;>omega
theorem E0l:∀ k v,Byt (more k v)
  | 0,v=>fun x hx=>by rcases B0.1 hx with rfl;exact wrap_u8 _
  | k+1,v=>by
    have ih:=E0l k (v.fdiv 128);simp only [more];split
    · intro x hx
      rcases C2.1 hx with rfl | hx
      · exact wrap_u8 _
      · exact ih x hx
    · exact fun x hx=>by rcases B0.1 hx with rfl;exact wrap_u8 _
theorem D7a:∀ (k:Nat) (v:Int) (b:List Int),0<=v->v<128 ^ (k+1)->b.length+k+2<=140737488355328->
    ∃ v' ex,G1 A66 (v,b,())=some (v',b++ex,())/\ex ++ [u8.wrap v']=more k v/\ex.length<=k
  | 0,v,b,h0,h1,hb=>by
    have h1':v<128:=by simpa using h1
    have h2:¬ v>127:=by omega
    refine ⟨v,[],?_,rfl,by simp⟩;rw [H5];simp only [A66,A1 h2,A3,G3]
  | k+1,v,b,h0,h1,hb=>by
    by_cases h2:v>127
    · have h3:v.fdiv 128=v / 128:=A3k _ (by omega)
      obtain ⟨v',ex,e1,e2,e3⟩:=D7a k (v.fdiv 128) (b ++ [u8.wrap (bOr .i64 (Q4 .i64 v 127) 128)]) (by omega) (by rw [h3];rw [Int.pow_succ] at h1;omega) (by simp;omega);refine ⟨v',u8.wrap (bOr .i64 (Q4 .i64 v 127) 128)::ex,?_,?_,by simp;omega⟩
      · rw [H5]
        simp only [A66,A0 h2,A8];rw [gA (by simp;omega)];simp only [e1];simp
      · simp only [more,A7 h2,E4,e2]
    · refine ⟨v,[],?_,by simp only [more,A4 h2,F6],by simp⟩
      rw [H5];simp only [A66,A1 h2,A3,G3]
def pfx(M F v:Int):List Int:=if v<M then [u8.wrap (bOr .i64 F v)] else u8.wrap (bOr .i64 F M)::more 3 (v-M)
theorem C5I(M F v:Int):(pfx M F v).length<=5:=by
  unfold pfx;split
  · simp
  · have:=E0k 3 (v-M);simp;omega
theorem D2l(M F v:Int):Byt (pfx M F v):=by
  unfold pfx;split
  · exact fun x hx=>by rcases B0.1 hx with rfl;exact wrap_u8 _
  · intro x hx
    rcases C2.1 hx with rfl | hx
    · exact wrap_u8 _
    · exact E0l _ _ x hx
theorem E5D(n f M F v:Int)(b:List Int)(h1:¬ (u64.wrap n<0))(h2:i64.wrap (i64.wrap (1*2 ^ (min (u64.wrap n).toNat i64.bits))-1)=M)(h3:C0t .i64 f M=F)(h5:1<=n/\n<=8)(h6:0<=f/\f<=255)
    (hM:15<=M/\M<=127) (hv:0<=v/\v<=16777216) (hb:b.length+16<=140737488355328):A6O b n f v=some (b++pfx M F v,()):=by
  have a1:¬ v>16777216:=by omega
  have a2:¬ v<0:=by omega
  simp only [A6O,B95,V6,A0 h5,A0 h6,A5,H8,C3,A3,A1 h1,h2,h3,A1 a1,A1 a2,F6];rw [gA (by simp;omega)];by_cases hq:v<M
  · rw [A0 hq,A8,gA (by simp;omega),pfx,A7 hq]
  · rw [A1 hq,A3,gA (by simp;omega),w64 (by omega) (by omega)]
    obtain ⟨v',ex,e1,e2,e3⟩:=D7a 3 (v-M) (b ++ [u8.wrap (bOr .i64 F M)]) (by omega) (by omega) (by simp;omega);rw [e1];simp only [A5];rw [gA (by simp;omega),pfx,A4 hq,<- e2];simp
set_option maxRecDepth 100000
def leA(s:X0)(k:Nat):Int:=lensT.getD (bt s k).toNat 0
def coA(s:X0)(k:Nat):Int:=codesT.getD (bt s k).toNat 0
theorem D04(s:X0)(k:Int):(bt s k).toNat<257:=by have:=D7Q s k;have:=C63 s k;omega
theorem D2m(s:X0)(k:Nat):5<=leA s k/\leA s k<=30:=by
  have h:=C6.1 D7W (leA s k) (by
    unfold leA;rw [D5,C5 (by rw [A1S];exact D04 s k)];exact F2 _)
  simpa using h
theorem E9T(s:X0)(k:Nat):rd (.int .i64) lensT (bt s k)=leA s k:=by
  simp [rd,zd,leA]
theorem E9U(s:X0)(k:Nat):rd (.int .i64) codesT (bt s k)=coA s k:=by
  simp [rd,zd,coA]
theorem F1c(s:X0)(k:Nat)(xs:List (Int×Int))(hx:xs=codesT.zip lensT):rd L2 xs (bt s k)=(coA s k,leA s k):=by
  subst hx;have h1:(bt s k).toNat<codesT.length:=by rw [B06];exact D04 s k
  have h2:(bt s k).toNat<lensT.length:=by rw [A1S];exact D04 s k
  have h3:(bt s k).toNat<(codesT.zip lensT).length:=by rw [A9s];omega
  unfold rd;rw [D5,C5 h3];simp [coA,leA,D5,C5 h1,C5 h2]
def dr:Nat->Int->Int->Int×Int×List Int
  | 0,v,n=>(v,n,[])
  | k+1,v,n=>if n>=8 then ((dr k (Q4 .i64 v (i64.wrap ((i64.wrap (1*2 ^ (min (u64.wrap (n-8)).toNat i64.bits)))-1))) (n-8)).1,(dr k (Q4 .i64 v (i64.wrap ((i64.wrap (1*2 ^ (min (u64.wrap (n-8)).toNat i64.bits)))-1))) (n-8)).2.1,
      u8.wrap (v.fdiv (2 ^ (min (u64.wrap (n-8)).toNat i64.bits)))::(dr k (Q4 .i64 v (i64.wrap ((i64.wrap (1*2 ^ (min (u64.wrap (n-8)).toNat i64.bits)))-1))) (n-8)).2.2) else (v,n,[])
theorem F3J:∀ (k:Nat) (v n:Int),0<=n->n<8*(k+1)->(dr k v n).2.1=n % 8/\((dr k v n).2.2.length:Int)=n / 8
  | 0,v,n,h0,h1=>⟨by simp only [dr];omega,by simp only [dr,I3];omega⟩
  | k+1,v,n,h0,h1=>by
    by_cases h:n>=8
    · have:=F3J k (Q4 .i64 v (i64.wrap ((i64.wrap (1*2 ^ (min (u64.wrap (n-8)).toNat i64.bits)))-1))) (n-8) (by omega) (by omega)
      simp only [dr,A7 h,F0];omega
    · simp only [dr,A4 h,I3]
      omega
theorem E5E(l0:Int×Int×Int×List Int×Unit):∀ (k:Nat) (v n:Int) (o:List Int),0<=n->n<8*(k+1)->n<1000->o.length+k+1<=140737488355328->
    G1 (B2q l0) (v,n,o,())=some (.inl ((dr k v n).1,(dr k v n).2.1,i64.wrap (l0.2.2.1+1),o++(dr k v n).2.2,()))
  | 0,v,n,o,h0,h1,h2,hb=>by
    have h:¬ n>=8:=by omega
    rw [H5];simp only [B2q,A1 h,A3,dr,G3]
  | k+1,v,n,o,h0,h1,h2,hb=>by
    rw [H5];by_cases h:n>=8
    · have e1:i64.wrap (n-8)=n-8:=w64 (by omega) (by omega)
      simp only [B2q,A0 h,A8,e1,A1 (u64_nonneg _),A3];rw [gA (by simp;omega)];simp only [];rw [E5E l0 k _ (n-8) _ (by omega) (by omega) (by omega) (by simp;omega)];simp only [dr,A7 h,B3,C3I,E4,F6]
    · simp only [B2q,A1 h,A3,dr,A4 h,G3]
theorem E9V(l0:Int×Int×Int×List Int×Unit):D3q l0=B2q l0:=rfl
def hst(s:X0):Nat->Int×Int×List Int
  | 0=>(0,0,[])
  | k+1=>let d:=dr 5 (bOr .i64 (i64.wrap ((hst s k).1*2 ^ (min (u64.wrap (leA s k)).toNat i64.bits))) (coA s k)) ((hst s k).2.1+leA s k);(d.1,d.2.1,(hst s k).2.2++d.2.2)
def bits(s:X0):Nat->Int
  | 0=>0
  | k+1=>bits s k+leA s k
theorem D4G(s:X0):∀ k:Nat,0<=bits s k/\bits s k<=30*(k:Int)
  | 0=>⟨by simp [bits],by simp [bits]⟩
  | k+1=>by
    have:=D4G s k;have:=D2m s k;simp only [bits];omega
theorem E5F(s:X0):∀ k:Nat,(hst s k).2.1=bits s k % 8/\((hst s k).2.2.length:Int)=bits s k / 8
  | 0=>⟨by simp [hst,bits],by simp [hst,bits]⟩
  | k+1=>by
    have h1:=E5F s k;have h2:=D2m s k;have h3:=D4G s k;have h4:=F3J 5 (bOr .i64 (i64.wrap ((hst s k).1*2 ^ (min (u64.wrap (leA s k)).toNat i64.bits))) (coA s k)) ((hst s k).2.1+leA s k) (by omega) (by omega);simp only [hst,bits,A6];omega
theorem E5G(s:X0)(k:Nat)(h:k<=1000000000):(hst s k).2.2.length<=4000000000:=by
  have:=E5F s k;have:=D4G s k;omega
theorem E6g(s:X0)(a:List Int)(ha:a.length<=1000000000000)(hs:s.size<=1000000000)(k:Nat)(hk:k<s.size) :
    A4f s (lensT,()) (codesT,()) ((hst s k).1,(hst s k).2.1,(k:Int),a++(hst s k).2.2,())=some (.inl ((hst s (k+1)).1,(hst s (k+1)).2.1,((k+1:Nat):Int),a++(hst s (k+1)).2.2,())):=by
  have h1:(k:Int)<(s.size:Int):=by omega
  have h2:(0:Int)<=(k:Int):=by omega
  have h3:=D7Q s k;have h4:bt s k<(lensT.length:Int):=by rw [A1S];have:=C63 s k;omega
  have h5:bt s k<(codesT.length:Int):=by rw [B06];have:=C63 s k;omega
  have h6:=D2m s k;have h7:=E5F s k;have h8:=E5G s k (by omega);simp only [A4f,A0 h1,A0 h2,A0 h3,A0 h4,A0 h5,A8,E9T,E9U,A1 (u64_nonneg _),A3];rw [w64 (n:=(hst s k).2.1+leA s k) (by omega) (by omega),E5E _ 5 _ _ _ (by omega) (by omega) (by omega) (by simp;omega),w64 (n:=(k:Int)+1) (by omega) (by omega)];simp only [hst,B3];rfl
theorem E33(s:X0)(l:Int×Int×Int×List Int×Unit):C16 s (codesT.zip lensT) l=A4f s (lensT,()) (codesT,()) l:=by
  obtain ⟨v,n,k,o,u⟩:=l;simp only [C16,A4f];by_cases h1:k<(s.size:Int)
  · by_cases h2:0<=k
    · obtain ⟨k,rfl⟩:=Int.eq_ofNat_of_zero_le h2
      have h3:=D7Q s k;have h4:bt s k<(lensT.length:Int):=by rw [A1S];have:=C63 s k;omega
      have h5:bt s k<(codesT.length:Int):=by rw [B06];have:=C63 s k;omega
      have h6:bt s k<((codesT.zip lensT).length:Int):=by rw [A9s,B06,A1S];have:=C63 s k;omega
      have h7:0<(codesT.zip lensT).length:=by rw [A9s,B06,A1S];omega
      simp only [A0 h1,A0 h2,A0 h3,A0 h4,A0 h5,A0 h6,A0 h7,A8,E9T,E9U,F1c s k (codesT.zip lensT) rfl,E9V]
    · simp only [A1 h2,A3]
  · simp only [A1 h1,A3]
def B0b(s:X0):List Int:=
  if (hst s s.size).2.1>0 then (hst s s.size).2.2 ++ [u8.wrap (bOr .i64 (i64.wrap ((hst s s.size).1*2 ^ (min (u64.wrap (i64.wrap (8-(hst s s.size).2.1))).toNat i64.bits))) (i64.wrap ((i64.wrap (1*2 ^ (min (u64.wrap (i64.wrap (8-(hst s s.size).2.1))).toNat i64.bits)))-1)))] else (hst s s.size).2.2
theorem E0m(s:X0)(a:List Int)(ha:a.length<=1000000000000)(hs:s.size<=1000000000) :
    (A5 (G1 (A4f s (lensT,()) (codesT,())) (0,0,0,a,())) fun (m2:Int×Int×List Int×Unit)=>bif (decide (m2.2.1>0)) then bif decide ((u64.wrap (i64.wrap (8-m2.2.1)))<0) then none else bif decide ((u64.wrap (i64.wrap (8-m2.2.1)))<0) then none else bif decide (m2.2.2.1.length+([(u8.wrap (bOr .i64 (i64.wrap (m2.1*2 ^ (min (u64.wrap (i64.wrap (8-m2.2.1))).toNat i64.bits))) (i64.wrap ((i64.wrap (1*2 ^ (min (u64.wrap (i64.wrap (8-m2.2.1))).toNat i64.bits)))-1))))]:List Int).length<=9223372036854775807) then bif decide ((m2.2.2.1.length+([(u8.wrap (bOr .i64 (i64.wrap (m2.1*2 ^ (min (u64.wrap (i64.wrap (8-m2.2.1))).toNat i64.bits))) (i64.wrap ((i64.wrap (1*2 ^ (min (u64.wrap (i64.wrap (8-m2.2.1))).toNat i64.bits)))-1))))]:List Int).length)*1<=140737488355328) then some ((m2.2.2.1 ++ [(u8.wrap (bOr .i64 (i64.wrap (m2.1*2 ^ (min (u64.wrap (i64.wrap (8-m2.2.1))).toNat i64.bits))) (i64.wrap ((i64.wrap (1*2 ^ (min (u64.wrap (i64.wrap (8-m2.2.1))).toNat i64.bits)))-1))))]),()) else none else none else some (m2.2.2.1,()))=some (a++B0b s,()):=by
  have h1:G1 (A4f s (lensT,()) (codesT,())) (0,0,0,a,())=some ((hst s s.size).1,(hst s s.size).2.1,a++(hst s s.size).2.2,()):=by
    have:=O3 (A4f s (lensT,()) (codesT,())) (fun k=>((hst s k).1,(hst s k).2.1,(k:Int),a++(hst s k).2.2,())) s.size ((hst s s.size).1,(hst s s.size).2.1,a++(hst s s.size).2.2,()) (fun k hk=>E6g s a ha hs k hk) (by
      have h:¬ ((s.size:Nat):Int)<(s.size:Int):=by omega
      simp only [A4f,A1 h,A3])
    simpa [hst] using this
  have h8:=E5G s s.size (by omega);rw [h1];simp only [A5,A1 (u64_nonneg _),A3];by_cases h:(hst s s.size).2.1>0
  · rw [A0 h,A8,gA (by simp;omega),B0b,A7 h]
    simp
  · rw [A1 h,A3,B0b,A4 h]
theorem E6h(s:X0)(hs:s.size<=1000000000):C8S s=some (B0b s,()):=by
  have:=E0m s [] (by simp) hs;simp only [F6] at this;simp only [C8S,D48,C47,C8c,A5];exact this
theorem E6i(s:X0)(a:List Int)(ha:a.length<=1000000000000)(hs:s.size<=1000000000):C8I (codesT.zip lensT) a s=some (a++B0b s,()):=by
  simp only [C8I,D3r];rw [show C16 s (codesT.zip lensT)=A4f s (lensT,()) (codesT,()) from funext fun l=>E33 s l];exact E0m s a ha hs
theorem E9W:∀ (k:Nat) (v n:Int),Byt (dr k v n).2.2
  | 0,v,n=>fun x hx=>by simp [dr] at hx
  | k+1,v,n=>by
    by_cases h:n>=8
    · have ih:=E9W k (Q4 .i64 v (i64.wrap ((i64.wrap (1*2 ^ (min (u64.wrap (n-8)).toNat i64.bits)))-1))) (n-8)
      simp only [dr,A7 h];intro x hx;rcases C2.1 hx with rfl | hx
      · exact wrap_u8 _
      · exact ih x hx
    · simp only [dr,A4 h]
      exact fun x hx=>by cases hx
theorem D8n(s:X0):∀ k,Byt (hst s k).2.2
  | 0=>fun x hx=>by simp [hst] at hx
  | k+1=>A1D (D8n s k) (E9W _ _ _)
theorem E6j(s:X0):Byt (B0b s):=by
  unfold B0b;split
  · exact A1D (D8n s _) fun x hx=>by rcases B0.1 hx with rfl;exact wrap_u8 _
  · exact D8n s _
def D61(s:X0):List Int:=if (B0b s).length<s.size then pfx 127 128 ((B0b s).length:Int)++B0b s else pfx 127 0 (s.size:Int)++bytesOf s
theorem E0n(s:X0):(D61 s).length<=s.size+5:=by
  unfold D61;split
  · have:=C5I 127 128 ((B0b s).length:Int);simp only [A6];omega
  · have:=C5I 127 0 (s.size:Int);simp only [A6,bytesOf_length];omega
theorem D4H(s:X0):Byt (D61 s):=by
  unfold D61;split
  · exact A1D (D2l _ _ _) (E6j s)
  · exact A1D (D2l _ _ _) (E0U s)
set_option maxRecDepth 100000
def fstS:X0:=⟨#[58,97,117,116,104,111,114,105,116,121,124,58,109,101,116,104,111,100,61,71,69,84,124,58,109,101,116,104,111,100,61,80,79,83,84,124,58,112,97,116,104,61,47,124,58,112,97,116,104,61,47,105,110,100,101,120,46,104,116,109,108,124,58,115,99,104,101,109,101,61,104,116,116,112,124,58,115,99,104,101,109,101,61,104,116,116,112,115,124,58,115,116,97,116,117,115,61,50,48,48,124,58,115,116,97,116,117,115,61,50,48,52,124,58,115,116,97,116,117,115,61,50,48,54,124,58,115,116,97,116,117,115,61,51,48,52,124,58,115,116,97,116,117,115,61,52,48,48,124,58,115,116,97,116,117,115,61,52,48,52,124,58,115,116,97,116,117,115,61,53,48,48,124,97,99,99,101,112,116,45,99,104,97,114,115,101,116,124,97,99,99,101,112,116,45,101,110,99,111,100,105,110,103,61,103,122,105,112,44,32,100,101,102,108,97,116,101,124,97,99,99,101,112,116,45,108,97,110,103,117,97,103,101,124,97,99,99,101,112,116,45,114,97,110,103,101,115,124,97,99,99,101,112,116,124,97,99,99,101,115,115,45,99,111,110,116,114,111,108,45,97,108,108,111,119,45,111,114,105,103,105,110,124,97,103,101,124,97,108,108,111,119,124,97,117,116,104,111,114,105,122,97,116,105,111,110,124,99,97,99,104,101,45,99,111,110,116,114,111,108,124,99,111,110,116,101,110,116,45,100,105,115,112,111,115,105,116,105,111,110,124,99,111,110,116,101,110,116,45,101,110,99,111,100,105,110,103,124,99,111,110,116,101,110,116,45,108,97,110,103,117,97,103,101,124,99,111,110,116,101,110,116,45,108,101,110,103,116,104,124,99,111,110,116,101,110,116,45,108,111,99,97,116,105,111,110,124,99,111,110,116,101,110,116,45,114,97,110,103,101,124,99,111,110,116,101,110,116,45,116,121,112,101,124,99,111,111,107,105,101,124,100,97,116,101,124,101,116,97,103,124,101,120,112,101,99,116,124,101,120,112,105,114,101,115,124,102,114,111,109,124,104,111,115,116,124,105,102,45,109,97,116,99,104,124,105,102,45,109,111,100,105,102,105,101,100,45,115,105,110,99,101,124,105,102,45,110,111,110,101,45,109,97,116,99,104,124,105,102,45,114,97,110,103,101,124,105,102,45,117,110,109,111,100,105,102,105,101,100,45,115,105,110,99,101,124,108,97,115,116,45,109,111,100,105,102,105,101,100,124,108,105,110,107,124,108,111,99,97,116,105,111,110,124,109,97,120,45,102,111,114,119,97,114,100,115,124,112,114,111,120,121,45,97,117,116,104,101,110,116,105,99,97,116,101,124,112,114,111,120,121,45,97,117,116,104,111,114,105,122,97,116,105,111,110,124,114,97,110,103,101,124,114,101,102,101,114,101,114,124,114,101,102,114,101,115,104,124,114,101,116,114,121,45,97,102,116,101,114,124,115,101,114,118,101,114,124,115,101,116,45,99,111,111,107,105,101,124,115,116,114,105,99,116,45,116,114,97,110,115,112,111,114,116,45,115,101,99,117,114,105,116,121,124,116,114,97,110,115,102,101,114,45,101,110,99,111,100,105,110,103,124,117,115,101,114,45,97,103,101,110,116,124,118,97,114,121,124,118,105,97,124,119,119,119,45,97,117,116,104,101,110,116,105,99,97,116,101]⟩
noncomputable def firstT:List B2:=match B4l with
  | some (x,_)=>x
  | none=> []
theorem C8d:B4l=some (firstT,()):=rfl
theorem B74:firstT.length=61:=rfl
theorem E6k:(firstT.all fun f=>Nat.ble (f.1.size+f.2.size) 100)=true:=by kernel_rfl
def fstP:List (List UInt8):=Lib.splitK [124] 0 (Lib.count fstS.data.toList [124]) fstS.data.toList
theorem E9a:(fstP.map fun x=>((Lib.cut x [61]).1,(Lib.cut x [61]).2.1))=firstT.map fun f=>(f.1.data.toList,f.2.data.toList):=by kernel_rfl
theorem F1d:(fstP.all fun x=>Nat.ble x.length 100)=true:=by kernel_rfl
theorem E34:(Lib.splitB ⟨#[124]⟩ 0 (Lib.countB fstS ⟨#[124]⟩) fstS).map (·.data.toList)=fstP:=by
  rw [Lib.splitB_data];rfl
theorem F1e:fstS.size<4294967281:=by
  have:Nat.ble (fstS.size+1) 4294967281=true:=by kernel_rfl
  exact D8 this
theorem A5G{α β:Type}{f:α->Option (α⊕β)}{x y:α}(h:f x=some (.inl y)):G1 f x=G1 f y:=by rw [H5,h]
theorem F2C{l:List UInt8}{b:X0}(h:l=b.data.toList):(⟨l.toArray⟩:X0)=b:=by
  subst h;simp
theorem E6l(s:X0)(P:List (List UInt8))(F:List B2)(hs:s.size<4294967281)(h0:(Lib.splitB ⟨#[124]⟩ 0 (Lib.countB s ⟨#[124]⟩) s).map (·.data.toList)=P)
    (hP:(P.map fun x=>((Lib.cut x [61]).1,(Lib.cut x [61]).2.1))=F.map fun f=>(f.1.data.toList,f.2.data.toList)) (hz:(P.all fun x=>Nat.ble x.length 100)=true) :
    ∃ c:List X0,B3e s ⟨#[124]⟩=some (c,())/\c.length=F.length/\∀ k (h:k<c.length) (h2:k<F.length),∃ b,D2t c[k] ⟨#[61]⟩=some (F[k].1,F[k].2,b,()):=by
  have h1:(decide (s.size<4294967281)&&decide (1<=(⟨#[124]⟩:X0).size))=true:=by
    rw [A0 hs];rfl
  refine ⟨_,by simp only [B3e,h1,A8];rfl,?_,fun k hk hk3=>?_⟩
  · have:=N6 List.length h0
    rw [T5] at this;rw [this];have h2:=N6 List.length hP;rw [T5,T5] at h2;exact h2
  · generalize hc:Lib.splitB ⟨#[124]⟩ 0 (Lib.countB s ⟨#[124]⟩) s=c at *
    have e:=h0;have hk2:k<P.length:=by rw [<- e,T5];exact hk
    have e1:(c[k]).data.toList=P[k]:=by
      have:(c.map (·.data.toList))[k]? = P[k]?:=by rw [e]
      rw [N0,C5 hk,C5 hk2] at this;simpa using this
    have e2:((Lib.cut P[k] [61]).1,(Lib.cut P[k] [61]).2.1)=(F[k].1.data.toList,F[k].2.data.toList):=by
      have:(P.map fun x=>((Lib.cut x [61]).1,(Lib.cut x [61]).2.1))[k]? = (F.map fun f=>(f.1.data.toList,f.2.data.toList))[k]?:=by rw [hP]
      rw [N0,C5 hk2,N0,C5 hk3] at this;simpa only [N9,G0] using this
    have e3:(c[k]).size<=100:=by
      have h4:=C6.1 hz P[k] (F2 hk2);have h5:=D8 h4;rw [<- e1] at h5;exact h5
    refine ⟨(Lib.cut P[k] [61]).2.2,?_⟩;have e4:(c[k]).size<4294967281:=by omega
    have e5:(⟨#[61]⟩:X0).data.toList = [61]:=rfl;simp only [D2t,A0 e4,A8,e1,e5];rw [F2C (N6 Prod.fst e2),F2C (N6 Prod.snd e2)]
theorem D05:A9U=some (firstT,()):=by
  obtain ⟨c,hc,hcl,hca⟩:=E6l fstS fstP firstT F1e E34 E9a F1d;have e0:A9U=A5 (B3e fstS ⟨#[124]⟩) fun c7=>G1 (A47 D2t c7) (0,[],()):=rfl
  rw [e0,hc];simp only [A5];have hF:=B74;generalize firstT=F at *
  refine (O3 (A47 D2t (c,())) (fun k=>((k:Int),F.take k,())) 61 (F,()) (fun k hk=>?_) ?_)
  · have h1:(k:Int)<(c.length:Int):=by omega
    have h2:(0:Int)<=(k:Int):=by omega
    obtain ⟨b,hb⟩:=hca k (by omega) (by omega);have h6:rd .str c (k:Int)=c[k]'(by omega):=A6d (k:=.str) (by omega);simp only [A47,A0 h1,A0 h2,A8,h6,hb,A5];rw [E32 (by simp;omega),w64 (by omega) (by omega)];have e7:F.take (k+1)=F.take k ++ [(F[k]'(by omega))]:=by
      rw [H6 (by omega)]
    rw [e7];rfl
  · have h1:¬ ((61:Nat):Int)<(c.length:Int):=by omega
    simp only [A47,A1 h1,A3];rw [F9 (by omega)]
def D06(all:List B2)(f:B2):Nat->Int
  | 0=>0
  | k+1=>if D06 all f k=0 then (if ((rd C1 all (k:Int)).1.toList == f.1.toList) then (k:Int)+1 else 0) else D06 all f k
theorem E0o(all:List B2)(f:B2):∀ k:Nat,0<=D06 all f k/\D06 all f k<=k
  | 0=>⟨C4o _,C4o _⟩
  | k+1=>by
    have:=E0o all f k;simp only [D06];split
    · split<;>omega
    · omega
def exa(all:List B2)(f:B2)(k:Nat):Bool:=!eqB [(rd C1 all (k:Int)).1,(rd C1 all (k:Int)).2] [f.1,f.2]
def fnd(all:List B2)(f:B2)(k:Nat):(Int×Unit)⊕(Int×Bool×Unit):=if k<all.length then .inr ((k:Int)+1,true,()) else .inl (D06 all f all.length,())
def C8e(all:List B2)(f:B2):Int×Bool:=
  if A0K (exa all f) 0 all.length<all.length then ((A0K (exa all f) 0 all.length:Int)+1,true) else (D06 all f all.length,false)
theorem E6m(all:List B2)(f:B2):0<=(C8e all f).1/\(C8e all f).1<=all.length:=by
  unfold C8e;split
  · exact ⟨by simp only [];omega,by simp only [];omega⟩
  · exact E0o all f all.length
theorem F1f(all:List B2)(f:B2):(H8 (some (fnd all f (A0K (exa all f) 0 all.length))) fun (m1:Int×Unit)=>some (m1.1,false,()))=some ((C8e all f).1,(C8e all f).2,()):=by
  unfold C8e fnd;by_cases h:A0K (exa all f) 0 all.length<all.length
  · simp only [A7 h,H8]
  · simp only [A4 h,H8]
theorem F1g{F T:List B2}{k:Nat}(h:k<F.length):rd C1 (F++T) (k:Int)=rd C1 F (k:Int):=by
  unfold rd;simp only [E5,D5];rw [F4 h]
theorem F1h{F T:List B2}{k:Nat}{i:Int}(h:F.length<=k)(hi:i=(k:Int)-F.length):rd C1 (F++T) (k:Int)=rd C1 T i:=by
  subst hi;unfold rd;rw [show ((k:Int)-F.length).toNat=k-F.length by omega];simp only [E5,D5];rw [F5 h]
theorem E0p(t:D3)(F:List B2)(hF:F.length=61)(f:B2)(hl:t.2.length<=900000000)(k:Nat)(hk:k<(F++t.2).length) :
    A65 t (F,()) f (D06 (F++t.2) f k,(k:Int)+1,())=if exa (F++t.2) f k then some (.inl (D06 (F++t.2) f (k+1),((k+1:Nat):Int)+1,())) else some (.inr (fnd (F++t.2) f k)):=by
  have hk':=hk;rw [A6,hF] at hk';have h0:i64.wrap (61+(t.2.length:Int))=61+t.2.length:=w64 (by omega) (by omega);have h1:(k:Int)+1<=61+t.2.length:=by omega
  have hm:(bif (decide ((k:Int)+1<=61)) then bif decide (0<=(i64.wrap ((k:Int)+1-1))) then bif decide ((i64.wrap ((k:Int)+1-1))<(F.length:Int)) then some ((rd C1 F (i64.wrap ((k:Int)+1-1))).1,(rd C1 F (i64.wrap ((k:Int)+1-1))).2,()) else none else none else bif decide (0<=(i64.wrap ((k:Int)+1-62))) then bif decide ((i64.wrap ((k:Int)+1-62))<(t.2.length:Int)) then some ((rd C1 t.2 (i64.wrap ((k:Int)+1-62))).1,(rd C1 t.2 (i64.wrap ((k:Int)+1-62))).2,()) else none else none)
      = some ((rd C1 (F++t.2) (k:Int)).1,(rd C1 (F++t.2) (k:Int)).2,()):=by
    by_cases h2:(k:Int)+1<=61
    · have e1:i64.wrap ((k:Int)+1-1)=(k:Int):=by rw [w64 (by omega) (by omega)];omega
      rw [A0 h2,A8,e1,A0 (by omega),A0 (by omega),F1g (by omega)];rfl
    · have e1:i64.wrap ((k:Int)+1-62)=(k:Int)-61:=by rw [w64 (by omega) (by omega)];omega
      rw [A1 h2,A3,e1,A0 (by omega),A0 (by omega),F1h (T:=t.2) (i:=(k:Int)-61) (by omega) (by omega)];rfl
  simp only [A65,h0,A0 h1,A8];rw [hm];simp only [A5];rw [w64 (by omega) (by omega)];unfold exa fnd;cases eqB [(rd C1 (F++t.2) (k:Int)).1,(rd C1 (F++t.2) (k:Int)).2] [f.1,f.2] with
  | true=>simp only [A8,C3,A7 hk];rfl
  | false=>
    simp only [A3,J3,L4,D06];by_cases hb:D06 (F++t.2) f k=0
    · simp only [hb,R8,A8,L4]
      cases ((rd C1 (F++t.2) (k:Int)).1.toList == f.1.toList)<;>simp
    · simp only [A1 hb,A3,A4 hb]
      rfl
theorem D4I(t:D3)(f:B2)(h:t.2.length<=900000000):B49 t f=some ((C8e (firstT++t.2) f).1,(C8e (firstT++t.2) f).2,()):=by
  have hF:=B74;simp only [B49,B94,C8d,A5];generalize firstT=F at *
  have:=C45 (A65 t (F,()) f) (fun k=>(D06 (F++t.2) f k,(k:Int)+1,())) (F++t.2).length (fnd (F++t.2) f) (exa (F++t.2) f) (fun k hk=>E0p t F hF f h k hk) (by
    have h0:i64.wrap (61+(t.2.length:Int))=61+t.2.length:=w64 (by omega) (by omega);have h1:¬ (((F++t.2).length:Nat):Int)+1<=61+t.2.length:=by rw [A6];omega
    have h2:¬ (F++t.2).length<(F++t.2).length:=by omega
    simp only [A65,h0,A1 h1,A3,fnd,A4 h2])
  rw [show ((0:Int),(1:Int),())=(fun k:Nat=>(D06 (F++t.2) f k,(k:Int)+1,())) 0 from rfl,this];exact F1f (F++t.2) f
set_option maxRecDepth 100000
def ofF(f:B2):Int:=(f.1.size:Int)+f.2.size+32
def szT:List B2->Int
  | []=>0
  | f::fs=>ofF f+szT fs
theorem C1p(f:B2):32<=ofF f:=by unfold ofF;omega
theorem A35:∀ fs:List B2,32*(fs.length:Int)<=szT fs
  | []=>by simp [szT]
  | f::fs=>by
    have:=A35 fs;have:=C1p f;simp only [szT,F0];omega
theorem D2n:∀ a b:List B2,szT (a++b)=szT a+szT b
  | [],b=>by simp [szT]
  | f::a,b=>by simp only [E4,szT,D2n a b];omega
theorem D4J(fs:List B2)(i:Nat):szT (fs.take i)<=szT fs:=by
  have h:=D2n (fs.take i) (fs.drop i);rw [M0] at h;have:=A35 (fs.drop i);omega
theorem E0q(fs:List B2){i j:Nat}(h:i<=j):szT (fs.take i)<=szT (fs.take j):=by
  have:=D4J (fs.take j) i;rw [T4,A0h h] at this;exact this
theorem D4K(fs:List B2){i:Nat}(h:i<fs.length):szT (fs.take (i+1))=szT (fs.take i)+ofF fs[i]:=by
  rw [H6 h,D2n];simp [szT]
theorem E5H(f:B2)(h:ofF f<=10000000000000):B6o f=some (ofF f,()):=by
  unfold ofF at *
  simp only [B6o,C8O];rw [w64 (n:=(f.1.size:Int)+f.2.size) (by omega) (by omega),w64 (by omega) (by omega)]
theorem D1c(f:B2)(h:ofF f<=10000000000000):B2V f=some (ofF f,()):=E5H f h
theorem C1q(m:Int)(fs:List B2)(h:szT fs<=10000000000000):A7D (m,fs)=some (szT fs,()):=by
  have hl:=A35 fs;simp only [A7D,C6r];refine O3 (A7t B6o (m,fs)) (fun i=>(szT (fs.take i),(i:Int),())) fs.length _ (fun i hi=>?_) ?_
  · have h1:(i:Int)<(fs.length:Int):=by omega
    have h2:(0:Int)<=(i:Int):=by omega
    have h3:=D4K fs hi;have h4:=D4J fs (i+1);have h5:=A35 (fs.take i);have h6:rd C1 fs (i:Int)=fs[i]:=A6d (k:=C1) hi;have h7:=C1p fs[i];simp only [A7t,A0 h1,A0 h2,A8,h6];rw [E5H _ (by omega)];simp only [A5];rw [w64 (n:=szT (fs.take i)+ofF fs[i]) (by omega) (by omega),w64 (by omega) (by omega),h3];rfl
  · have h1:¬ ((fs.length:Nat):Int)<(fs.length:Int):=by omega
    simp only [A7t,A1 h1,A3];rw [F9 (by omega)]
theorem E0r(xs:List B2)(h:xs.length<=1000000000):L0 xs=some (xs,()):=by
  simp only [L0,A0J];rw [E32 (by simp;omega)];by_cases h0:0<xs.length
  · rw [A0 h0,A8];rfl
  · rw [A1 h0,A3]
    have:xs = []:=O5.1 (by omega);subst this;simp [eqO]
theorem B0c(t:D3)(h:t.2.length<=1000000000):A4b t=some (t,()):=by
  simp only [A4b,C6t];rw [E32 (by simp;omega)];rfl
theorem B5w(t:D3)(h:t.2.length<=1000000000):A6F t=some (t,()):=by
  simp only [A6F,B8i,E0r t.2 h,A5]
theorem E9b(m:Int)(fs:List B2)(hm:0<=m)(hm2:m<=1000000)(hs:szT fs<=1000000000) :
    ∃ k,k<=fs.length/\(k<fs.length->decide (0<=m-szT (fs.take (k+1)))=false)/\A29 (m,fs)=some ((m,fs.take k),())/\szT (fs.take k)<=m:=by
  have hl:=A35 fs;obtain ⟨k,hk,ht,hf,he⟩:=A4h (A7g B2V L0 (m,fs)) (fun i=>(m-szT (fs.take i),(i:Int),())) fs.length (fun i=>((m,fs.take i),())) (fun i=>decide (0<=m-szT (fs.take (i+1)))) (fun i hi=>by
    have h1:(i:Int)<(fs.length:Int):=by omega
    have h2:(0:Int)<=(i:Int):=by omega
    have h22:(i:Int)<=(fs.length:Int):=by omega
    have h3:=D4K fs hi;have h4:=D4J fs (i+1);have h5:=A35 (fs.take i);have h6:rd C1 fs (i:Int)=fs[i]:=A6d (k:=C1) hi;have h7:=C1p fs[i];have h8:=A35 (fs.take (i+1));simp only [A7g,A0 h1,A0 h2,A0 h22,A8,h6,P6,E5];rw [D1c _ (by omega),E0r _ (by simp;omega)];simp only [A5];rw [w64 (n:=m-szT (fs.take i)-ofF fs[i]) (by omega) (by omega),w64 (n:=(i:Int)+1) (by omega) (by omega)];by_cases hq:0<=m-szT (fs.take (i+1))
    · rw [A1 (by omega),A3,A0 hq,A7 rfl,h3]
      rw [show m-szT (fs.take i)-ofF fs[i]=m-(szT (fs.take i)+ofF fs[i]) by omega];rfl
    · rw [A0 (by omega),A8,A1 hq]
      rfl) (by
    have h1:¬ ((fs.length:Nat):Int)<(fs.length:Int):=by omega
    simp only [A7g,A1 h1,A3];rw [F9 (by omega)])
  have hkm:szT (fs.take k)<=m:=by
    cases k with
    | zero=>simp [szT];omega
    | succ k=>have:=B7 (ht k (by omega));omega
  refine ⟨k,hk,hf,?_,hkm⟩;simp only [A29,B6j];have e0:(m,(0:Int),())=(fun i:Nat=>(m-szT (fs.take i),(i:Int),())) 0:=by simp [szT]
  rw [e0];exact he
theorem E9c(m:Int)(fs:List B2)(hm:0<=m)(hm2:m<=1000000)(hs:szT fs<=1000000000) :
    ∃ k,A29 (m,fs)=some ((m,fs.take k),())/\A63 (m,fs)=some ((m,fs.take k),())/\szT (fs.take k)<=m:=by
  have hl:=A35 fs;obtain ⟨k,hk,hf,hi,hkm⟩:=E9b m fs hm hm2 hs;refine ⟨k,hi,?_,hkm⟩
  · simp only [A63,B5C]
    refine E6W (B1J A7D) (fun x=>x.2.1.length) (fun x=>x.1=m/\∃ j,k<=j/\j<=fs.length/\x.2.1=fs.take j) _ (fun x hx=>?_) (m,fs,()) ⟨rfl,fs.length,hk,B6 _,by rw [F9 (by omega)]⟩;obtain ⟨a,b,u⟩:=x;obtain ⟨e1,j,hj1,hj2,e2⟩:=hx;simp only at e1 e2;subst e1 e2;have h4:=D4J fs j;have hjl:(fs.take j).length=j:=by rw [B5];omega
    simp only [B1J];rw [C1q _ _ (by omega)];simp only [A5];by_cases hq:szT (fs.take j)>a
    · left
      have hjk:k<j:=by
        rcases C2p k j with h | h
        · exact h
        · have:=E0q fs h;omega
      have e3:i64.wrap (((fs.take j).length:Int)-1)=((j-1:Nat):Int):=by rw [w64 (by omega) (by omega)];omega
      rw [A0 hq,A8,e3,A0 (by omega),A0 (by omega)];refine ⟨(a,fs.take (j-1),()),?_,⟨rfl,j-1,by omega,by omega,rfl⟩,by simp only [B5];omega⟩;simp only [A8,E5,P6,T4];rw [A0h (by omega)]
    · right
      rw [A1 hq,A3];have hjk:j=k:=by
        rcases C2p k j with h | h
        · have h5:=C7k (hf (by omega))
          have:=E0q fs (i:=k+1) (j:=j) (by omega);omega
        · omega
      rw [hjk]
theorem F3K(t:D3)(f:B2)(hm:0<=t.1)(hm2:t.1<=1000000)(hs:szT t.2+ofF f<=1000000000) :
    ∃ T,A3L t f=some ((t.1,T),())/\szT T<=t.1:=by
  obtain ⟨m,fs⟩:=t;have hl:=A35 fs;have hf:=C1p f;simp only at hm hm2 hs;obtain ⟨k,_,_,h1,h3⟩:=E9b m (f::fs) hm hm2 (by simp only [szT];omega);refine ⟨(f::fs).take k,?_,h3⟩;have e:C8C fs 0 [f]=some (f::fs,()):=by
    simp only [C8C];rw [A0 (by omega),A0 (by omega),A0 (by simp),A0 (by simp;omega)];rfl
  simp only [A3L,B3m,show Q2=C8C from rfl,e,A5,h1]
theorem E35(t:D3)(f:B2)(hm:0<=t.1)(hm2:t.1<=1000000)(hs:szT t.2+ofF f<=1000000000) :
    ∃ T,A3L t f=some ((t.1,T),())/\A2d t f=some ((t.1,T),())/\szT T<=t.1:=by
  obtain ⟨m,fs⟩:=t;have hl:=A35 fs;have hf:=C1p f;simp only at hm hm2 hs;obtain ⟨k,h1,h2,h3⟩:=E9c m (f::fs) hm hm2 (by simp only [szT];omega);refine ⟨(f::fs).take k,?_,?_,h3⟩
  · have e:C8C fs 0 [f]=some (f::fs,()):=by
      simp only [C8C];rw [A0 (by omega),A0 (by omega),A0 (by simp),A0 (by simp;omega)];rfl
    simp only [A3L,B3m,show Q2=C8C from rfl,e,A5,h1]
  · simp only [A2d,B5D]
    rw [E32 (by simp;omega)];simp only [C3I,E4,F6,h2,A5]
def A07(t:D3):Prop:=0<=t.1/\t.1<=4096/\szT t.2<=t.1
theorem A6t{t:D3}(h:A07 t):t.2.length<=128:=by
  have:=A35 t.2;obtain ⟨h0,h1,h2⟩:=h;omega
theorem F2u{t:D3}(h:A07 t):A0N t=some (true,()):=by
  obtain ⟨h0,h1,h2⟩:=h;obtain ⟨m,fs⟩:=t;simp only at h0 h1 h2;simp only [A0N,B4j,V6,A5,C1q m fs (by omega)];rw [A0 ⟨h0,h1⟩,A0 h2];rfl
theorem E36{t:D3}(hs:szT t.2<=10000000000000)(h:A0N t=some (true,())):A07 t:=by
  obtain ⟨m,fs⟩:=t;simp only at hs;simp only [A0N,B4j,V6,A5,C1q m fs hs] at h;by_cases h1:0<=m/\m<=4096
  · rw [A0 h1,A8] at h
    simp only [G0,A6W,H3,and_true] at h;exact ⟨h1.1,h1.2,h⟩
  · rw [A1 h1,A3] at h
    simp at h
theorem bO{A B:Type}(x:A)(f:A->Option B):A5 (some x) f=f x:=rfl
theorem bSl{A B:Type}(x:A)(f:A->Option B):H8 (some (Sum.inl x)) f=f x:=rfl
theorem bSr{A B:Type}(y:B)(f:A->Option B):H8 (some (Sum.inr y)) f=some y:=rfl
set_option maxRecDepth 100000
def itB(n:Int):X0:=⟨(Lib.itoa n).toArray⟩
theorem D07{n:Int}(h0:0<=n)(h1:n<10):itB n=strOf [u8.wrap (i64.wrap (48+n))]:=by
  have h2:u8.wrap (48+n)=48+n:=by
    simp only [IntKind.wrap,IntKind.bits,IntKind.signed,A5O];simp;omega
  rw [w64 (by omega) (by omega),h2];unfold itB strOf strOfNums Lib.itoa;rw [A4 (by omega),Lib.decDigits_one (by omega)];simp only [I1,B6G];rw [show (48+n).toNat=48+n.toNat by omega]
theorem D8o{n:Int}(h1:¬ n<10):itB n=itB (n / 10)++strOf [u8.wrap (i64.wrap (48+n % 10))]:=by
  have h2:u8.wrap (48+n % 10)=48+n % 10:=by
    simp only [IntKind.wrap,IntKind.bits,IntKind.signed,A5O];simp;omega
  rw [w64 (by omega) (by omega),h2];apply ByteArray.ext;rw [C3J];unfold itB strOf strOfNums Lib.itoa;rw [A4 (by omega),A4 (by omega),Lib.decDigits,dif_neg (by omega)];simp only [I1,B6G];rw [show (48+n % 10).toNat=48+n.toNat % 10 by omega,show (n / 10).toNat=n.toNat / 10 by omega];simp
theorem C48(x:Int):(strOf [x]).size=1:=by rw [B72];rfl
theorem A9K(f:Int->Option (X0×Unit))(N:Int)(s:Nat)(hs:s<=1000)(hN:N<=1000000000000)(hf:∀ n,1<=n->n<N->f n=some (itB n,())/\(itB n).size<=s)(n:Int)(h0:0<=n)(h1:n<10*N) :
    A5B f n=some (itB n,())/\(itB n).size<=s+1:=by
  by_cases h:n<10
  · refine ⟨?_,?_⟩
    · simp only [A5B,A0 h,A8]
      rw [<- D07 h0 h]
    · rw [D07 h0 h,C48];omega
  · obtain ⟨e,hl⟩:=hf (n / 10) (by omega) (by omega)
    have e1:n.tdiv 10=n / 10:=B7P h0;have e2:n.tmod 10=n % 10:=A1Q h0;refine ⟨?_,by rw [D8o h,B2L,C48];omega⟩;simp only [A5B,A1 h,A3,e1,e2];rw [w64 (n:=n / 10) (by omega) (by omega),e];simp only [A5,C48];rw [A1 (by simp only [IntKind.max,IntKind.signed,IntKind.bits];simp;omega),A3,<- D8o h]
theorem F1i(n:Int)(h0:0<=n)(h1:n<=4294967295):C74 n=some (itB n,())/\(itB n).size<=10:=by
  have a1:=A9K B6f 1 0 (by omega) (by omega) (fun n h h'=>by omega);have a2:=A9K B2r 10 1 (by omega) (by omega) (fun n h h'=>a1 n (by omega) (by omega));have a3:=A9K B2s 100 2 (by omega) (by omega) (fun n h h'=>a2 n (by omega) (by omega));have a4:=A9K B2t 1000 3 (by omega) (by omega) (fun n h h'=>a3 n (by omega) (by omega));have a5:=A9K B2u 10000 4 (by omega) (by omega) (fun n h h'=>a4 n (by omega) (by omega));have a6:=A9K B2v 100000 5 (by omega) (by omega) (fun n h h'=>a5 n (by omega) (by omega));have a7:=A9K B2w 1000000 6 (by omega) (by omega) (fun n h h'=>a6 n (by omega) (by omega));have a8:=A9K B30 10000000 7 (by omega) (by omega) (fun n h h'=>a7 n (by omega) (by omega));have a9:=A9K B31 100000000 8 (by omega) (by omega) (fun n h h'=>a8 n (by omega) (by omega));have a10:=A9K B32 1000000000 9 (by omega) (by omega) (fun n h h'=>a9 n (by omega) (by omega));exact a10 n h0 (by omega)
theorem F1j(n:Int)(h0:0<=n)(h1:n<=4294967295):B0s n=some (itB n,()):=by
  have e:(decide (-9223372036854775808<=n)&&decide (n<=9223372036854775807))=true:=by
    rw [A0 (by omega),A0 (by omega)];rfl
  rw [show B0s n=D2u n from rfl];simp only [D2u,e,A8];rfl
theorem E0s{r:B8h}(h:D01 r=true):(1<=r.1/\r.1<=6)/\r.2.1.size<=8/\0<=r.2.2/\r.2.2<=4294967295:=by
  simp only [D01,idB,B4,H3] at h;refine ⟨h.1.1,by omega,h.2.1,?_⟩;have:=h.2.2;unfold D8i at this;split at this
  · omega
  · split at this
    · omega
    · split at this<;>omega
set_option maxRecDepth 100000
def czN(a:Int):Nat:=if a<1 then 1 else if a>1000 then 1000 else a.toNat
theorem E5I(a:Int):1<=czN a/\czN a<=1000:=by
  unfold czN;split
  · omega
  · split<;>omega
theorem F3L(a:Int):(A5 (bif (decide (a<1)) then some ((1:Int),()) else some (a,())) fun (m0:Int×Unit)=>(bif (decide (m0.1>1000)) then some ((1000:Int),()) else some (m0.1,())))=some ((czN a:Int),()):=by
  unfold czN;by_cases h:a<1
  · rw [A0 h,A8,bO,A7 h];rfl
  · rw [A1 h,A3,bO,A4 h]
    by_cases h2:a>1000
    · rw [A0 h2,A8,A7 h2];rfl
    · rw [A1 h2,A3,A4 h2]
      rw [show ((a.toNat:Nat):Int)=a by omega]
def ceN(n L:Nat):Nat:=(L+n-1) / n
theorem D4L{n L j:Nat}(hn:0<n):j<ceN n L↔j*n<L:=by
  unfold ceN;rw [Nat.lt_iff_add_one_le,C3H hn,K9];omega
theorem E9d{n L:Nat}(hn:0<n):L<=ceN n L*n:=by
  have h:¬ ceN n L<ceN n L:=A27 _;rw [D4L hn] at h;omega
theorem D8p{n L:Nat}(hn:0<n):ceN n L<=L:=by
  have h:¬ L<ceN n L:=by
    rw [D4L hn];have:=C0P L hn;omega
  omega
def frx(id fl:Int)(n:Nat)(xs:List Int)(j:Nat):E2:=(if j=0 then 1 else 9,if j=0 then fl else 0,id,A54 n xs j)
def frs(id fl:Int)(n:Nat)(xs:List Int):Nat->List E2
  | 0=> []
  | j+1=>frs id fl n xs j ++ [frx id fl n xs j]
theorem D8q(id fl:Int)(n:Nat)(xs:List Int):∀ j,(frs id fl n xs j).length=j
  | 0=>rfl
  | j+1=>by simp only [frs,A6,D8q id fl n xs j,G7]
def E37(f:E2):E2:=(f.1,bOr .i64 f.2.1 4,f.2.2)
def D1d(id fl:Int)(n:Nat)(xs:List Int):List E2:=frs id fl n xs (max 1 (ceN n xs.length)-1) ++ [E37 (frx id fl n xs (max 1 (ceN n xs.length)-1))]
theorem B36(xs:List Int)(h:xs.length<=1000000000):H4 xs=some (xs,()):=by
  simp only [H4,A22];rw [gA (by simp;omega)];by_cases h0:0<xs.length
  · rw [A0 h0,A8];rfl
  · rw [A1 h0,A3]
    have:xs = []:=O5.1 (by omega);subst this;simp [eqO]
theorem C02(n:Nat)(xs:List Int)(j:Nat):(A54 n xs j).length=min (j*n+n) xs.length-j*n:=by
  simp [A54]
theorem E6n(id:Int)(a1:Bool)(xs:List Int)(a3:Int)(hid:1<=id/\id<=2147483647)(hx:xs.length<=100000000) :
    C8U id a1 xs a3=some (D1d id (if a1 then 1 else 0) (czN a3) xs,()):=by
  have hn:=E5I a3;have e0:=F3L a3;simp only [C8U,D4A,V6,A0 hid,bO,C3,A3];have e1:∀ (K:Int×Unit->Option (List E2×Unit)),(A5 (bif (decide (a3<1)) then some ((1:Int),()) else some (a3,())) fun (m0:Int×Unit)=>A5 (bif (decide (m0.1>1000)) then some ((1000:Int),()) else some (m0.1,())) K)=K ((czN a3:Int),()):=by
    intro K;rw [show K ((czN a3:Int),())=A5 (some ((czN a3:Int),())) K from rfl,<- e0];cases (bif (decide (a3<1)) then some ((1:Int),()) else some (a3,()))<;>rfl
  rw [e1];generalize czN a3=n at *
  have hn0:0<n:=by omega
  have hN1:1<=max 1 (ceN n xs.length):=Nat.le_max_left _ _;have hN2:max 1 (ceN n xs.length)<=100000000:=by have:=D8p (n:=n) (L:=xs.length) hn0;omega
  have hlt:∀ j,j<max 1 (ceN n xs.length)->j=0\/j*n<xs.length:=by
    intro j hj;rcases B0F j with h | h
    · exact Or.inl h
    · exact Or.inr ((D4L hn0).1 (by omega))
  have hlast:∀ j,j<max 1 (ceN n xs.length)->(xs.length<=j*n+n↔j=max 1 (ceN n xs.length)-1):=by
    intro j hj;have h1:=D4L (n:=n) (L:=xs.length) (j:=j+1) hn0;rw [K9] at h1;omega
  have hge:xs.length<=max 1 (ceN n xs.length)*n:=by
    have h1:=E9d (n:=n) (L:=xs.length) hn0;have h2:=H1 n (Nat.le_max_right 1 (ceN n xs.length));omega
  have hbig:∀ j,j<max 1 (ceN n xs.length)->j*n<=100000000:=by
    intro j hj;rcases hlt j hj with h | h
    · subst h;omega
    · omega
  unfold D1d;generalize max 1 (ceN n xs.length)=N at *
  have hfl:∀ (K:Int×Int×Int×Unit->Option ((Int×List E2×Unit)⊕(List E2×Unit))) (j:Nat),j*n<=100000000->(A5 (bif (decide (((j*n:Nat):Int)=0)) then bif a1 then some ((1:Int),(1:Int),id,()) else some (1,0,id,()) else some (9,0,id,())) K)=K ((if j=0 then 1 else 9),(if j=0 then (if a1 then 1 else 0) else 0),id,()):=by
    intro K j hj;rcases B0F j with h | h
    · subst h
      rw [show (((0*n:Nat):Int))=0 by simp];cases a1<;>rfl
    · have h2:0<j*n:=D1v h hn0
      rw [A1 (p:=((j*n:Nat):Int)=0) (by omega),A3,A4 (by omega),A4 (by omega)];rfl
  have hX:∀ l k f q,([(l,(k,(f,q)))]:List E2).length=1:=fun _ _ _ _=>rfl
  refine (O3 (C1l xs a1 id ((n:Int),())) (fun j=>(((j*n:Nat):Int),(if j<N then frs id (if a1 then 1 else 0) n xs j else frs id (if a1 then 1 else 0) n xs (N-1) ++ [E37 (frx id (if a1 then 1 else 0) n xs (N-1))]),())) N _ (fun j hj=>?_) ?_ |> fun h=>by
    rw [show ((0:Int),([]:List E2),())=(fun j:Nat=>(((j*n:Nat):Int),(if j<N then frs id (if a1 then 1 else 0) n xs j else frs id (if a1 then 1 else 0) n xs (N-1) ++ [E37 (frx id (if a1 then 1 else 0) n xs (N-1))]),())) 0 by
      simp only [B29,A7 (show 0<N by omega)];rfl]
    exact h)
  · have b1:=hlt j hj
    have b2:=hlast j hj;have b3:=hbig j hj;have b4:=D8q id (if a1 then 1 else 0) n xs j;have b5:j*n<=xs.length:=by
      rcases b1 with h | h
      · subst h;simp
      · omega
    have c1:(bif (decide (((j*n:Nat):Int)=0)) then some (Sum.inl ()) else bif (decide (((j*n:Nat):Int)<(xs.length:Int))) then some (Sum.inl ()) else some (Sum.inr (Sum.inr ((if j<N then frs id (if a1 then 1 else 0) n xs j else frs id (if a1 then 1 else 0) n xs (N-1) ++ [E37 (frx id (if a1 then 1 else 0) n xs (N-1))]),()))))=some (Sum.inl (β:=(Int×List E2×Unit)⊕(List E2×Unit)) ()):=by
      rcases b1 with h | h
      · subst h
        rw [show (((0*n:Nat):Int))=0 by simp];rfl
      · rw [A0 (p:=((j*n:Nat):Int)<(xs.length:Int)) (by omega)]
        cases decide (((j*n:Nat):Int)=0)<;>rfl
    simp only [C1l];rw [c1,bSl,hfl _ j b3];simp only [A7 hj];rw [w64 (n:=((j*n:Nat):Int)+(n:Int)) (by omega) (by omega)];by_cases hL:xs.length<=j*n+n
    · have hjN:j=N-1:=b2.1 hL
      have hp:(xs.take xs.length).drop (j*n)=A54 n xs j:=by
        unfold A54;rw [F9 (B6 _),F9 hL]
      have hpl:=C02 n xs j;rw [A0 (by omega),A8,bO];simp only [E5,hp];rw [A0 (by omega),A0 (by omega),A0 (by omega)];simp only [A8,F6];rw [gA (by simp only [I3];omega),F2t (by rw [b4,hX];omega)];rw [A4 (show ¬ j+1<N by omega),hjN.symm,K9];simp only [E37,frx]
      congr 4
    · have hjN:¬ j=N-1:=fun h=>hL (b2.2 h)
      have hp:(xs.take (((j*n:Nat):Int)+(n:Int)).toNat).drop (j*n)=A54 n xs j:=by
        unfold A54;rw [show (((j*n:Nat):Int)+(n:Int)).toNat=j*n+n by omega]
      have hpl:=C02 n xs j;rw [A1 (by omega),A3,bO];simp only [E5,hp];rw [A0 (by omega),A0 (by omega),A0 (by omega)];simp only [A8,F6];rw [gA (by simp only [I3];omega),F2t (by rw [b4,hX];omega)];rw [A7 (show j+1<N by omega),K9];simp only [frs,frx]
      congr 4
  · have h2:0<N*n:=D1v (by omega) hn0
    have c1:decide (((N*n:Nat):Int)=0)=false:=A1 (by omega);have c2:decide (((N*n:Nat):Int)<(xs.length:Int))=false:=A1 (by omega);simp only [C1l,c1,c2,A3,bSr,A4 (show ¬ N<N by omega)]
theorem fok(k fl id:Int)(q:List Int)(h1:0<=k/\k<=255)(h2:0<=fl/\fl<=255)(h3:0<=id/\id<=2147483647)(h4:(q.length:Int)<=1000):O0 (k,fl,id,q)=true:=by
  simp only [O0,A0 h1,A0 h2,A0 h3,A0 h4];rfl
theorem E9e(id:Int)(a1:Bool)(n:Nat)(xs:List Int)(hid:1<=id/\id<=2147483647)(hn:n<=1000)(j:Nat) :
    O0 (frx id (if a1 then 1 else 0) n xs j)=true/\O0 (E37 (frx id (if a1 then 1 else 0) n xs j))=true:=by
  have hpl:=C02 n xs j;have h1:((A54 n xs j).length:Int)<=1000:=by omega
  have h2:0<=id/\id<=2147483647:=by omega
  have b0:bOr .i64 0 4=4:=rfl;have b1:bOr .i64 1 4=5:=rfl;unfold E37 frx;rcases B0F j with h | h
  · subst h
    cases a1
    · exact ⟨fok 1 0 id _ (by omega) (by omega) h2 h1,fok 1 (bOr .i64 0 4) id _ (by omega) (by rw [b0];omega) h2 h1⟩
    · exact ⟨fok 1 1 id _ (by omega) (by omega) h2 h1,fok 1 (bOr .i64 1 4) id _ (by omega) (by rw [b1];omega) h2 h1⟩
  · simp only [A4 (show ¬ j=0 by omega)]
    exact ⟨fok 9 0 id _ (by omega) (by omega) h2 h1,fok 9 (bOr .i64 0 4) id _ (by omega) (by rw [b0];omega) h2 h1⟩
theorem E9f(id:Int)(a1:Bool)(n:Nat)(xs:List Int)(hid:1<=id/\id<=2147483647)(hn:n<=1000):∀ j,∀ f∈frs id (if a1 then 1 else 0) n xs j,O0 f=true
  | 0,f,hf=>by simp [frs] at hf
  | j+1,f,hf=>by
    simp only [frs,D0,B0] at hf;rcases hf with h | h
    · exact E9f id a1 n xs hid hn j f h
    · subst h;exact (E9e id a1 n xs hid hn j).1
theorem E9g(id:Int)(a1:Bool)(n:Nat)(xs:List Int)(hid:1<=id/\id<=2147483647)(hn:n<=1000):∀ f∈D1d id (if a1 then 1 else 0) n xs,O0 f=true:=by
  intro f hf;simp only [D1d,D0,B0] at hf;rcases hf with h | h
  · exact E9f id a1 n xs hid hn _ f h
  · subst h;exact (E9e id a1 n xs hid hn _).2
theorem E6o(id fl:Int)(n:Nat)(xs:List Int)(hn:0<n):(D1d id fl n xs).length<=xs.length+1:=by
  have:=D8p (n:=n) (L:=xs.length) hn;simp only [D1d,A6,D8q,G7];omega
def E0t(fs:List E2):Nat->List Int
  | 0=> []
  | k+1=>E0t fs k++R1 (fs.getD k (0,0,0,[]))
theorem B07(f:E2)(h:O0 f=true):(R1 f).length<=1009:=by
  simp only [O0,B4,H3] at h;simp only [R1,A6,A34,F0,I3];omega
theorem B37{f:E2}(h:Byt f.2.2.2):Byt (R1 f):=by
  unfold R1;refine A1D (A1D (A1D (D2k _ _) fun x hx=>?_) (D2k _ _)) h;simp only [C2,J9,A1P] at hx;rcases hx with rfl | rfl<;>exact wrap_u8 _
theorem D08{xs:List Int}(h:Byt xs)(n j:Nat):Byt (A54 n xs j):=B73 (C01 h _) _
theorem E5J{id fl:Int}{n:Nat}{xs:List Int}(h:Byt xs):∀ j,∀ f∈frs id fl n xs j,Byt f.2.2.2
  | 0,f,hf=>by cases hf
  | j+1,f,hf=>by
    rcases D0.1 hf with hf | hf
    · exact E5J h j f hf
    · rcases B0.1 hf with rfl;exact D08 h n j
theorem E6p{id fl:Int}{n:Nat}{xs:List Int}(h:Byt xs):∀ f∈D1d id fl n xs,Byt f.2.2.2:=fun f hf=>by
  rcases D0.1 hf with hf | hf
  · exact E5J h _ f hf
  · rcases B0.1 hf with rfl;exact D08 h n _
theorem E0u{fs:List E2}(h:∀ f∈fs,Byt f.2.2.2):∀ k,Byt (E0t fs k)
  | 0=>fun x hx=>by cases hx
  | k+1=>by
    refine A1D (E0u h k) ?_;by_cases hk:k<fs.length
    · rw [D5,C5 hk]
      exact B37 (h _ (F2 hk))
    · rw [D5,B2K (by omega)]
      exact B37 fun x hx=>by cases hx
theorem D4M(fs:List E2)(h:∀ f∈fs,O0 f=true):∀ k,k<=fs.length->(E0t fs k).length<=1009*k
  | 0,_=>by simp [E0t]
  | k+1,hk=>by
    have h1:=D4M fs h k (by omega);have h2:fs.getD k (0,0,0,[])=fs[k]:=by rw [D5,C5 (by omega)];rfl
    have h3:=B07 fs[k] (h _ (F2 (by omega)));simp only [E0t,A6,h2];omega
theorem D1e{f:E2}(h:O0 f=true):f.2.2.2.length<=1000:=by
  simp only [O0,B4,H3] at h;omega
theorem E0v(fs:List E2)(h:∀ f∈fs,O0 f=true)(hl:fs.length<=1000000000):B4C fs=some (E0t fs fs.length,()):=by
  simp only [B4C,B97];refine O3 (A9g A0C fs) (fun k=>((k:Int),E0t fs k,())) fs.length _ (fun k hk=>?_) ?_
  · have h1:(k:Int)<(fs.length:Int):=by omega
    have h2:(0:Int)<=(k:Int):=by omega
    have h3:rd A9u fs (k:Int)=fs[k]:=A6d (k:=A9u) hk;have h4:fs.getD k (0,0,0,[])=fs[k]:=by rw [D5,C5 (by omega)];rfl
    have h5:=D4M fs h k (by omega);have hk2:=h _ (F2 hk);have h6:=D1e hk2;have h7:=B07 _ hk2;simp only [A9g,A0 h1,A0 h2,A8,h3];rw [A6P _ (by omega),A7 hk2,bO,gA (by simp only [];omega),w64 (by omega) (by omega)];simp only [E0t,h4];rfl
  · have h1:¬ ((fs.length:Nat):Int)<(fs.length:Int):=by omega
    simp only [A9g,A1 h1,A3]
set_option maxRecDepth 100000
def C2w(id:Int)(n:Nat)(xs:List Int):Nat->List Int
  | 0=> []
  | j+1=>C2w id n xs j++R1 (0,(if xs.length<=j*n+n then 1 else 0),id,A54 n xs j)
theorem E5K(id:Int)(n:Nat)(xs:List Int)(hid:1<=id/\id<=2147483647)(hn:n<=1000)(j:Nat):O0 (0,(if xs.length<=j*n+n then 1 else 0),id,A54 n xs j)=true:=by
  have hpl:=C02 n xs j;refine fok _ _ _ _ (by omega) ?_ (by omega) (by omega);split<;>omega
theorem D4N(id:Int)(n:Nat)(xs:List Int)(hid:1<=id/\id<=2147483647)(hn:n<=1000):∀ j,(C2w id n xs j).length<=1009*j
  | 0=>by simp [C2w]
  | j+1=>by
    have h1:=D4N id n xs hid hn j;have h2:=B07 _ (E5K id n xs hid hn j);simp only [C2w,A6];omega
theorem F2v(id:Int)(n:Nat)(xs o:List Int)(hid:1<=id/\id<=2147483647)(hn:1<=n/\n<=1000)(hx:xs.length<=100000000)(ho:o.length<=1000000000000) :
    G1 (A2m A0C xs ((n:Int),()) id) (0,o,())=some (o++C2w id n xs (ceN n xs.length),()):=by
  have hn0:0<n:=by omega
  have hC:=D8p (n:=n) (L:=xs.length) hn0;refine (O3 (A2m A0C xs ((n:Int),()) id) (fun j=>(((j*n:Nat):Int),o++C2w id n xs j,())) (ceN n xs.length) _ (fun j hj=>?_) ?_ |> fun h=>by
    rw [show ((0:Int),o,())=(fun j:Nat=>(((j*n:Nat):Int),o++C2w id n xs j,())) 0 by simp [C2w]];exact h)
  · have hlt:=(D4L (n:=n) (L:=xs.length) (j:=j) hn0).1 hj
    have hpl:=C02 n xs j;have hok:=E5K id n xs hid hn.2 j;have hbl:=D4N id n xs hid hn.2 j;have hfl:=B07 _ hok;have hol:(o++C2w id n xs j).length<=1000000000000+1009*j:=by rw [A6];omega
    have e1:(C2w id n xs (j+1))=C2w id n xs j++R1 (0,(if xs.length<=j*n+n then 1 else 0),id,A54 n xs j):=rfl;simp only [A2m];rw [A0 (p:=((j*n:Nat):Int)<(xs.length:Int)) (by omega),A8,w64 (n:=((j*n:Nat):Int)+(n:Int)) (by omega) (by omega)];by_cases hL:xs.length<=j*n+n
    · have hp:(xs.take xs.length).drop (j*n)=A54 n xs j:=by
        unfold A54;rw [F9 (B6 _),F9 hL]
      rw [A0 (by omega),A8,bO];simp only [E5,hp];rw [A0 (by omega),A0 (by omega),A0 (by omega)];simp only [A8,F6];rw [gA (by simp only [I3];omega)];rw [A7 hL] at hok e1 hfl;rw [A6P _ (by simp only [];omega),A7 hok,bO,gA (by simp only [];omega),e1,K9,B3];rfl
    · have hp:(xs.take (((j*n:Nat):Int)+(n:Int)).toNat).drop (j*n)=A54 n xs j:=by
        unfold A54;rw [show (((j*n:Nat):Int)+(n:Int)).toNat=j*n+n by omega]
      rw [A1 (by omega),A3,bO];simp only [E5,hp];rw [A0 (by omega),A0 (by omega),A0 (by omega)];simp only [A8,F6];rw [gA (by simp only [I3];omega)];rw [A4 hL] at hok e1 hfl;rw [A6P _ (by simp only [];omega),A7 hok,bO,gA (by simp only [];omega),e1,K9,B3];rfl
  · have h:=E9d (n:=n) (L:=xs.length) hn0
    have h1:¬ ((ceN n xs.length*n:Nat):Int)<(xs.length:Int):=by omega
    simp only [A2m,A1 h1,A3]
theorem D7b{id:Int}{n:Nat}{xs:List Int}(h:Byt xs):∀ j,Byt (C2w id n xs j)
  | 0=>fun x hx=>by cases hx
  | j+1=>A1D (D7b h j) (B37 (D08 h n j))
set_option maxRecDepth 100000
def PfS(n f M:Int):Prop:=∀ (v:Int) (b:List Int),0<=v->v<=16777216->b.length+16<=140737488355328->A6O b n f v=some (b++pfx M f v,())
theorem pS7:PfS 7 128 127:=fun v b h0 h1 hb=>E5D 7 128 127 128 v b (by decide) (by rfl) (by rfl) (by omega) (by omega) (by omega) ⟨h0,h1⟩ hb
theorem pS0:PfS 7 0 127:=fun v b h0 h1 hb=>E5D 7 0 127 0 v b (by decide) (by rfl) (by rfl) (by omega) (by omega) (by omega) ⟨h0,h1⟩ hb
theorem pS6:PfS 6 64 63:=fun v b h0 h1 hb=>E5D 6 64 63 64 v b (by decide) (by rfl) (by rfl) (by omega) (by omega) (by omega) ⟨h0,h1⟩ hb
theorem pS4:PfS 4 16 15:=fun v b h0 h1 hb=>E5D 4 16 15 16 v b (by decide) (by rfl) (by rfl) (by omega) (by omega) (by omega) ⟨h0,h1⟩ hb
theorem E5L(s:X0)(a:List Int)(ha:a.length<=100000000000)(hs:s.size<=16777216):A9J a s=some (a++D61 s,()):=by
  simp only [A9J,B96,E6h s (by omega),A5];by_cases h:(B0b s).length<s.size
  · have hp:=C5I 127 128 ((B0b s).length:Int)
    rw [A0 (show ((B0b s).length:Int)<(s.size:Int) by omega),A8,pS7 ((B0b s).length:Int) a (by omega) (by omega) (by omega)];simp only [];rw [gA (by simp only [A6];omega),D61,A7 h,B3]
  · have hp:=C5I 127 0 (s.size:Int)
    rw [A1 (show ¬ ((B0b s).length:Int)<(s.size:Int) by omega),A3,pS0 (s.size:Int) a (by omega) (by omega) (by omega)];simp only [];rw [A0 (by simp only [A6];omega),A8,D61,A4 h,B3]
theorem F3M(t:D3)(f:B2)(q:Int)(hq:q=1\/q=3)(ht:A07 t)(h1:f.1.size<=10000)(h2:f.2.size<=10000) :
    ∃ r T,W9 t f q=some (r,(t.1,T),())/\A07 (t.1,T)/\r.length<=30000/\Byt r:=by
  have hl:=A6t ht;have hr:=E6m (firstT++t.2) f;have hF:=B74;rw [A6] at hr;obtain ⟨ht0,ht1,ht2⟩:=ht;have hok:=F2u ⟨ht0,ht1,ht2⟩;have hfs:=D4I t f (by omega);generalize C8e (firstT++t.2) f=w at *
  obtain ⟨j,found⟩:=w;simp only at hr hfs;simp only [W9,B02,B0c t (by omega),hok,hfs,V6,A0 (show 1<=q/\q<=3 by omega),bO,bSl,bSr,C3,A3];cases hc:(found&&!decide (q=3)) with
  | true=>
    simp only [B4] at hc;rw [hc.1,hc.2];simp only [A8];rw [pS7 j [] (by omega) (by omega) (by simp)];have:=C5I 127 128 j;exact ⟨pfx 127 128 j,t.2,rfl,⟨ht0,ht1,ht2⟩,by omega,D2l _ _ _⟩
  | false=>
    have e1:(bif found then some ((!decide (q=3)),()) else some (false,()))=some (false,()):=by
      cases found
      · rfl
      · rw [show (!decide (q=3))=false from hc];rfl
    rw [e1];simp only [A3,bO,bSl,bSr];obtain ⟨n,fl,M,hP,hM1⟩:∃ n fl M,PfS n fl M/\C73 q=some (n,fl,()):=by
      rcases hq with rfl | rfl
      · exact ⟨6,64,63,pS6,rfl⟩
      · exact ⟨4,16,15,pS4,rfl⟩
    rw [hM1];simp only [bO];rw [hP j [] (by omega) (by omega) (by simp)];have hpl:=C5I M fl j;have hpb:=D2l M fl j;generalize pfx M fl j=p at *
    simp only [F6,bO];obtain ⟨p',hp1,hp3,hp4⟩:∃ p',(bif (decide (j=0)) then (A5 (A9J p f.1) fun c56=>some (c56.1,())) else some (p,()))=some (p',())/\p'.length<=10020/\Byt p':=by
      by_cases hj:j=0
      · refine ⟨p++D61 f.1,?_,?_,A1D hpb (D4H _)⟩
        · rw [A0 hj,A8,E5L _ _ (by omega) (by omega),bO]
        · have:=E0n f.1
          simp only [A6];omega
      · exact ⟨p,by rw [A1 hj,A3],by omega,hpb⟩
    rw [hp1];simp only [bO];rw [E5L _ _ (by omega) (by omega)];have hsl:=E0n f.2;simp only [bO];rcases hq with rfl | rfl
    · obtain ⟨T,_,a2,a3⟩:=E35 t f ht0 (by omega) (by unfold ofF;omega)
      rw [a2];exact ⟨p'++D61 f.2,T,rfl,⟨ht0,ht1,a3⟩,by simp only [A6];omega,A1D hp4 (D4H _)⟩
    · exact ⟨p'++D61 f.2,t.2,rfl,⟨ht0,ht1,ht2⟩,by simp only [A6];omega,A1D hp4 (D4H _)⟩
theorem F1k(r:B8h)(h:D01 r=true):∃ fs,B5v r=some (fs,())/\fs.length<=4/\∀ f∈fs,f.1.size<=10000/\f.2.size<=10000:=by
  obtain ⟨hr,hs,hn0,hn1⟩:=E0s h;obtain ⟨me,nm,e1,e3,hme,hnm⟩:∃ me nm,A4e r.1=some (me,())/\B0V r.1=some (nm,())/\me.size<=10/\nm.size<=20:=by
    have:r.1=1\/r.1=2\/r.1=3\/r.1=4\/r.1=5\/r.1=6:=by omega
    rcases this with e | e | e | e | e | e<;>rw [e]<;>exact ⟨_,_,rfl,rfl,by decide,by decide⟩
  obtain ⟨t1,t2⟩:=F1i r.2.2 hn0 hn1;have hpl:(⟨#[47,117,112,47]⟩:X0).size=4:=rfl;have hmax:¬ ((((⟨#[47,117,112,47]⟩:X0).size+r.2.1.size:Nat):Int)>i64.max):=by
    simp only [IntKind.max,IntKind.signed,IntKind.bits,hpl];simp;omega
  have p1:(⟨#[58,109,101,116,104,111,100]⟩:X0).size=7:=rfl;have p2:(⟨#[58,115,99,104,101,109,101]⟩:X0).size=7:=rfl;have p3:(⟨#[58,112,97,116,104]⟩:X0).size=5:=rfl;have p4:(⟨#[104,116,116,112,115]⟩:X0).size=5:=rfl;simp only [B5v,C1k,D4D r (show r.2.1.size<=maxLen by simp only [maxLen];omega),h,bO,C3,A3,e1,e3,A1 hmax];cases hb:(!(nm.toList == (⟨#[]⟩:X0).toList)) with
  | true=>
    simp only [A8,t1,bO];rw [E32 (by simp)];refine ⟨_,rfl,by simp,fun f hf=>?_⟩;simp only [E4,F6,C2,J9,A1P] at hf;rcases hf with rfl | rfl | rfl | rfl<;>exact ⟨by simp only [p1,p2,p3];omega,by simp only [p4,B2L,hpl];omega⟩
  | false=>
    simp only [A3];refine ⟨_,rfl,by simp,fun f hf=>?_⟩;simp only [C2,J9,A1P] at hf;rcases hf with rfl | rfl | rfl<;>exact ⟨by simp only [p1,p2,p3];omega,by simp only [p4,B2L,hpl];omega⟩
theorem F3N(t:D3)(fs:List B2)(ht:A07 t)(hl:fs.length<=1000)(hf:∀ f∈fs,f.1.size<=10000/\f.2.size<=10000) :
    ∃ r T,A4s t fs=some (r,(t.1,T),())/\A07 (t.1,T)/\r.length<=30000*fs.length/\Byt r:=by
  have htl:=A6t ht;have key:∀ k,k<=fs.length->∃ T r,A07 (t.1,T)/\(r.length<=30000*k/\Byt r)/\G1 (U8 W9 fs) (0,t.1,t.2,[],())=G1 (U8 W9 fs) ((k:Int),t.1,T,r,()):=by
    intro k
    induction k with
    | zero=>intro _;exact ⟨t.2,[],ht,⟨by simp,fun x hx=>by cases hx⟩,rfl⟩
    | succ k ih=>
      intro hk;obtain ⟨T,r,h1,⟨h2,h5⟩,h3⟩:=ih (by omega);have hlt:k<fs.length:=by omega
      have a1:(k:Int)<(fs.length:Int):=by omega
      have a2:(0:Int)<=(k:Int):=by omega
      have a3:rd C1 fs (k:Int)=fs[k]:=A6d (k:=C1) hlt;have a4:=hf fs[k] (F2 hlt);have both:∀ q,q=1\/q=3->(bif (fs[k].1.toList == (⟨#[97,117,116,104,111,114,105,122,97,116,105,111,110]⟩:X0).toList) then (3:Int) else 1)=q->∃ T r,A07 (t.1,T)/\(r.length<=30000*(k+1)/\Byt r)/\G1 (U8 W9 fs) (0,t.1,t.2,[],())=G1 (U8 W9 fs) (((k+1:Nat):Int),t.1,T,r,()):=fun q hq e=>by
        obtain ⟨r',T',b1,b3,b4,b5⟩:=F3M (t.1,T) fs[k] q hq h1 a4.1 a4.2;refine ⟨T',r++r',b3,⟨by simp only [A6];omega,A1D h5 b5⟩,?_⟩;rw [h3];refine A5G ?_;cases hc:(fs[k].1.toList == (⟨#[97,117,116,104,111,114,105,122,97,116,105,111,110]⟩:X0).toList) <;>
        · rw [hc] at e
          simp only [A8,A3] at e;subst e;simp only [U8,A0 a1,A0 a2,A8,A3,a3,hc,bO,b1];rw [gA (by omega),w64 (by omega) (by omega)];rfl
      exact both _ (by cases (fs[k].1.toList == (⟨#[97,117,116,104,111,114,105,122,97,116,105,111,110]⟩:X0).toList)<;>simp) rfl
  obtain ⟨T,r,h1,⟨h2,h5⟩,h3⟩:=key fs.length (B6 _);have e1:¬ ((fs.length:Nat):Int)<(fs.length:Int):=by omega
  refine ⟨r,T,?_,h1,h2,h5⟩;simp only [A4s,A92,B0c t (by omega),bO];rw [h3,H5];simp only [U8,A1 e1,A3];rfl
theorem F48(t:D3)(id:Int)(r:B8h)(xs:List Int)(a4:Int)(ht:szT t.2<=1000000000)(hr:r.2.1.size<=1000000000)(hx:xs.length<=100000000) :
    ∃ o T,A4F t id r xs a4=some (o,(t.1,T),())/\o.length<=1009*(120001+xs.length)/\szT T<=1000000000/\(Byt xs->Byt o):=by
  have htl:=A35 t.2;obtain ⟨b,hb⟩:=B1U t (by simp only [maxLen];omega);simp only [A4F,B1Q,hb,D4D r (show r.2.1.size<=maxLen by simp only [maxLen];omega),V6,bO,B0c t (by omega)];have hno:∀ {c:Prop},c->∃ o T,(some (([]:List Int),t,()):Option (List Int×D3×Unit))=some (o,(t.1,T),())/\o.length<=1009*(120001+xs.length)/\szT T<=1000000000/\(Byt xs->Byt o):=fun _=>⟨[],t.2,rfl,by simp,ht,fun _ x hx=>by cases hx⟩
  cases b with
  | false=>exact hno trivial
  | true=>
  cases h2:D01 r with
  | false=>exact hno trivial
  | true=>
  by_cases h3:1<=id/\id<=2147483647
  case neg=>
    rw [A1 h3];exact hno trivial
  simp only [A0 h3,C3,A3,bO,bSl];obtain ⟨fs,f1,f3,f4⟩:=F1k r h2;obtain ⟨h,T,g1,g3,g4,g5⟩:=F3N t fs (E36 (by omega) hb) (by omega) f4;have hn:=E5I a4;have hpo:=E9g id (decide ((xs.length:Int)=0)) (czN a4) h h3 hn.2;have hpl:=E6o id (if decide ((xs.length:Int)=0)=true then 1 else 0) (czN a4) h (by omega);have e0:=F3L a4;simp only [f1,g1,bO,E6n id (decide ((xs.length:Int)=0)) h a4 h3 (by omega)];rw [E0v _ hpo (by omega)];have hcl:=D4M _ hpo _ (B6 _);have hcb:=E0u (E6p (id:=id) (fl:=(if decide ((xs.length:Int)=0)=true then 1 else 0)) (n:=czN a4) g5);generalize D1d id (if decide ((xs.length:Int)=0)=true then 1 else 0) (czN a4) h=F at *
  have e1:∀ (K:Int×Unit->Option (List Int×D3×Unit)),(A5 (bif (decide (a4<1)) then some ((1:Int),()) else some (a4,())) fun (m0:Int×Unit)=>A5 (bif (decide (m0.1>1000)) then some ((1000:Int),()) else some (m0.1,())) K)=K ((czN a4:Int),()):=by
    intro K;rw [show K ((czN a4:Int),())=A5 (some ((czN a4:Int),())) K from rfl,<- e0];cases (bif (decide (a4<1)) then some ((1:Int),()) else some (a4,()))<;>rfl
  have hbl:=D4N id (czN a4) xs h3 hn.2 (ceN (czN a4) xs.length);have hC:=D8p (n:=czN a4) (L:=xs.length) (by omega);simp only [bO];rw [e1,F2v id (czN a4) xs _ h3 hn hx (by omega)];obtain ⟨k1,k2,k3⟩:=g3;exact ⟨_,T,rfl,by rw [A6];omega,by simp only at k1 k2 k3;omega,fun hxb=>A1D (hcb _) (D7b hxb _)⟩
set_option maxRecDepth 100000
theorem D4O{R:Type}{n:Nat}{X:Option R}(h:n<=1000000000000):(bif decide (n<=9223372036854775807) then bif decide (n*72<=140737488355328) then X else none else none)=X:=by
  rw [A0 (by omega),A0 (by omega)];rfl
def D7c(c:M7):Prop:=c.2.1.length<=2000000/\c.2.2.1.2.2.length<=2000000/\c.2.2.2.1.2.length<=2000000/\c.2.2.2.2.1.2.length<=2000000/\c.2.2.2.2.2.1.length<=2000000/\∀ x∈c.2.2.2.2.2.1,x.2.2.2.length<=2000000
theorem D7d(g:L3)(h:g.2.2.length<=2000000):B6p g=some (g,()):=by
  simp only [B6p,C6u];rw [gA (by simp;omega)];rfl
theorem C69(g:L3)(h:g.2.2.length<=2000000):A78 g=some (g,()):=by
  simp only [A78,B6g,B36 g.2.2 (by omega),A5]
theorem D4P(c:M7)(h:D7c c):B7w c=some (c,()):=by
  obtain ⟨h1,h2,h3,h4,h5,h6⟩:=h;simp only [B7w,C3p];rw [gA (by simp;omega)];simp only [D7d _ h2,B0c c.2.2.2.1 (by omega),B0c c.2.2.2.2.1 (by omega),bO,F6];refine O3 (B3u c) (fun k=>((k:Int),c.1,c.2.2.1.1,c.2.2.1.2.1,c.2.2.2.1.1,c.2.2.2.2.1.1,c.2.2.2.2.2.2.1,c.2.2.2.2.2.2.2,c.2.1,c.2.2.1.2.2,c.2.2.2.1.2,c.2.2.2.2.1.2,c.2.2.2.2.2.1.take k,())) c.2.2.2.2.2.1.length (c,()) (fun k hk=>?_) ?_
  · have a1:(k:Int)<(c.2.2.2.2.2.1.length:Int):=by omega
    have a2:(0:Int)<=(k:Int):=by omega
    have a3:rd H2 c.2.2.2.2.2.1 (k:Int)=c.2.2.2.2.2.1[k]:=A6d (k:=H2) hk;have a4:=h6 _ (F2 hk);simp only [B3u,A0 a1,A0 a2,A8,a3,F6];rw [gA (by simp;omega),D4O (by simp;omega),w64 (by omega) (by omega),H6 hk];rfl
  · have a1:¬ ((c.2.2.2.2.2.1.length:Nat):Int)<(c.2.2.2.2.2.1.length:Int):=by omega
    simp only [B3u,A1 a1,A3];rw [F9 (B6 _)]
theorem D1f(c:M7)(h:D7c c):B5h c=some (c,()):=by
  obtain ⟨h1,h2,h3,h4,h5,h6⟩:=h;simp only [B5h,C14,B36 c.2.1 (by omega),C69 _ h2,B5w c.2.2.2.1 (by omega),B5w c.2.2.2.2.1 (by omega),bO];refine O3 (B0v H4 c) (fun k=>((k:Int),c.1,c.2.2.1.1,c.2.2.1.2.1,c.2.2.2.1.1,c.2.2.2.2.1.1,c.2.2.2.2.2.2.1,c.2.2.2.2.2.2.2,c.2.1,c.2.2.1.2.2,c.2.2.2.1.2,c.2.2.2.2.1.2,c.2.2.2.2.2.1.take k,())) c.2.2.2.2.2.1.length (c,()) (fun k hk=>?_) ?_
  · have a1:(k:Int)<(c.2.2.2.2.2.1.length:Int):=by omega
    have a2:(0:Int)<=(k:Int):=by omega
    have a3:rd H2 c.2.2.2.2.2.1 (k:Int)=c.2.2.2.2.2.1[k]:=A6d (k:=H2) hk;have a4:=h6 _ (F2 hk);simp only [B0v,A0 a1,A0 a2,A8,a3,B36 _ (show (c.2.2.2.2.2.1[k]).2.2.2.length<=1000000000 by omega),bO];rw [D4O (by simp;omega),w64 (by omega) (by omega),H6 hk];rfl
  · have a1:¬ ((c.2.2.2.2.2.1.length:Nat):Int)<(c.2.2.2.2.2.1.length:Int):=by omega
    simp only [B0v,A1 a1,A3];rw [F9 (B6 _)]
def C49(c:M7)(j:Nat):Int:=(rd H2 c.2.2.2.2.2.1 (j:Int)).1
theorem E9h(c:M7)(id:Int)(h:c.2.2.2.2.2.1.length<=2000000):∃ i,i<=c.2.2.2.2.2.1.length/\(∀ j,j<i->C49 c j≠id)/\(i<c.2.2.2.2.2.1.length->C49 c i=id)/\
    B2n c id=some (if i<c.2.2.2.2.2.1.length then (i:Int) else -1,()):=by
  obtain ⟨i,h1,h2,h3,h4⟩:=A4h (B80 c id) (fun j=>((j:Int),())) c.2.2.2.2.2.1.length (fun j=>(if j<c.2.2.2.2.2.1.length then (j:Int) else -1,())) (fun j=>!decide (C49 c j=id)) (fun j hj=>by
    have a1:(j:Int)<(c.2.2.2.2.2.1.length:Int):=by omega
    have a2:(0:Int)<=(j:Int):=by omega
    simp only [B80,A0 a1,A0 a2,A8,A7 hj];rw [w64 (by omega) (by omega)];unfold C49;cases decide ((rd H2 c.2.2.2.2.2.1 (j:Int)).1=id)<;>rfl) (by
    have a1:¬ ((c.2.2.2.2.2.1.length:Nat):Int)<(c.2.2.2.2.2.1.length:Int):=by omega
    simp only [B80,A1 a1,A3,A4 (A27 _)])
  exact ⟨i,h1,fun j hj=>by simpa using h2 j hj,fun hi=>by simpa using h3 hi,h4⟩
theorem str_eq(c:M7)(id:Int)(h:c.2.2.2.2.2.1.length<=2000000):∃ i,i<=c.2.2.2.2.2.1.length/\(∀ j,j<i->C49 c j<id)/\(i<c.2.2.2.2.2.1.length->¬ C49 c i<id)/\
    A4B c id=some ((i:Int),(decide (i<c.2.2.2.2.2.1.length)&&decide (C49 c i=id)),c,()):=by
  obtain ⟨i,h1,h2,h3,h4⟩:=A4h (B11 c id) (fun j=>((j:Int),())) c.2.2.2.2.2.1.length (fun j=>((j:Int),())) (fun j=>decide (C49 c j<id)) (fun j hj=>by
    have a1:(j:Int)<(c.2.2.2.2.2.1.length:Int):=by omega
    have a2:(0:Int)<=(j:Int):=by omega
    simp only [B11,A0 a1,A0 a2,A8];rw [w64 (by omega) (by omega)];unfold C49;cases decide ((rd H2 c.2.2.2.2.2.1 (j:Int)).1<id)<;>rfl) (by
    have a1:¬ ((c.2.2.2.2.2.1.length:Nat):Int)<(c.2.2.2.2.2.1.length:Int):=by omega
    simp only [B11,A1 a1,A3])
  refine ⟨i,h1,fun j hj=>by simpa using h2 j hj,fun hi=>by simpa using h3 hi,?_⟩;simp only [A4B,C1D];rw [show ((0:Int),())=(fun j:Nat=>((j:Int),())) 0 from rfl,h4];simp only [bO];by_cases hi:i<c.2.2.2.2.2.1.length
  · rw [A0 (p:=(i:Int)<(c.2.2.2.2.2.1.length:Int)) (by omega),A0 (p:=(0:Int)<=(i:Int)) (by omega),A0 hi]
    rfl
  · rw [A1 (p:=(i:Int)<(c.2.2.2.2.2.1.length:Int)) (by omega),A1 hi]
    rfl
theorem E5M{c:M7}(h:C2v c=true):∀ i,i+1<c.2.2.2.2.2.1.length->C49 c i<C49 c (i+1):=by
  intro i hi;have h1:A0K (B1V c) 0 c.2.2.2.2.2.1.length=c.2.2.2.2.2.1.length:=by
    simp only [C2v,B4,H3] at h;exact h.1
  have h2:=B8B (B1V c) c.2.2.2.2.2.1.length 0 (i+1) (by omega) (by omega);simp only [B1V,B4,M3,H3,W4,A2S] at h2;have h3:=h2.1.1.2;rw [show (((i+1:Nat):Int)-1)=(i:Int) by omega] at h3;have h4:¬ C49 c (i+1)<=C49 c i:=by
    rcases h3 with q | q
    · omega
    · exact q
  omega
theorem E5N{c:M7}(h:C2v c=true):∀ k i,i+k+1<c.2.2.2.2.2.1.length->C49 c i<C49 c (i+k+1)
  | 0,i,hi=>E5M h i hi
  | k+1,i,hi=>by
    have h1:=E5N h k i (by omega);have h2:=E5M h (i+k+1) (by omega);rw [show i+(k+1)+1=i+k+1+1 by omega];omega
theorem at_eq(c:M7)(id:Int)(h:c.2.2.2.2.2.1.length<=2000000)(hs:C2v c=true):∃ i:Nat,∃ has:Bool,(has=true->i<c.2.2.2.2.2.1.length/\C49 c i=id)/\
    B2n c id=some (if has then (i:Int) else -1,())/\A4B c id=some ((i:Int),has,c,()):=by
  obtain ⟨i1,a1,a2,a3,a4⟩:=E9h c id h;obtain ⟨i2,b1,b2,b3,b4⟩:=str_eq c id h;refine ⟨i2,_,?_,?_,b4⟩
  · intro q
    simp only [B4,H3] at q;exact q
  · rw [a4]
    by_cases h1:i2<c.2.2.2.2.2.1.length
    · by_cases h2:C49 c i2=id
      · have e:i1=i2:=by
          rcases B8d i1 i2 with q | q | q
          · have:=b2 i1 q
            have:=a3 (by omega);omega
          · exact q
          · exact absurd h2 (a2 i2 q)
        rw [e,A0 h1,A0 h2];simp [h1]
      · have e:¬ i1<c.2.2.2.2.2.1.length:=by
          intro q;have q3:=a3 q;rcases B8d i1 i2 with q2 | q2 | q2
          · have:=b2 i1 q2;omega
          · rw [q2] at q3;exact h2 q3
          · have q4:=E5N hs (i1-i2-1) i2 (by omega)
            rw [show i2+(i1-i2-1)+1=i1 by omega] at q4;have:=b3 h1;omega
        rw [A1 h2,A4 e];simp
    · have e:¬ i1<c.2.2.2.2.2.1.length:=by
        intro q;have:=b2 i1 (by omega);have:=a3 q;omega
      rw [A1 h1,A4 e];simp
set_option maxRecDepth 100000
def R4:Nat->Nat->List Bool
  | 0,_=> []
  | n+1,v=>v.testBit n::R4 n v
theorem A3S:∀ n v,(R4 n v).length=n
  | 0,_=>rfl
  | n+1,v=>by simp only [R4,F0,A3S n v]
theorem B0d(m:Nat):∀ (n v:Nat),n<=m->R4 n (v % 2 ^ m)=R4 n v
  | 0,_,_=>rfl
  | n+1,v,h=>by
    simp only [R4];rw [B0d m n v (by omega),Nat.testBit_mod_two_pow,A0 (show n<m by omega),J5]
theorem C03:∀ a b v,R4 (a+b) v=R4 a (v / 2 ^ b)++R4 b v
  | 0,b,v=>by simp [R4]
  | a+1,b,v=>by
    rw [show a+1+b=(a+b)+1 by omega];simp only [R4,E4];rw [C03 a b v,C0b]
theorem D09:∀ n v w,v<2 ^ n->w<2 ^ n->R4 n v=R4 n w->v=w
  | 0,v,w,hv,hw,_=>by simp at hv hw;omega
  | n+1,v,w,hv,hw,h=>by
    simp only [R4,List.cons.injEq] at h;obtain ⟨h1,h2⟩:=h;rw [<- B0d n n v (B6 _),<- B0d n n w (B6 _)] at h2;have h3:=D09 n _ _ (A4l _ (A1f n)) (A4l _ (A1f n)) h2;rw [B2C,B2C] at h1;rw [A5v] at hv hw;have h0:=A1f n;generalize 2 ^ n=p at *
    have h4:=A6B v p;have h5:=A6B w p;have h6:v / p<2:=A7V hv;have h7:w / p<2:=A7V hw;have h8:v / p=w / p:=by
      clear h4 h5
      generalize v / p=a at *
      generalize w / p=b at *
      have q1:a=0\/a=1:=by omega
      have q2:b=0\/b=1:=by omega
      rcases q1 with rfl | rfl<;>rcases q2 with rfl | rfl<;>simp_all
    rw [h8] at h4;omega
theorem C1r:∀ n m,n<=m->R4 n (2 ^ m-1)=List.replicate n true
  | 0,_,_=>rfl
  | n+1,m,h=>by
    simp only [R4,A52];rw [C1r n m (by omega),Nat.testBit_two_pow_sub_one,A0 (show n<m by omega)]
def K2(l:List Int):List Bool:=l.flatMap fun x=>R4 8 x.toNat
theorem C8f(a b:List Int):K2 (a++b)=K2 a++K2 b:=by simp [K2]
theorem A6Q(x:Int)(b:List Int):K2 (x::b)=R4 8 x.toNat++K2 b:=by simp [K2]
theorem D8r(x:Int):K2 [x]=R4 8 x.toNat:=by simp [K2]
theorem A1E:∀ l:List Int,(K2 l).length=8*l.length
  | []=>rfl
  | x::l=>by
    have:=A1E l;rw [A6Q,A6,A3S,F0];omega
theorem C8g:∀ {a b:List Int},Byt a->Byt b->K2 a=K2 b->a=b
  | [],[],_,_,_=>rfl
  | [],y::b,_,_,h=>by have:=N6 List.length h;rw [A1E,A1E] at this;simp at this
  | x::a,[],_,_,h=>by have:=N6 List.length h;rw [A1E,A1E] at this;simp at this
  | x::a,y::b,ha,hb,h=>by
    rw [A6Q,A6Q] at h;have h1:=List.append_inj h (by rw [A3S,A3S]);have hx:=ha x B1;have hy:=hb y B1;have h2:=D09 8 _ _ (by omega) (by omega) h1.1;have h3:=C8g (fun z hz=>ha z (C0 _ hz)) (fun z hz=>hb z (C0 _ hz)) h1.2;rw [h3,show x=y by omega]
def coN(x:Nat):Nat:=(codesT.getD x 0).toNat
def leN(x:Nat):Nat:=(lensT.getD x 0).toNat
def cod(x:Nat):List Bool:=R4 (leN x) (coN x)
theorem E9i:(List.range 257).all (fun x=>decide (0<=codesT.getD x 0)&&decide ((codesT.getD x 0).toNat<2 ^ (lensT.getD x 0).toNat))=true:=by kernel_rfl
theorem E5O{x:Nat}(h:x<257):0<=codesT.getD x 0/\coN x<2 ^ leN x:=by
  have:=C6.1 E9i x (P7.2 h);simpa [coN,leN] using this
theorem E0w{x:Nat}(h:x<257):5<=lensT.getD x 0/\lensT.getD x 0<=30:=by
  have h:=C6.1 D7W (lensT.getD x 0) (by
    rw [D5,C5 (by rw [A1S];exact h)];exact F2 _)
  simpa using h
def A36(l:List Nat):List Bool:=l.flatMap cod
theorem D1g(a b:List Nat):A36 (a++b)=A36 a++A36 b:=by simp [A36]
theorem C4A{x y:Nat}(hx:x<9223372036854775808)(hy:y<9223372036854775808):Q4 .i64 (x:Int) (y:Int)=((x &&& y:Nat):Int):=by
  have h:x &&& y<9223372036854775808:=C7p Nat.and_le_left hx;unfold Q4;rw [BitVec.toNat_and,bits_nat (by simp only [IntKind.bits];omega),bits_nat (by simp only [IntKind.bits];omega)];exact D8h h
theorem D8s{x y:Nat}(hx:x<9223372036854775808)(hy:y<9223372036854775808):bOr .i64 (x:Int) (y:Int)=((x ||| y:Nat):Int):=E59 hx hy
theorem D8t{m:Nat}(h:m<64):(min (u64.wrap (m:Int)).toNat i64.bits)=m:=by
  have:u64.wrap (m:Int)=m:=by
    simp only [IntKind.wrap,IntKind.bits,IntKind.signed,A5O];simp;omega
  rw [this];simp only [IntKind.bits];omega
theorem C8h(m:Nat):((2:Int) ^ m)=((2 ^ m:Nat):Int):=by simp
theorem D4Q{m n:Nat}(h:m<=n):2 ^ m<=2 ^ n:=A10 (by omega) h
theorem p62{m:Nat}(h:m<=62):2 ^ m<=4611686018427387904:=A5q (D4Q h) (by decide)
theorem E10{v m:Nat}(hm:m<62)(h:v*2 ^ m<9223372036854775808):i64.wrap ((v:Int)*2 ^ (min (u64.wrap (m:Int)).toNat i64.bits))=((v*2 ^ m:Nat):Int):=by
  rw [D8t (by omega),C8h,<- Int.natCast_mul,w64 (by omega) (by omega)]
theorem C8i{m:Nat}(hm:m<62):i64.wrap (i64.wrap (1*2 ^ (min (u64.wrap (m:Int)).toNat i64.bits))-1)=((2 ^ m-1:Nat):Int):=by
  have h1:=p62 (show m<=62 by omega);have h2:=A1f m;have:=E10 (v:=1) hm (by omega);rw [show ((1:Nat):Int)=1 from rfl] at this;rw [this,w64 (by omega) (by omega)];omega
theorem D1h{x:Nat}(h:x<256):u8.wrap (x:Int)=x:=by
  simp only [IntKind.wrap,IntKind.bits,IntKind.signed,A5O];simp;omega
theorem E5P:∀ (k v n:Nat),v<2 ^ n->n<8*(k+1)->n<=60->∃ v' n':Nat,(dr k (v:Int) (n:Int)).1=v'/\(dr k (v:Int) (n:Int)).2.1=n'/\v'<2 ^ n'/\Byt (dr k (v:Int) (n:Int)).2.2/\K2 (dr k (v:Int) (n:Int)).2.2++R4 n' v' = R4 n v
  | 0,v,n,hv,h1,h2=>⟨v,n,rfl,rfl,hv,(fun x hx=>by cases hx),rfl⟩
  | k+1,v,n,hv,h1,h2=>by
    by_cases h:8<=n
    · have e:((n:Int)-8)=((n-8:Nat):Int):=by omega
      have hp:=p62 (show n<=62 by omega);have hq:=D4Q (show n-8<=n by omega);have h0:=A1f (n-8);have e1:Q4 .i64 (v:Int) (i64.wrap (i64.wrap (1*2 ^ (min (u64.wrap ((n:Int)-8)).toNat i64.bits))-1))=((v % 2 ^ (n-8):Nat):Int):=by
        rw [e,C8i (by omega),C4A (by omega) (by omega),A20]
      have e2:u8.wrap ((v:Int).fdiv (2 ^ (min (u64.wrap ((n:Int)-8)).toNat i64.bits)))=((v / 2 ^ (n-8):Nat):Int):=by
        rw [e,D8t (by omega),A3k _ (by rw [C8h];omega),C8h,<- B3c,D1h];refine A7V ?_;rw [show n=(n-8)+8 by omega,B0g] at hv;exact hv
      have e3:v / 2 ^ (n-8)<256:=by
        refine A7V ?_;rw [show n=(n-8)+8 by omega,B0g] at hv;exact hv
      obtain ⟨v',n',i1,i2,i3,i4,i5⟩:=E5P k (v % 2 ^ (n-8)) (n-8) (A4l _ h0) (by omega) (by omega);have hge:(n:Int)>=8:=by omega
      have hd:dr (k+1) (v:Int) (n:Int)=((dr k ((v % 2 ^ (n-8):Nat):Int) ((n-8:Nat):Int)).1,(dr k ((v % 2 ^ (n-8):Nat):Int) ((n-8:Nat):Int)).2.1,((v / 2 ^ (n-8):Nat):Int)::(dr k ((v % 2 ^ (n-8):Nat):Int) ((n-8:Nat):Int)).2.2):=by
        simp only [dr,A7 hge];rw [e1,e2,e]
      rw [hd];refine ⟨v',n',i1,i2,i3,?_,?_⟩
      · intro x hx
        rcases C2.1 hx with rfl | hx
        · generalize v / 2 ^ (n-8)=y at e3
          omega
        · exact i4 x hx
      · simp only []
        rw [A6Q,B3,i5,E5,B0d (n-8) (n-8) v (B6 _),<- C03 8 (n-8) v]
        congr 1
        omega
    · have hge:¬ (n:Int)>=8:=by omega
      refine ⟨v,n,?_,?_,hv,?_,?_⟩
      · simp only [dr,A4 hge]
      · simp only [dr,A4 hge]
      · simp only [dr,A4 hge]
        intro x hx;cases hx
      · simp only [dr,A4 hge]
        rfl
def E11(s:X0):Nat->List Nat
  | 0=> []
  | k+1=>E11 s k ++ [(bt s k).toNat]
theorem D8u(s:X0)(k:Nat):leA s k=((leN (bt s k).toNat:Nat):Int):=by
  have:=E0w (D04 s k);simp only [leA,leN];omega
theorem F1l(s:X0)(k:Nat):coA s k=((coN (bt s k).toNat:Nat):Int):=by
  have:=E5O (D04 s k);simp only [coA,coN];omega
theorem E12(s:X0):∀ k:Nat,∃ v n:Nat,(hst s k).1=v/\(hst s k).2.1=n/\v<2 ^ n/\n<8/\Byt (hst s k).2.2/\K2 (hst s k).2.2++R4 n v=A36 (E11 s k)
  | 0=>⟨0,0,rfl,rfl,by decide,by omega,(fun x hx=>by cases hx),rfl⟩
  | k+1=>by
    obtain ⟨v,n,h1,h2,h3,h4,h5,h6⟩:=E12 s k;have hl:=D2m s k;have hf:=(E5O (D04 s k)).2;rw [D8u] at hl;have hle:leN (bt s k).toNat<=30:=by omega
    generalize hL:leN (bt s k).toNat=L at *
    generalize hC:coN (bt s k).toNat=C at *
    have hp:v*2 ^ L+C<2 ^ (n+L):=by
      rw [B0g];have:v*2 ^ L+2 ^ L<=2 ^ n*2 ^ L:=by rw [<- K9];exact H1 _ h3
      omega
    have hq:2 ^ (n+L)<=2 ^ 38:=D4Q (by omega);have hq':(2:Nat) ^ 38=274877906944:=by decide
    have e1:bOr .i64 (i64.wrap ((hst s k).1*2 ^ (min (u64.wrap (leA s k)).toNat i64.bits))) (coA s k)=((v*2 ^ L+C:Nat):Int):=by
      rw [h1,D8u,F1l,hL,hC,E10 (by omega) (by omega),D8s (by omega) (by omega),A0F v,A3I hf]
    obtain ⟨v',n',i1,i2,i3,i4,i5⟩:=E5P 5 (v*2 ^ L+C) (n+L) hp (by omega) (by omega);have e2:(hst s k).2.1+leA s k=((n+L:Nat):Int):=by rw [h2,D8u,hL];omega
    have h7:=E5F s (k+1);simp only [hst,e1,e2] at h7;refine ⟨v',n',?_,?_,i3,?_,?_,?_⟩
    · simp only [hst,e1,e2];exact i1
    · simp only [hst,e1,e2];exact i2
    · omega
    · simp only [hst,e1,e2]
      intro x hx;rcases D0.1 hx with q | q
      · exact h5 x q
      · exact i4 x q
    · simp only [hst,e1,e2]
      rw [C8f,B3,i5,C03 n L];have a1:(v*2 ^ L+C) / 2 ^ L=v:=by
        rw [A0F,Nat.mul_add_div (A1f L),Nat.div_eq_of_lt hf,K6]
      have a2:R4 L (v*2 ^ L+C)=R4 L C:=by
        rw [<- B0d L L (v*2 ^ L+C) (B6 _),A0F,C39,B0d L L C (B6 _)]
      rw [a1,a2,<- B3,h6];simp only [E11,D1g]
      congr 1
      simp only [A36,B8b,List.flatMap_nil,G3,cod,hL,hC]
theorem D4R(s:X0):Byt (B0b s)/\∃ p,p<8/\K2 (B0b s)=A36 (E11 s s.size)++List.replicate p true:=by
  obtain ⟨v,n,h1,h2,h3,h4,h5,h6⟩:=E12 s s.size;unfold B0b;by_cases h:(hst s s.size).2.1>0
  · rw [A7 h]
    have hn:0<n:=by omega
    have e1:i64.wrap (8-(hst s s.size).2.1)=((8-n:Nat):Int):=by rw [h2,w64 (by omega) (by omega)];omega
    have hp:v*2 ^ (8-n)+(2 ^ (8-n)-1)<2 ^ (n+(8-n)):=by
      rw [B0g];have:v*2 ^ (8-n)+2 ^ (8-n)<=2 ^ n*2 ^ (8-n):=by rw [<- K9];exact H1 _ h3
      have:=A1f (8-n);omega
    rw [show n+(8-n)=8 by omega] at hp;have hq:2 ^ (8-n)<=2 ^ 8:=D4Q (by omega);have h0:=A1f (8-n);have hm:v*2 ^ (8-n)<256:=by omega
    rw [e1,h1,C8i (by omega),E10 (by omega) (by omega),D8s (by omega) (by omega),A0F v,<- A3I (show 2 ^ (8-n)-1<2 ^ (8-n) by omega),A0F _ v,D1h hp];refine ⟨fun x hx=>?_,8-n,by omega,?_⟩
    · rcases D0.1 hx with q | q
      · exact h5 x q
      · rcases B0.1 q with rfl
        omega
    · rw [C8f,D8r,E5,show (8:Nat)=n+(8-n) by omega,C03 n (8-n)]
      rw [show n+(8-n)-n=8-n by omega];have a1:(v*2 ^ (8-n)+(2 ^ (8-n)-1)) / 2 ^ (8-n)=v:=by
        rw [A0F,Nat.mul_add_div h0,Nat.div_eq_of_lt (by omega),K6]
      have a2:R4 (8-n) (v*2 ^ (8-n)+(2 ^ (8-n)-1))=List.replicate (8-n) true:=by
        rw [<- B0d (8-n) (8-n) _ (B6 _),A0F,C39,B0d (8-n) (8-n) _ (B6 _),C1r _ _ (B6 _)]
      rw [a1,a2,<- B3,h6]
  · rw [A4 h]
    refine ⟨h5,0,by omega,?_⟩;have:n=0:=by omega
    subst this;simpa [R4] using h6
set_option maxRecDepth 100000
def fdC:Nat->Nat->Int->Int->Option Nat
  | 0,_,_,_=>none
  | k+1,i,c,n=>if codesT.getD i 0=c/\lensT.getD i 0=n then some i else fdC k (i+1) c n
theorem D4S:∀ (k i:Nat) (c n:Int) (j:Nat),fdC k i c n=some j->i<=j/\j<i+k/\codesT.getD j 0=c/\lensT.getD j 0=n
  | 0,_,_,_,_,h=>by cases h
  | k+1,i,c,n,j,h=>by
    unfold fdC at h;by_cases hc:codesT.getD i 0=c/\lensT.getD i 0=n
    · rw [A7 hc] at h
      injection h with h
      subst h;exact ⟨B6 _,by omega,hc⟩
    · rw [A4 hc] at h
      have:=D4S k (i+1) c n j h;omega
def B4q(c n:Nat):Option Nat:=fdC 257 0 (c:Int) (n:Int)
theorem C1s{c n j:Nat}(h:B4q c n=some j):j<257/\coN j=c/\leN j=n:=by
  obtain ⟨h1,h2,h3,h4⟩:=D4S _ _ _ _ _ h;refine ⟨by omega,?_,?_⟩
  · simp only [coN,h3];omega
  · simp only [leN,h4];omega
theorem E6q{c n:Nat}(h:B4q c n=some 256):n=30:=by
  have:=(C1s h).2.2;have e:leN 256=30:=by kernel_rfl
  omega
abbrev RdS:=Nat×Nat×List Int
def A1o(st:RdS)(x:Bool):Option RdS:=
  if st.2.1+1>30 then none else match B4q (2*st.1+x.toNat) (st.2.1+1) with
  | some j=>if j<256 then some (0,0,st.2.2 ++ [(j:Int)]) else some (2*st.1+x.toNat,st.2.1+1,st.2.2)
  | none=>some (2*st.1+x.toNat,st.2.1+1,st.2.2)
def A0t(st:RdS)(x:Bool):Option RdS:=
  match B4q (2*st.1+x.toNat) (st.2.1+1) with
  | some j=>if j=256 then none else if st.2.1+1>30 then none else some (0,0,st.2.2 ++ [(j:Int)])
  | none=>if st.2.1+1>30 then none else some (2*st.1+x.toNat,st.2.1+1,st.2.2)
def A2B(f:RdS->Bool->Option RdS):List Bool->RdS->RdS×Bool
  | [],st=>(st,false)
  | x::xs,st=>match f st x with
    | some st'=>A2B f xs st'
    | none=>(st,true)
theorem E13(f:RdS->Bool->Option RdS):∀ (xs ys:List Bool) (st:RdS),A2B f (xs++ys) st=bif (A2B f xs st).2 then A2B f xs st else A2B f ys (A2B f xs st).1
  | [],ys,st=>by simp [A2B]
  | x::xs,ys,st=>by
    simp only [E4,A2B];cases f st x with
    | none=>rfl
    | some st'=>exact E13 f xs ys st'
def C4B(l:List Int):List Nat:=l.map Int.toNat
theorem D4T(n v:Nat)(x:Bool):R4 (n+1) (2*v+x.toNat)=R4 n v ++ [x]:=by
  rw [C03 n 1];cases x<;>simp [R4,Nat.testBit_zero]<;>(try (congr 1;omega))<;>omega
def RdI(done:List Bool)(st:RdS):Prop:=st.1<2 ^ st.2.1/\st.2.1<=30/\Byt st.2.2/\A36 (C4B st.2.2)++R4 st.2.1 st.1=done
theorem E9j{done:List Bool}{st:RdS}(h:RdI done st)(x:Bool)(h30:st.2.1+1<=30):RdI (done ++ [x]) (2*st.1+x.toNat,st.2.1+1,st.2.2):=by
  obtain ⟨h1,h2,h3,h4⟩:=h;refine ⟨?_,h30,h3,?_⟩
  · simp only [A5v]
    have:x.toNat<=1:=by cases x<;>simp
    omega
  · simp only [D4T]
    rw [<- B3,h4]
theorem F1m{done:List Bool}{st:RdS}(h:RdI done st)(x:Bool){j:Nat}(hj:B4q (2*st.1+x.toNat) (st.2.1+1)=some j)(h2:j<256):RdI (done ++ [x]) (0,0,st.2.2 ++ [(j:Int)]):=by
  obtain ⟨h1,h30,h3,h4⟩:=h;obtain ⟨e1,e2,e3⟩:=C1s hj;refine ⟨by simp,by simp,?_,?_⟩
  · intro y hy
    rcases D0.1 hy with q | q
    · exact h3 y q
    · rcases B0.1 q with rfl
      omega
  · simp only [C4B,A6A,D1g,R4,G3]
    rw [show A36 (List.map Int.toNat [(j:Int)])=R4 (st.2.1+1) (2*st.1+x.toNat) by simp [A36,cod,e2,e3],D4T,<- B3];exact N6 (· ++ [x]) h4
theorem C8j:∀ (xs done:List Bool) (st:RdS),RdI done st->
    ((A2B A0t xs st).2=false/\A2B A1o xs st=A2B A0t xs st/\RdI (done++xs) (A2B A0t xs st).1)\/
    ((A2B A0t xs st).2=true/\((A2B A1o xs st).2=true\/(A2B A1o xs st).1.2.1>=30)/\(A36 (C4B (A2B A0t xs st).1.2.2)).length+30<=(done++xs).length/\Byt (A2B A0t xs st).1.2.2)
  | [],done,st,h=>.inl ⟨rfl,rfl,by simpa [A2B] using h⟩
  | x::xs,done,st,h=>by
    have hd:done++x::xs=(done ++ [x])++xs:=by simp
    have hlen:(A36 (C4B st.2.2)).length+st.2.1=done.length:=by
      have:=N6 List.length h.2.2.2;rw [A6,A3S] at this;exact this
    have hlost:∀ (ys:List Bool) (s:RdS),s.2.1>=30->(A2B A1o ys s).2=true\/(A2B A1o ys s).1.2.1>=30:=fun ys s hs=>by
      cases ys with
      | nil=>exact .inr hs
      | cons y ys=>
        left;simp only [A2B];have:A1o s y=none:=by unfold A1o;rw [A7 (by omega)]
        rw [this]
    rw [hd];by_cases h30:st.2.1+1>30
    · right
      have e1:A1o st x=none:=by unfold A1o;rw [A7 h30]
      have e2:A0t st x=none:=by
        unfold A0t;cases B4q (2*st.1+x.toNat) (st.2.1+1) with
        | none=>simp only [];rw [A7 h30]
        | some j=>simp only [A7 h30];split<;>rfl
      simp only [A2B,e1,e2];exact ⟨trivial,.inl trivial,by simp only [A6,G7];omega,h.2.2.1⟩
    · cases hj:B4q (2*st.1+x.toNat) (st.2.1+1) with
      | none=>
        have e1:A1o st x=some (2*st.1+x.toNat,st.2.1+1,st.2.2):=by simp only [A1o,A4 h30,hj]
        have e2:A0t st x=some (2*st.1+x.toNat,st.2.1+1,st.2.2):=by simp only [A0t,A4 h30,hj]
        simp only [A2B,e1,e2];exact C8j xs _ _ (E9j h x (by omega))
      | some j=>
        by_cases h256:j<256
        · have e1:A1o st x=some (0,0,st.2.2 ++ [(j:Int)]):=by simp only [A1o,A4 h30,hj,A7 h256]
          have e2:A0t st x=some (0,0,st.2.2 ++ [(j:Int)]):=by simp only [A0t,A4 h30,hj,A4 (show ¬ j=256 by omega)]
          simp only [A2B,e1,e2];exact C8j xs _ _ (F1m h x hj h256)
        · have hj':j=256:=by have:=(C1s hj).1;omega
          subst hj';have e0:=E6q hj;right;have e1:A1o st x=some (2*st.1+x.toNat,st.2.1+1,st.2.2):=by simp only [A1o,A4 h30,hj,A4 h256]
          have e2:A0t st x=none:=by simp only [A0t,hj,L4]
          simp only [A2B,e1,e2];exact ⟨trivial,hlost xs _ (by simp only;omega),by simp only [A6,G7];omega,h.2.2.1⟩
theorem E9k{l:List Int}(hl:Byt l){k:Nat}(hk:k<l.length):bt (strOf l) (k:Int)=l[k]:=by
  have hb:=hl _ (F2 hk);unfold bt strOf strOfNums;simp [List.getD,hk];omega
theorem D4U{l:List Int}(hl:Byt l):∀ k,k<=l.length->E11 (strOf l) k=(C4B l).take k
  | 0,_=>by simp [E11]
  | k+1,h=>by
    rw [E11,D4U hl k (by omega),E9k hl (by omega),H6 (show k<(C4B l).length by simp [C4B];omega)];simp [C4B]
theorem E9l{l:List Int}(hl:Byt l):E11 (strOf l) (strOf l).size=C4B l:=by
  rw [B72,D4U hl _ (B6 _),F9 (by simp [C4B])]
def unH(b:List Int):List Int:=(A2B A0t (K2 b) (0,0,[])).1.2.2
def B75(b:List Int):RdS×Bool:=A2B A1o (K2 b) (0,0,[])
def C5a(b:List Int):Bool:=!(B75 b).2&&decide ((B75 b).1.2.1<=7)&&decide ((B75 b).1.1=2 ^ (B75 b).1.2.1-1)
theorem E5Q(b:List Int):Byt (unH b):=by
  rcases C8j (K2 b) [] (0,0,[]) ⟨by simp,by simp,(fun x hx=>by cases hx),by simp [C4B,A36,R4]⟩ with ⟨_,_,h⟩ | ⟨_,_,_,h⟩
  · exact h.2.2.1
  · exact h
theorem E5R(b:List Int):5*(unH b).length<=8*b.length:=by
  have hs:∀ l:List Int,Byt l->5*l.length<=(A36 (C4B l)).length:=by
    intro l
    induction l with
    | nil=>intro _;simp
    | cons x l ih=>
      intro hb;have h1:=ih fun y hy=>hb y (C0 _ hy)
      have h2:=hb x B1;have h3:=E0w (show x.toNat<257 by omega);simp only [C4B,I1,A36,B8b,A6,F0,cod,A3S,leN] at h1 ⊢;omega
  have hb:=E5Q b;have h1:=hs _ hb;have h2:=A1E b;rcases C8j (K2 b) [] (0,0,[]) ⟨by simp,by simp,(fun x hx=>by cases hx),by simp [C4B,A36,R4]⟩ with ⟨_,_,h⟩ | ⟨_,_,h,_⟩
  · have:=N6 List.length h.2.2.2
    rw [A6] at this;simp only [F6] at this;unfold unH at h1 ⊢;omega
  · simp only [F6] at h
    unfold unH at h1 ⊢;omega
theorem E9m(b:List Int)(hb:Byt b):(B0b (strOf (unH b))=b↔C5a b=true)/\(C5a b=true->(B75 b).1.2.2=unH b):=by
  have hu:=E5Q b;obtain ⟨c1,p,c2,c3⟩:=D4R (strOf (unH b));rw [E9l hu] at c3;have hl:=A1E b;rcases C8j (K2 b) [] (0,0,[]) ⟨by simp,by simp,(fun x hx=>by cases hx),by simp [C4B,A36,R4]⟩ with ⟨h1,h2,h3⟩ | ⟨h1,h2,h3,h4⟩
  · obtain ⟨i1,i2,i3,i4⟩:=h3
    simp only [F6] at i4;have e:B75 b=A2B A0t (K2 b) (0,0,[]):=h2;have e2:(B75 b).2=false:=by rw [e];exact h1
    refine ⟨⟨fun hq=>?_,fun hq=>?_⟩,fun _=>by rw [e];rfl⟩
    · rw [hq,<- i4] at c3
      have c4:R4 _ _=List.replicate p true:=A5N (show A36 (C4B (unH b))++_=A36 (C4B (unH b))++_ from c3);have c5:=N6 List.length c4;rw [A3S,V2] at c5;unfold C5a;rw [e2,e,c5];have c6:R4 p (A2B A0t (K2 b) (0,0,[])).1.1=R4 p (2 ^ p-1):=by
        rw [C1r p p (B6 _),<- c4,c5]
      have c7:=D09 p _ _ (by rw [<- c5];exact i1) (by have:=A1f p;omega) c6;simp only [J3,J5,B4,H3];exact ⟨by omega,c7⟩
    · unfold C5a at hq
      rw [e2,e] at hq;simp only [J3,J5,B4,H3] at hq;obtain ⟨q1,q2⟩:=hq;refine C8g c1 hb ?_;rw [c3,<- i4];have hn:(A2B A0t (K2 b) (0,0,[])).1.2.1=p:=by
        have d1:=N6 List.length c3;have d2:=N6 List.length i4;rw [A1E,A6,V2] at d1;rw [A6,A3S,hl] at d2;unfold unH at d1;omega
      rw [q2,hn,C1r p p (B6 _)];rfl
  · have hno:C5a b=false:=by
      unfold C5a;rcases h2 with h2 | h2
      · rw [show (B75 b).2=true from h2];rfl
      · rw [show decide ((B75 b).1.2.1<=7)=false from A1 (by have:(B75 b).1.2.1>=30:=h2;omega)];simp
    refine ⟨⟨fun hq=>?_,fun hq=>by rw [hno] at hq;cases hq⟩,fun hq=>by rw [hno] at hq;cases hq⟩;exfalso;have d1:=N6 List.length c3;rw [hq,hl,A6,V2] at d1;simp only [F6] at h3;unfold unH at d1;omega
set_option maxRecDepth 100000
def F2D:List ((Int×Int)×Int):=(List.range 257).map fun k=>((codesT.getD k 0,lensT.getD k 0),(k:Int))
theorem E6r:mkM (codesT.zip lensT) 257=F2D:=by kernel_rfl
theorem D7e(c n:Int):∀ (k i j:Nat),fdM ((List.range' i k).map fun q=>((codesT.getD q 0,lensT.getD q 0),(q:Int))) (c,n) j=(fdC k i c n).map fun (q:Nat)=>(j+(q-i),(q:Int))
  | 0,i,j=>rfl
  | k+1,i,j=>by
    rw [C0S,I1,fdM,fdC];by_cases h:codesT.getD i 0=c/\lensT.getD i 0=n
    · rw [A7 ⟨h.1.symm,h.2.symm⟩,A7 h]
      simp
    · rw [A4 (fun e=>h ⟨e.1.symm,e.2.symm⟩),A4 h,D7e c n k (i+1) (j+1)]
      cases hq:fdC k (i+1) c n with
      | none=>rfl
      | some q=>
        have:=(D4S k (i+1) c n q hq).1;simp only [N9,G0,A6W,and_true];omega
theorem D7f(c n:Nat):fdM (mkM (codesT.zip lensT) 257) ((c:Int),(n:Int)) 0=(B4q c n).map fun (q:Nat)=>(q,(q:Int)):=by
  rw [E6r,F2D,B52,D7e];unfold B4q;cases fdC 257 0 (c:Int) (n:Int)<;>simp
theorem E6s(c n:Nat):lkO (mkM (codesT.zip lensT) 257) ((c:Int),(n:Int))=(B4q c n).isSome:=by
  unfold lkO;rw [D7f];cases B4q c n<;>rfl
theorem E6t{c n j:Nat}(h:B4q c n=some j):lkV (mkM (codesT.zip lensT) 257) ((c:Int),(n:Int))=(j:Int):=by
  unfold lkV;rw [D7f,h];rfl
theorem E9n{x:Nat}(h:x<9223372036854775808):Q4 .i64 (x:Int) 1=(((x.testBit 0).toNat:Nat):Int):=by
  rw [show (1:Int)=((1:Nat):Int) from rfl,C4A h (by omega)]
  congr 1
  rw [Nat.and_one_is_mod,Nat.testBit_zero];rcases Nat.mod_two_eq_zero_or_one x with e | e<;>simp [e]
theorem E9o{x k:Nat}(h:x<256):((x:Int).fdiv (2 ^ k))=((x / 2 ^ k:Nat):Int):=by
  rw [A3k _ (by rw [C8h];exact C7o _),C8h,<- B3c]
theorem E9p{x k:Nat}(h:x<256)(hk:k<8):Q4 .i64 (((x:Int).fdiv (2 ^ (min (u64.wrap (k:Int)).toNat i64.bits)))) 1=(((x.testBit k).toNat:Nat):Int):=by
  rw [D8t (by omega),E9o h,E9n (C7p (Nat.div_le_self _ _) (by omega)),C0b,E9]
theorem E9q{v n:Nat}(hv:v<2 ^ n)(hn:n<=30)(x:Bool):bOr .i64 (i64.wrap ((v:Int)*2)) ((x.toNat:Nat):Int)=((2*v+x.toNat:Nat):Int):=by
  have h1:=p62 (show n<=62 by omega);have h2:2 ^ n<=2 ^ 30:=D4Q hn;have h3:(2:Nat) ^ 30=1073741824:=by decide
  have h4:x.toNat<2 ^ 1:=by cases x<;>simp
  rw [show (v:Int)*2=((v*2:Nat):Int) by omega,w64 (by omega) (by omega),D8s (by omega) (by cases x<;>simp),A0F v]
  congr 1
  have:=A3I h4 v;simpa using this.symm
def RdG(st:RdS):Prop:=st.1<2 ^ st.2.1/\st.2.1<=30
theorem D4V{st st':RdS}{x:Bool}(h:RdG st)(e:A0t st x=some st'):RdG st'/\st'.2.2.length<=st.2.2.length+1:=by
  unfold A0t at e;have hx:x.toNat<=1:=by cases x<;>simp
  have hp:2*st.1+x.toNat<2 ^ (st.2.1+1):=by have:=h.1;rw [A5v];omega
  cases hj:B4q (2*st.1+x.toNat) (st.2.1+1) with
  | none=>
    rw [hj] at e;by_cases h30:st.2.1+1>30
    · simp only [A7 h30] at e;cases e
    · simp only [A4 h30,G0] at e
      subst e;exact ⟨⟨hp,by simp only;omega⟩,by simp⟩
  | some j=>
    rw [hj] at e;by_cases h256:j=256
    · simp only [A7 h256] at e;cases e
    · by_cases h30:st.2.1+1>30
      · simp only [A4 h256,A7 h30] at e;cases e
      · simp only [A4 h256,A4 h30,G0] at e
        subst e;exact ⟨⟨by simp,by simp⟩,by simp⟩
theorem D0A(a:List Int)(j:Nat)(x:Nat)(hx:x<256)(hj:rd (.int .u8) a (j:Int)=(x:Int))(q1 q2:Int)(q3:List Int):∀ (k:Nat) (st:RdS),k<=8->RdG st->st.2.2.length+k<=1000000000000->j<1000000000000->
    G1 (B5i (codesT.zip lensT) a ((j:Int),q1,q2,q3,())) ((k:Int)-1,(st.1:Int),(st.2.1:Int),st.2.2,()) =
      (if (A2B A0t (R4 k x) st).2 then some (.inr (.inr (strOf (A2B A0t (R4 k x) st).1.2.2,()))) else some (.inl (((j+1:Nat):Int),((A2B A0t (R4 k x) st).1.1:Int),((A2B A0t (R4 k x) st).1.2.1:Int),(A2B A0t (R4 k x) st).1.2.2,())))
  | 0,st,_,_,_,hj2=>by
    rw [H5];have h:¬ ((0:Nat):Int)-1>=0:=by omega
    simp only [B5i,A1 h,A3,R4,A2B];rw [w64 (n:=(j:Int)+1) (by omega) (by omega),show (j:Int)+1=((j+1:Nat):Int) by omega];rfl
  | k+1,st,h8,hg,hl,hj2=>by
    rw [H5];have e0:((k+1:Nat):Int)-1=(k:Int):=by omega
    have h0:(k:Int)>=0:=by omega
    have e1:i64.wrap (x:Int)=(x:Int):=w64 (by omega) (by omega);have e2:=E9p hx (show k<8 by omega);have e3:=E9q hg.1 hg.2 (x.testBit k);have e4:i64.wrap ((st.2.1:Int)+1)=((st.2.1+1:Nat):Int):=by have:=hg.2;rw [w64 (by omega) (by omega)];omega
    have e5:i64.wrap ((k:Int)-1)=(k:Int)-1:=w64 (by omega) (by omega);rw [e0];simp only [B5i,A0 h0,A8,A1 (u64_nonneg _),A3,hj,e1,e2,e3,e4,e5,E6s];simp only [R4,A2B];cases hs:B4q (2*st.1+(x.testBit k).toNat) (st.2.1+1) with
    | none=>
      simp only [Option.isSome_none,A3];by_cases h30:st.2.1+1>30
      · have d1:((st.2.1+1:Nat):Int)>30:=by omega
        have e6:A0t st (x.testBit k)=none:=by unfold A0t;rw [hs];simp only [A7 h30]
        rw [e6];simp only [A0 d1,A8,H8,L4]
      · have d1:¬ ((st.2.1+1:Nat):Int)>30:=by omega
        have e6:A0t st (x.testBit k)=some (2*st.1+(x.testBit k).toNat,st.2.1+1,st.2.2):=by unfold A0t;rw [hs];simp only [A4 h30]
        have hg2:=D4V hg e6;rw [e6];simp only [A1 d1,A3,H8];exact D0A a j x hx hj q1 q2 q3 k _ (by omega) hg2.1 (by simp only;omega) hj2
    | some s=>
      have e7:=E6t hs;have hlt:=(C1s hs).1;simp only [Option.isSome_some,A8,e7];by_cases h256:s=256
      · have d1:(s:Int)=256:=by omega
        have e6:A0t st (x.testBit k)=none:=by unfold A0t;rw [hs];simp only [A7 h256]
        rw [e6];simp only [A0 d1,A8,H8,L4]
      · have d1:¬ (s:Int)=256:=by omega
        by_cases h30:st.2.1+1>30
        · have d2:((st.2.1+1:Nat):Int)>30:=by omega
          have e6:A0t st (x.testBit k)=none:=by unfold A0t;rw [hs];simp only [A4 h256,A7 h30]
          rw [e6];simp only [A1 d1,A0 d2,A8,A3,H8,L4]
        · have d2:¬ ((st.2.1+1:Nat):Int)>30:=by omega
          have e6:A0t st (x.testBit k)=some (0,0,st.2.2 ++ [(s:Int)]):=by unfold A0t;rw [hs];simp only [A4 h256,A4 h30]
          have hg2:=D4V hg e6;rw [e6];simp only [A1 d1,A1 d2,A3,H8,D1h (show s<256 by omega)];rw [gA (by simp;omega)];exact D0A a j x hx hj q1 q2 q3 k _ (by omega) hg2.1 (by simp only [A6,G7];omega) hj2
theorem D4W(f:RdS->Bool->Option RdS)(hf:∀ st x st',RdG st->f st x=some st'->RdG st'/\st'.2.2.length<=st.2.2.length+1):∀ (xs:List Bool) (st:RdS),RdG st->RdG (A2B f xs st).1/\(A2B f xs st).1.2.2.length<=st.2.2.length+xs.length
  | [],st,h=>⟨h,by simp [A2B]⟩
  | x::xs,st,h=>by
    simp only [A2B];cases e:f st x with
    | none=>exact ⟨h,by simp only [F0];omega⟩
    | some st'=>
      have h1:=hf _ _ _ h e;have h2:=D4W f hf xs st' h1.1;exact ⟨h2.1,by simp only [F0];omega⟩
theorem D4a(a:List Int)(ha:Byt a)(hl:a.length<=1000000000):∀ (k j:Nat) (st:RdS),j+k=a.length->RdG st->st.2.2.length+8*k<=100000000000->
    G1 (B10 a (codesT.zip lensT)) ((j:Int),(st.1:Int),(st.2.1:Int),st.2.2,()) =
      (if (A2B A0t (K2 (a.drop j)) st).2 then some (.inr (strOf (A2B A0t (K2 (a.drop j)) st).1.2.2,())) else some (.inl ((A2B A0t (K2 (a.drop j)) st).1.2.2,())))
  | 0,j,st,hj,hg,hlen=>by
    rw [H5];have h:¬ (j:Int)<(a.length:Int):=by omega
    simp only [B10,A1 h,A3];rw [S7 (by omega)];rfl
  | k+1,j,st,hj,hg,hlen=>by
    rw [H5];have h:(j:Int)<(a.length:Int):=by omega
    have h0:(0:Int)<=(j:Int):=by omega
    have hx:=ha _ (F2 (show j<a.length by omega));have hr:rd (.int .u8) a (j:Int)=((a[j].toNat:Nat):Int):=by rw [C1m (show j<a.length by omega)];exact (A1U hx.1).symm
    simp only [B10,A0 h,A0 h0,A8];have e:=D0A a j a[j].toNat (by omega) hr (st.1:Int) (st.2.1:Int) st.2.2 8 st (by omega) hg (by omega) (by omega);rw [show ((8:Nat):Int)-1=7 from rfl] at e;rw [e];have hd:K2 (a.drop j)=R4 8 a[j].toNat++K2 (a.drop (j+1)):=by rw [J4 (show j<a.length by omega),A6Q]
    rw [hd,E13];have hg2:=D4W A0t (fun st x st' h e=>D4V h e) (R4 8 a[j].toNat) st hg;rw [A3S] at hg2;cases hs:(A2B A0t (R4 8 a[j].toNat) st).2 with
    | true=>simp only [L4,hs,A8]
    | false=>
      simp only [I6,K7,A3];exact D4a a ha hl k (j+1) _ (by omega) hg2.1 (by omega)
theorem E14(a:List Int)(ha:Byt a)(hl:a.length<=1000000000):C18 (codesT.zip lensT) a=some (strOf (unH a),()):=by
  have h257:(codesT.zip lensT).length=257:=by rw [A9s,B06,A1S];rfl
  simp only [C18,C6l,A0 h257,A8];have e:=D4a a ha hl a.length 0 (0,0,[]) (by omega) ⟨by simp,by simp⟩ (by simp;omega);have e':G1 (B10 a (codesT.zip lensT)) (0,0,0,[],())=_:=e;rw [e',P6];cases hs:(A2B A0t (K2 a) (0,0,[])).2 with
  | true=>simp only [L4,H8];rfl
  | false=>simp only [I6,K7,H8];rfl
theorem E6u{a b:List Int}(ha:Byt a)(hb:Byt b):((strOf a).toList == (strOf b).toList)=decide (a=b):=by
  by_cases h:a=b
  · subst h;simp
  · rw [A1 h]
    cases hq:((strOf a).toList == (strOf b).toList) with
    | false=>rfl
    | true=>exact absurd (E6b ha hb (by simpa using hq)) h
def A5j(a:List Int):X0×Bool×Unit:=if C5a a=true then (strOf (unH a),true,()) else (⟨#[]⟩,false,())
theorem E15(a:List Int)(ha:Byt a)(hl:a.length<=500000000):C1A a=some (A5j a):=by
  have hz:(strOf (unH a)).size<=1000000000000:=by rw [B72];have:=E5R a;omega
  have hu:=E5R a;simp only [C1A,C6m,D8m,E14 a ha (by omega),bO];rw [E6i _ [] (by simp) (by rw [B72];omega)];simp only [bO,F6,B8m,B8l];rw [E6u (D4R _).1 ha];have h:=(E9m a ha).1;unfold A5j;by_cases hq:C5a a=true
  · rw [A7 hq,A0 (h.2 hq)];rfl
  · rw [A4 hq,A1 (fun e=>hq (h.1 e))];rfl
set_option maxRecDepth 100000
def byN(b:List Int)(p:Nat):Nat:=(b.getD p 0).toNat
def gpN(b:List Int)(p n i:Nat):Nat:=n+byN b p % 128*2 ^ (7*i)
def gpL(b:List Int):Nat->Nat->Nat->Nat->Int×Int×Bool×Unit
  | 0,_,_,_=>(0,0,false,())
  | k+1,p,n,i=>if p<b.length then (if byN b p<128 then (if gpN b p n i>16777216 then (0,0,false,()) else ((gpN b p n i:Int),((p+1:Nat):Int),true,())) else gpL b k (p+1) (gpN b p n i) (i+1)) else (0,0,false,())
def C8(b:List Int)(p m:Nat):Int×Int×Bool×Unit:=
  if p<b.length then (if byN b p % 2 ^ m<2 ^ m-1 then (((byN b p % 2 ^ m:Nat):Int),((p+1:Nat):Int),true,()) else gpL b 4 (p+1) (byN b p % 2 ^ m) 0) else (0,0,false,())
theorem B5F{b:List Int}(hb:Byt b){p:Nat}(h:p<b.length):rd (.int .u8) b (p:Int)=(byN b p:Int)/\byN b p<256:=by
  have h1:=D4B hb p;have e:rd (.int .u8) b (p:Int)=b.getD p 0:=by simp [rd,zd]
  refine ⟨e.trans (show b.getD p 0=(((b.getD p 0).toNat:Nat):Int) by omega),?_⟩;unfold byN;omega
theorem E5S(b:List Int):∀ k p n i,(gpL b k p n i).2.2.1=true->0<=(gpL b k p n i).1/\(gpL b k p n i).1<=16777216/\(p:Int)<(gpL b k p n i).2.1/\(gpL b k p n i).2.1<=b.length
  | 0,_,_,_,h=>by cases h
  | k+1,p,n,i,h=>by
    unfold gpL at h ⊢;by_cases h1:p<b.length
    · rw [A7 h1] at h ⊢
      by_cases h2:byN b p<128
      · rw [A7 h2] at h ⊢
        by_cases h3:gpN b p n i>16777216
        · rw [A7 h3] at h;cases h
        · rw [A4 h3]
          simp only [];omega
      · rw [A4 h2] at h ⊢
        have:=E5S b k _ _ _ h;omega
    · rw [A4 h1] at h;cases h
theorem A2f(b:List Int)(p m:Nat)(hm:m<=8)(h:(C8 b p m).2.2.1=true):0<=(C8 b p m).1/\(C8 b p m).1<=16777216/\(p:Int)<(C8 b p m).2.1/\(C8 b p m).2.1<=b.length:=by
  unfold C8 at h ⊢;by_cases h1:p<b.length
  · rw [A7 h1] at h ⊢
    by_cases h2:byN b p % 2 ^ m<2 ^ m-1
    · rw [A7 h2]
      have:2 ^ m<=2 ^ 8:=D4Q hm;simp only [];omega
    · rw [A4 h2] at h ⊢
      have:=E5S b _ _ _ _ h;omega
  · rw [A4 h1] at h;cases h
theorem D8v{x m:Nat}(hx:x<256)(hm:m<=8):Q4 .i64 (x:Int) ((2 ^ m-1:Nat):Int)=((x % 2 ^ m:Nat):Int):=by
  have:2 ^ m<=2 ^ 8:=D4Q hm;rw [C4A (by omega) (by omega),A20]
theorem F2E{x:Nat}(hx:x<256):Q4 .i64 (x:Int) 127=((x % 128:Nat):Int):=D8v (m:=7) hx (by omega)
theorem E9r{b:List Int}{p n i:Nat}(hi:i<4)(hn:n<=255+128 ^ i):gpN b p n i<=255+128 ^ (i+1)/\byN b p % 128*2 ^ (7*i)<=268435456:=by
  have e:2 ^ (7*i)=128 ^ i:=by rw [Nat.pow_mul]
  have h1:byN b p % 128<128:=A4l _ (by omega);have h2:byN b p % 128*128 ^ i<=127*128 ^ i:=H1 _ (by omega);have h3:128 ^ (i+1)=128 ^ i*128:=A5v ..;have h4:128 ^ i<=128 ^ 3:=A10 (by omega) (by omega);unfold gpN;rw [e];omega
theorem F2F{b:List Int}(hb:Byt b)(hl:b.length<=500000000):∀ (k p n i:Nat),k+i=4->n<=255+128 ^ i->p<=2000000000->
    (H8 (G1 (A61 b) ((p:Int),(n:Int),(i:Int),())) fun (m3:Unit)=>some (0,0,false,()))=some (gpL b k p n i)
  | 0,p,n,i,hk,hn,hp=>by
    have h:¬ (i:Int)<4:=by omega
    rw [H5];simp only [A61,A1 h,A3,H8,gpL]
  | k+1,p,n,i,hk,hn,hp=>by
    have h:(i:Int)<4:=by omega
    rw [H5];by_cases h1:p<b.length
    · have d1:(p:Int)<(b.length:Int):=by omega
      have d2:(0:Int)<=(p:Int):=by omega
      obtain ⟨e1,e2⟩:=B5F hb h1;have hg:=E9r (b:=b) (p:=p) (show i<4 by omega) hn;have h5:128 ^ (i+1)<=128 ^ 4:=A10 (by omega) (by omega);have e3:i64.wrap (byN b p:Int)=(byN b p:Int):=w64 (by omega) (by omega);have e4:i64.wrap (7*(i:Int))=((7*i:Nat):Int):=by rw [w64 (by omega) (by omega)];omega
      have e5:=E10 (v:=byN b p % 128) (m:=7*i) (by omega) (by omega);have e6:i64.wrap ((n:Int)+((byN b p % 128*2 ^ (7*i):Nat):Int))=(gpN b p n i:Int):=by
        have e0:(n:Int)+((byN b p % 128*2 ^ (7*i):Nat):Int)=((gpN b p n i:Nat):Int):=by unfold gpN;omega
        rw [e0];exact D8h (by omega)
      have e7:i64.wrap ((p:Int)+1)=((p+1:Nat):Int):=by rw [w64 (by omega) (by omega)];omega
      have e8:i64.wrap ((i:Int)+1)=((i+1:Nat):Int):=by rw [w64 (by omega) (by omega)];omega
      simp only [A61,A0 h,A0 d1,A0 d2,A8,bSl,A1 (u64_nonneg _),A3,e1,e3,F2E e2,e4,e5,e6,e7,e8,gpL,A7 h1];by_cases h2:byN b p<128
      · rw [A0 (show (byN b p:Int)<128 by omega),A7 h2]
        by_cases h3:gpN b p n i>16777216
        · rw [A0 (show (gpN b p n i:Int)>16777216 by omega),A7 h3];rfl
        · rw [A1 (show ¬ (gpN b p n i:Int)>16777216 by omega),A4 h3];rfl
      · rw [A1 (show ¬ (byN b p:Int)<128 by omega),A4 h2]
        exact F2F hb hl k (p+1) _ (i+1) (by omega) hg.1 (by omega)
    · have d1:¬ (p:Int)<(b.length:Int):=by omega
      simp only [A61,A0 h,A1 d1,A8,A3,H8,gpL,A4 h1]
theorem F2G{b:List Int}(hb:Byt b)(hl:b.length<=500000000)(a:Nat)(ha:a<=1000000000):∀ (k n i:Nat),k+i=4->n<=255+128 ^ i->
    (H8 (G1 (A62 (a:Int) b) ((n:Int),(i:Int),())) fun (m3:Unit)=>some (0,0,false,()))=some (gpL b k (a+1+i) n i)
  | 0,n,i,hk,hn=>by
    have h:¬ (i:Int)<4:=by omega
    rw [H5];simp only [A62,A1 h,A3,H8,gpL]
  | k+1,n,i,hk,hn=>by
    have h:(i:Int)<4:=by omega
    have e0:i64.wrap (i64.wrap ((a:Int)+1)+(i:Int))=((a+1+i:Nat):Int):=by rw [w64 (n:=(a:Int)+1) (by omega) (by omega),w64 (by omega) (by omega)];omega
    have e0':i64.wrap (i64.wrap ((a:Int)+2)+(i:Int))=((a+1+i+1:Nat):Int):=by rw [w64 (n:=(a:Int)+2) (by omega) (by omega),w64 (by omega) (by omega)];omega
    rw [H5];by_cases h1:a+1+i<b.length
    · have d1:((a+1+i:Nat):Int)<(b.length:Int):=by omega
      have d2:(0:Int)<=((a+1+i:Nat):Int):=by omega
      obtain ⟨e1,e2⟩:=B5F hb h1;have hg:=E9r (b:=b) (p:=a+1+i) (show i<4 by omega) hn;have h5:128 ^ (i+1)<=128 ^ 4:=A10 (by omega) (by omega);have e3:i64.wrap (byN b (a+1+i):Int)=(byN b (a+1+i):Int):=w64 (by omega) (by omega);have e4:i64.wrap (7*(i:Int))=((7*i:Nat):Int):=by rw [w64 (by omega) (by omega)];omega
      have e5:=E10 (v:=byN b (a+1+i) % 128) (m:=7*i) (by omega) (by omega);have e6:i64.wrap ((n:Int)+((byN b (a+1+i) % 128*2 ^ (7*i):Nat):Int))=(gpN b (a+1+i) n i:Int):=by
        have e0:(n:Int)+((byN b (a+1+i) % 128*2 ^ (7*i):Nat):Int)=((gpN b (a+1+i) n i:Nat):Int):=by unfold gpN;omega
        rw [e0];exact D8h (by omega)
      have e8:i64.wrap ((i:Int)+1)=((i+1:Nat):Int):=by rw [w64 (by omega) (by omega)];omega
      simp only [A62,e0,e0',A0 h,A0 d1,A0 d2,A8,bSl,A1 (u64_nonneg _),A3,e1,e3,F2E e2,e4,e5,e6,e8,gpL,A7 h1];by_cases h2:byN b (a+1+i)<128
      · rw [A0 (show (byN b (a+1+i):Int)<128 by omega),A7 h2]
        by_cases h3:gpN b (a+1+i) n i>16777216
        · rw [A0 (show (gpN b (a+1+i) n i:Int)>16777216 by omega),A7 h3];rfl
        · rw [A1 (show ¬ (gpN b (a+1+i) n i:Int)>16777216 by omega),A4 h3];rfl
      · rw [A1 (show ¬ (byN b (a+1+i):Int)<128 by omega),A4 h2]
        exact F2G hb hl a ha k _ (i+1) (by omega) hg.1
    · have d1:¬ ((a+1+i:Nat):Int)<(b.length:Int):=by omega
      simp only [A62,e0,A0 h,A1 d1,A8,A3,H8,gpL,A4 h1]
theorem C4C{b:List Int}(hb:Byt b)(hl:b.length<=500000000)(p m:Nat)(hp:p<=1000000000)(hm:1<=m/\m<=8):A9D b (p:Int) (m:Int)=some (C8 b p m):=by
  have d1:decide ((1:Int)<=(m:Int)/\(m:Int)<=8)=true:=A0 (by omega);have e1:i64.wrap ((b.length:Int)-1)=(b.length:Int)-1:=w64 (by omega) (by omega);simp only [A9D,B8k,S3,bO,d1,C3,A3,e1];unfold C8;by_cases h1:p<b.length
  · have d2:decide ((0:Int)<=(p:Int)/\(p:Int)<=(b.length:Int)-1)=true:=A0 (by omega)
    have d3:(p:Int)<(b.length:Int):=by omega
    obtain ⟨q1,q2⟩:=B5F hb h1;have e2:=C8i (m:=m) (by omega);have e3:i64.wrap (byN b p:Int)=(byN b p:Int):=w64 (by omega) (by omega);have e7:i64.wrap ((p:Int)+1)=((p+1:Nat):Int):=by rw [w64 (by omega) (by omega)];omega
    have h8:byN b p % 2 ^ m<=255:=by have:=Nat.mod_le (byN b p) (2 ^ m);omega
    simp only [d2,C3,A3,bSl,A1 (u64_nonneg _),A0 (show (0:Int)<=(p:Int) by omega),A0 d3,A8,q1,e2,e3,e7,D8v q2 hm.2,A7 h1];by_cases h2:byN b p % 2 ^ m<2 ^ m-1
    · rw [A0 (show ((byN b p % 2 ^ m:Nat):Int)<((2 ^ m-1:Nat):Int) by omega),A7 h2];rfl
    · rw [A1 (show ¬ ((byN b p % 2 ^ m:Nat):Int)<((2 ^ m-1:Nat):Int) by omega),A4 h2]
      exact F2F hb hl 4 (p+1) _ 0 (by omega) (by omega) (by omega)
  · have d2:decide ((0:Int)<=(p:Int)/\(p:Int)<=(b.length:Int)-1)=false:=A1 (by omega)
    simp only [d2,J3,A8,bSr,A4 h1]
theorem B1a{b:List Int}(hb:Byt b)(hl:b.length<=500000000)(p m:Nat)(hp:p<=1000000000)(hm:1<=m/\m<=8):A4c b (p:Int) (m:Int)=some (C8 b p m):=by
  have d1:decide ((1:Int)<=(m:Int)/\(m:Int)<=8)=true:=A0 (by omega);have e1:i64.wrap ((b.length:Int)-1)=(b.length:Int)-1:=w64 (by omega) (by omega);simp only [A4c,B8w,V6,bO,d1,C3,A3,e1];unfold C8;by_cases h1:p<b.length
  · have d2:decide ((0:Int)<=(p:Int)/\(p:Int)<=(b.length:Int)-1)=true:=A0 (by omega)
    have d3:(p:Int)<(b.length:Int):=by omega
    obtain ⟨q1,q2⟩:=B5F hb h1;have e2:=C8i (m:=m) (by omega);have e3:i64.wrap (byN b p:Int)=(byN b p:Int):=w64 (by omega) (by omega);have e7:i64.wrap ((p:Int)+1)=((p+1:Nat):Int):=by rw [w64 (by omega) (by omega)];omega
    have h8:byN b p % 2 ^ m<=255:=by have:=Nat.mod_le (byN b p) (2 ^ m);omega
    simp only [d2,C3,A3,bSl,A1 (u64_nonneg _),A0 (show (0:Int)<=(p:Int) by omega),A0 d3,A8,q1,e2,e3,e7,D8v q2 hm.2,A7 h1];by_cases h2:byN b p % 2 ^ m<2 ^ m-1
    · rw [A0 (show ((byN b p % 2 ^ m:Nat):Int)<((2 ^ m-1:Nat):Int) by omega),A7 h2];rfl
    · rw [A1 (show ¬ ((byN b p % 2 ^ m:Nat):Int)<((2 ^ m-1:Nat):Int) by omega),A4 h2]
      exact F2G hb hl p hp 4 _ 0 (by omega) (by omega)
  · have d2:decide ((0:Int)<=(p:Int)/\(p:Int)<=(b.length:Int)-1)=false:=A1 (by omega)
    simp only [d2,J3,A8,bSr,A4 h1]
def B2H(b:List Int)(p n:Nat):List Int:=(b.take (p+n)).drop p
def N4(b:List Int)(p:Nat):X0×Int×Bool×Unit:=
  if (C8 b p 7).2.2.1=false then (⟨#[]⟩,0,false,()) else if (C8 b p 7).1>4000 then (⟨#[]⟩,0,false,()) else if (C8 b p 7).1>(b.length:Int)-(C8 b p 7).2.1 then (⟨#[]⟩,0,false,())
  else if byN b p<128 then (strOf (B2H b (C8 b p 7).2.1.toNat (C8 b p 7).1.toNat),(C8 b p 7).2.1+(C8 b p 7).1,true,())
  else if (A5j (B2H b (C8 b p 7).2.1.toNat (C8 b p 7).1.toNat)).2.1=false then (⟨#[]⟩,0,false,())
  else if (((A5j (B2H b (C8 b p 7).2.1.toNat (C8 b p 7).1.toNat)).1.size:Int)>4000) then (⟨#[]⟩,0,false,())
  else ((A5j (B2H b (C8 b p 7).2.1.toNat (C8 b p 7).1.toNat)).1,(C8 b p 7).2.1+(C8 b p 7).1,true,())
theorem D7g{b:List Int}(hb:Byt b)(p n:Nat):Byt (B2H b p n):=B73 (C01 hb _) _
theorem D7h(b:List Int)(p n:Nat):(B2H b p n).length<=b.length:=by simp [B2H];omega
theorem A8H{b:List Int}(p:Nat)(h:(N4 b p).2.2.1=true):(N4 b p).1.size<=4000/\(p:Int)<(N4 b p).2.1/\(N4 b p).2.1<=b.length:=by
  unfold N4 at h ⊢;by_cases h1:(C8 b p 7).2.2.1=false
  · rw [A7 h1] at h;cases h
  have hr:=A2f b p 7 (by omega) (by simpa using h1);rw [A4 h1] at h ⊢;by_cases h2:(C8 b p 7).1>4000
  · rw [A7 h2] at h;cases h
  rw [A4 h2] at h ⊢;by_cases h3:(C8 b p 7).1>(b.length:Int)-(C8 b p 7).2.1
  · rw [A7 h3] at h;cases h
  rw [A4 h3] at h ⊢;by_cases h4:byN b p<128
  · rw [A7 h4]
    refine ⟨?_,by simp only;omega,by simp only;omega⟩;rw [B72];simp only [B2H,D4,B5];omega
  rw [A4 h4] at h ⊢;by_cases h5:(A5j (B2H b (C8 b p 7).2.1.toNat (C8 b p 7).1.toNat)).2.1=false
  · rw [A7 h5] at h;cases h
  rw [A4 h5] at h ⊢;by_cases h6:(((A5j (B2H b (C8 b p 7).2.1.toNat (C8 b p 7).1.toNat)).1.size:Int)>4000)
  · rw [A7 h6] at h;cases h
  rw [A4 h6];refine ⟨by simp only;omega,by simp only;omega,by simp only;omega⟩
theorem C4D{b:List Int}(hb:Byt b)(hl:b.length<=500000000)(p:Nat)(hp:p<=1000000000):B3k b (p:Int)=some (N4 b p):=by
  have e0:=C4C hb hl p 7 hp (by omega);rw [show ((7:Nat):Int)=7 from rfl] at e0;simp only [B3k,B8n,e0,bO];unfold N4;by_cases h1:(C8 b p 7).2.2.1=false
  · rw [A7 h1,h1];rfl
  have h1':(C8 b p 7).2.2.1=true:=by simpa using h1
  obtain ⟨r1,r2,r3,r4⟩:=A2f b p 7 (by omega) h1';rw [A4 h1,h1',w64 (n:=(b.length:Int)-(C8 b p 7).2.1) (by omega) (by omega),w64 (n:=(C8 b p 7).2.1+(C8 b p 7).1) (by omega) (by omega)];simp only [C3,A3];by_cases h2:(C8 b p 7).1>4000
  · rw [A7 h2,A0 h2];rfl
  rw [A4 h2,A1 h2];by_cases h3:(C8 b p 7).1>(b.length:Int)-(C8 b p 7).2.1
  · rw [A7 h3,A0 h3];rfl
  obtain ⟨q1,q2⟩:=B5F hb (show p<b.length by omega);have e3:((C8 b p 7).2.1+(C8 b p 7).1).toNat=(C8 b p 7).2.1.toNat+(C8 b p 7).1.toNat:=by omega
  rw [A4 h3,A1 h3];simp only [A3,bSl];rw [A0 (show (0:Int)<=(C8 b p 7).2.1 by omega),A0 (show (C8 b p 7).2.1<=(C8 b p 7).2.1+(C8 b p 7).1 by omega),A0 (show (C8 b p 7).2.1+(C8 b p 7).1<=(b.length:Int) by omega),A0 (show (0:Int)<=(p:Int) by omega),A0 (show (p:Int)<(b.length:Int) by omega),q1,e3];simp only [A8];rw [show ((b.take ((C8 b p 7).2.1.toNat+(C8 b p 7).1.toNat)).drop (C8 b p 7).2.1.toNat)=B2H b (C8 b p 7).2.1.toNat (C8 b p 7).1.toNat from rfl,E15 _ (D7g hb _ _) (A5q (D7h _ _ _) hl)];simp only [bO];by_cases h4:byN b p<128
  · rw [A7 h4,A0 (show (byN b p:Int)<128 by omega)];rfl
  rw [A4 h4,A1 (show ¬ (byN b p:Int)<128 by omega)];simp only [A3];by_cases h5:(A5j (B2H b (C8 b p 7).2.1.toNat (C8 b p 7).1.toNat)).2.1=false
  · rw [A7 h5,h5];rfl
  rw [A4 h5,show (A5j (B2H b (C8 b p 7).2.1.toNat (C8 b p 7).1.toNat)).2.1=true by simpa using h5];by_cases h6:(((A5j (B2H b (C8 b p 7).2.1.toNat (C8 b p 7).1.toNat)).1.size:Int)>4000)
  · rw [A7 h6,A0 h6];rfl
  · rw [A4 h6,A1 h6];rfl
set_option maxRecDepth 100000
abbrev noF:B2:=(⟨#[]⟩,⟨#[]⟩)
noncomputable def A2C(t:D3)(i:Int):B2×Bool×Unit:=
  if i<=61 then (if 1<=i then (rd C1 firstT (i-1),true,()) else (noF,false,())) else if i-61>(t.2.length:Int) then (noF,false,()) else (rd C1 t.2 (i-62),true,())
theorem E5T:∀ {fs:List B2} {f:B2},f∈fs->ofF f<=szT fs
  | [],_,h=>by cases h
  | x::fs,f,h=>by
    have h2:=A35 fs;have h3:=C1p x;simp only [szT];rcases C2.1 h with rfl | h
    · omega
    · have:=E5T h;omega
theorem E9s(xs:List B2)(i:Int):rd C1 xs i∈xs\/rd C1 xs i=noF:=by
  unfold rd;rw [D5];by_cases h:i.toNat<xs.length
  · rw [C5 h];exact .inl (F2 h)
  · rw [B2K (by omega)];exact .inr rfl
theorem E16{t:D3}(ht:A07 t)(i:Int):(A2C t i).1.1.size<=10000/\(A2C t i).1.2.size<=10000:=by
  unfold A2C;have h0:noF.1.size<=10000/\noF.2.size<=10000:=⟨by decide,by decide⟩;split
  · split
    · rcases E9s firstT (i-1) with h | h
      · have:=D8 (C6.1 E6k _ h)
        simp only;omega
      · simp only [h];exact h0
    · exact h0
  · split
    · exact h0
    · rcases E9s t.2 (i-62) with h | h
      · have h1:=E5T h
        obtain ⟨_,h2,h3⟩:=ht;unfold ofF at h1;simp only;omega
      · simp only [h];exact h0
theorem D8w(t:D3)(i:Int)(hi:0<=i/\i<=100000000)(ht:t.2.length<=1000000):B7r t i=some (A2C t i):=by
  simp only [B7r,C3l,B6i,B6h,S3,D05,bO];unfold A2C;by_cases h1:i<=61
  · rw [A0 h1,A7 h1]
    by_cases h2:1<=i
    · rw [A0 ⟨h2,h1⟩,A7 h2,w64 (n:=i-1) (by omega) (by omega),A0 (show 0<=i-1 by omega),A0 (show i-1<(firstT.length:Int) by rw [B74];omega)]
      rfl
    · rw [A1 (show ¬ (1<=i/\i<=61) by omega),A4 h2]
      rfl
  · rw [A1 h1,A4 h1,w64 (n:=i-61) (by omega) (by omega),w64 (n:=i-61-1) (by omega) (by omega)]
    by_cases h2:i-61>(t.2.length:Int)
    · rw [A0 h2,A7 h2];rfl
    · rw [A1 h2,A4 h2,A0 (show 0<=i-61-1 by omega),A0 (show i-61-1<(t.2.length:Int) by omega),show i-61-1=i-62 by omega]
      rfl
theorem C8k(t:D3)(i:Int)(hi:0<=i/\i<=100000000)(ht:t.2.length<=1000000):B4m t i=some (A2C t i):=by
  simp only [B4m,C3t,B6t,B6s,V6,C8d,bO];unfold A2C;by_cases h1:i<=61
  · rw [A0 h1,A7 h1]
    by_cases h2:1<=i
    · rw [A0 ⟨h2,h1⟩,A7 h2,w64 (n:=i-1) (by omega) (by omega),A0 (show 0<=i-1 by omega),A0 (show i-1<(firstT.length:Int) by rw [B74];omega)]
      rfl
    · rw [A1 (show ¬ (1<=i/\i<=61) by omega),A4 h2]
      rfl
  · rw [A1 h1,A4 h1,w64 (n:=i-62) (by omega) (by omega)]
    by_cases h2:i-61>(t.2.length:Int)
    · rw [A0 (show i-62>=(t.2.length:Int) by omega),A7 h2];rfl
    · rw [A1 (show ¬ i-62>=(t.2.length:Int) by omega),A4 h2,A0 (show 0<=i-62 by omega),A0 (show i-62<(t.2.length:Int) by omega)]
      rfl
noncomputable def D90(t:D3)(f:B2):D3:=match A3L t f with
  | some x=>x.1
  | none=>t
noncomputable def D91(t:D3)(n:Int):D3:=match A29 (n,t.2) with
  | some x=>x.1
  | none=>t
theorem E5U{t:D3}(ht:A07 t){f:B2}(h1:f.1.size<=10000)(h2:f.2.size<=10000):A3L t f=some (D90 t f,())/\A07 (D90 t f):=by
  obtain ⟨q0,q1,q2⟩:=ht;obtain ⟨T,e,hT⟩:=F3K t f q0 (by omega) (by unfold ofF;omega);have hv:D90 t f=(t.1,T):=by unfold D90;rw [e]
  rw [hv];exact ⟨e,q0,q1,hT⟩
theorem E5V{t:D3}(ht:A07 t){n:Int}(h1:0<=n)(h2:n<=4096):A29 (n,t.2)=some (D91 t n,())/\A07 (D91 t n):=by
  obtain ⟨q0,q1,q2⟩:=ht;obtain ⟨k,_,_,e,hT⟩:=E9b n t.2 h1 (by omega) (by omega);have hv:D91 t n=(n,t.2.take k):=by unfold D91;rw [e]
  rw [hv];exact ⟨e,h1,h2,hT⟩
theorem E17{t:D3}(h:A07 t):A77 t=some (true,()):=by
  obtain ⟨h0,h1,h2⟩:=h;obtain ⟨m,fs⟩:=t;simp only at h0 h1 h2;have e:C0v (m,fs)=some (szT fs,()):=by
    have hl:=A35 fs;have:=O3 (B5e B2V (m,fs)) (fun k=>(szT (fs.take k),(k:Int),())) fs.length (szT fs,()) (fun k hk=>by
      have h3:(k:Int)<(fs.length:Int):=by omega
      have h4:(0:Int)<=(k:Int):=by omega
      have h5:=D4K fs hk;have h6:=D4J fs (k+1);have h7:=C1p fs[k];have h8:=A35 (fs.take k);have e1:rd C1 fs (k:Int)=fs[k]:=A6d (k:=C1) hk;simp only [B5e,A0 h3,A0 h4,A8,e1];rw [D1c _ (by omega)];simp only [A5];rw [w64 (n:=szT (fs.take k)+ofF fs[k]) (by omega) (by omega),w64 (n:=(k:Int)+1) (by omega) (by omega),h5];rfl) (by
      have h3:¬ ((fs.length:Nat):Int)<(fs.length:Int):=by omega
      simp only [B5e,A1 h3,A3];rw [F9 (by omega)])
    simp only [C0v,C6i];rw [show ((0:Int),(0:Int),())=(fun k:Nat=>(szT (fs.take k),(k:Int),())) 0 by simp [szT]];rw [this]
    try rfl
  simp only [A77,C3k,S3,A5,e];rw [A0 ⟨h0,h1⟩,A0 h2];rfl
noncomputable def A67(t:D3)(b:List Int)(p m:Nat):Int×B2×Nat:=
  if (C8 b p m).2.2.1=false then (1,noF,0)
  else if (C8 b p m).1=0 then
    (if (N4 b (C8 b p m).2.1.toNat).2.2.1=false then (1,noF,0)
     else if (N4 b (N4 b (C8 b p m).2.1.toNat).2.1.toNat).2.2.1=false then (1,noF,0)
     else (0,((N4 b (C8 b p m).2.1.toNat).1,(N4 b (N4 b (C8 b p m).2.1.toNat).2.1.toNat).1),(N4 b (N4 b (C8 b p m).2.1.toNat).2.1.toNat).2.1.toNat))
  else if (A2C t (C8 b p m).1).2.1=false then (2,noF,0)
  else if (N4 b (C8 b p m).2.1.toNat).2.2.1=false then (1,noF,0)
  else (0,((A2C t (C8 b p m).1).1.1,(N4 b (C8 b p m).2.1.toNat).1),(N4 b (C8 b p m).2.1.toNat).2.1.toNat)
theorem D2o{t:D3}(ht:A07 t){b:List Int}{p m:Nat}(hm:m<=8)(h:(A67 t b p m).1=0):(A67 t b p m).2.1.1.size<=10000/\(A67 t b p m).2.1.2.size<=10000/\p<(A67 t b p m).2.2/\(A67 t b p m).2.2<=b.length:=by
  unfold A67 at h ⊢;by_cases h1:(C8 b p m).2.2.1=false
  · rw [A7 h1] at h;cases h
  have r1:=A2f b p m hm (by simpa using h1);rw [A4 h1] at h ⊢;by_cases h2:(C8 b p m).1=0
  · rw [A7 h2] at h ⊢
    by_cases h3:(N4 b (C8 b p m).2.1.toNat).2.2.1=false
    · rw [A7 h3] at h;cases h
    rw [A4 h3] at h ⊢;have r2:=A8H (C8 b p m).2.1.toNat (by simpa using h3);by_cases h4:(N4 b (N4 b (C8 b p m).2.1.toNat).2.1.toNat).2.2.1=false
    · rw [A7 h4] at h;cases h
    rw [A4 h4];have r3:=A8H (N4 b (C8 b p m).2.1.toNat).2.1.toNat (by simpa using h4);simp only;omega
  · rw [A4 h2] at h ⊢
    by_cases h5:(A2C t (C8 b p m).1).2.1=false
    · rw [A7 h5] at h;cases h
    rw [A4 h5] at h ⊢;by_cases h3:(N4 b (C8 b p m).2.1.toNat).2.2.1=false
    · rw [A7 h3] at h;cases h
    rw [A4 h3];have r2:=A8H (C8 b p m).2.1.toNat (by simpa using h3);have r4:=E16 ht (C8 b p m).1;simp only;omega
section
variable {b:List Int} (hb:Byt b) (hl:b.length<=500000000)
include hb hl
theorem C4E(p m:Nat)(hp:p<=1000000000)(hm:1<=m/\m<=8)(t:D3)(l:List B2) :
    A0A (b,(p:Int),0,t,l) (m:Int)=some (if (C8 b p m).2.2.1=false then (0,(b,(p:Int),1,t,l),()) else ((C8 b p m).1,(b,(C8 b p m).2.1,0,t,l),())):=by
  simp only [A0A,A5c,C4C hb hl p m hp hm,bO];by_cases h1:(C8 b p m).2.2.1=false
  · rw [A7 h1,h1];rfl
  · rw [A4 h1,show (C8 b p m).2.2.1=true by simpa using h1];rfl
theorem C4F(p:Nat)(hp:p<=1000000000)(t:D3)(l:List B2) :
    A0r (b,(p:Int),0,t,l)=some (if (N4 b p).2.2.1=false then (⟨#[]⟩,(b,(p:Int),1,t,l),()) else ((N4 b p).1,(b,(N4 b p).2.1,0,t,l),())):=by
  simp only [A0r,A49,C4D hb hl p hp,bO];by_cases h1:(N4 b p).2.2.1=false
  · rw [A7 h1,h1];rfl
  · rw [A4 h1,show (N4 b p).2.2.1=true by simpa using h1];rfl
theorem D4b(p:Nat)(hp:p<=1000000000)(c:Int)(hc:c≠0)(t:D3)(l:List B2) :
    A0r (b,(p:Int),c,t,l)=some (⟨#[]⟩,(b,(p:Int),c,t,l),()):=by
  simp only [A0r,A49,C4D hb hl p hp,bO,L6,W8,A1 hc,J3,A8,A3]
theorem C78(p:Nat)(c:Int)(t:D3)(ht:A07 t)(l:List B2)(i:Int)(hi:0<=i/\i<=100000000) :
    U7 (b,(p:Int),c,t,l) i=some ((A2C t i).1,(if (A2C t i).2.1=false then (b,(p:Int),if c=0 then 2 else c,t,l) else (b,(p:Int),c,t,l)),()):=by
  have h:=A6t ht;simp only [U7,A6b,D8w t i hi (by omega),bO,L6,W8];by_cases h1:(A2C t i).2.1=false
  · rw [A7 h1,h1]
    by_cases hc:c=0
    · rw [A0 hc,A7 hc];rfl
    · rw [A1 hc,A4 hc];rfl
  · rw [A4 h1,show (A2C t i).2.1=true by simpa using h1];rfl
theorem E18(p:Nat)(c:Int)(hc:c≠0)(t:D3)(ht:A07 t)(l:List B2)(i:Int)(hi:0<=i/\i<=100000000) :
    U7 (b,(p:Int),c,t,l) i=some ((A2C t i).1,(b,(p:Int),c,t,l),()):=by
  rw [C78 hb hl p c t ht l i hi,A4 hc];split<;>rfl
theorem D92(p:Nat)(t:D3)(ht:A07 t)(l:List B2)(i:Int)(hi:0<=i/\i<=100000000) :
    U7 (b,(p:Int),0,t,l) i=some ((A2C t i).1,(b,(p:Int),(if (A2C t i).2.1=false then 2 else 0),t,l),()):=by
  rw [C78 hb hl p 0 t ht l i hi,A7 rfl];split<;>rfl
theorem C8l(p m:Nat)(hp:p<=1000000000)(hm:1<=m/\m<=8)(t:D3)(ht:A07 t)(l:List B2) :
    ∃ f q,A0b (b,(p:Int),0,t,l) (m:Int)=some (f,(b,q,(A67 t b p m).1,t,l),())/\((A67 t b p m).1=0->f=(A67 t b p m).2.1/\q=((A67 t b p m).2.2:Int)):=by
  simp only [A0b,A2a,C4E hb hl p m hp hm t l,bO];unfold A67;by_cases h1:(C8 b p m).2.2.1=false
  · rw [A7 h1,A7 h1]
    exact ⟨_,_,rfl,fun h=>by cases h⟩
  have r1:=A2f b p m hm.2 (by simpa using h1);have e1:(C8 b p m).2.1=(((C8 b p m).2.1.toNat:Nat):Int):=by omega
  rw [A4 h1,A4 h1];simp only [R8,C3,A3];by_cases h2:(C8 b p m).1=0
  · rw [A7 h2,A0 h2]
    simp only [A8];rw [e1,C4F hb hl _ (by omega) t l,E5];simp only [bO];by_cases h3:(N4 b (C8 b p m).2.1.toNat).2.2.1=false
    · rw [A7 h3,A7 h3]
      simp only [bSl];rw [D4b hb hl _ (by omega) 1 (by decide) t l];exact ⟨_,_,rfl,fun h=>by cases h⟩
    have r2:=A8H (C8 b p m).2.1.toNat (by simpa using h3);have e2:(N4 b (C8 b p m).2.1.toNat).2.1=(((N4 b (C8 b p m).2.1.toNat).2.1.toNat:Nat):Int):=by omega
    rw [A4 h3,A4 h3];simp only [bSl];rw [e2,C4F hb hl _ (by omega) t l,E5];simp only [bO];by_cases h4:(N4 b (N4 b (C8 b p m).2.1.toNat).2.1.toNat).2.2.1=false
    · rw [A7 h4,A7 h4]
      exact ⟨_,_,rfl,fun h=>by cases h⟩
    · have r3:=A8H (N4 b (C8 b p m).2.1.toNat).2.1.toNat (by simpa using h4)
      rw [A4 h4,A4 h4];exact ⟨_,_,rfl,fun _=>⟨rfl,by simp only;omega⟩⟩
  · rw [A4 h2,A1 h2]
    simp only [A3];rw [e1,C78 hb hl _ 0 t ht l _ (by omega),E5];simp only [bO];by_cases h5:(A2C t (C8 b p m).1).2.1=false
    · rw [A7 h5,A7 h5]
      simp only [bSl,L4];rw [D4b hb hl _ (by omega) 2 (by decide) t l];exact ⟨_,_,rfl,fun h=>by cases h⟩
    rw [A4 h5,A4 h5];simp only [bSl];rw [C4F hb hl _ (by omega) t l];simp only [bO];by_cases h3:(N4 b (C8 b p m).2.1.toNat).2.2.1=false
    · rw [A7 h3,A7 h3]
      exact ⟨_,_,rfl,fun h=>by cases h⟩
    · have r2:=A8H (C8 b p m).2.1.toNat (by simpa using h3)
      rw [A4 h3,A4 h3];exact ⟨_,_,rfl,fun _=>⟨rfl,by simp only;omega⟩⟩
end
set_option maxRecDepth 100000
abbrev RdT:=Int×D3×Nat×List B2
def B4r(t:D3)(p:Nat)(l:List B2)(f:B2):RdT:=(if 100<l.length+1 then 4 else 0,t,p,l ++ [f])
noncomputable def B4s(b:List Int)(most:Int)(t:D3)(p:Nat)(l:List B2):RdT:=
  if 128<=byN b p then
    (if (C8 b p 7).2.2.1=false then (1,t,p,l) else if (A2C t (C8 b p 7).1).2.1=false then (2,t,p,l) else B4r t (C8 b p 7).2.1.toNat l (A2C t (C8 b p 7).1).1)
  else if 64<=byN b p then (if (A67 t b p 6).1=0 then B4r (D90 t (A67 t b p 6).2.1) (A67 t b p 6).2.2 l (A67 t b p 6).2.1 else ((A67 t b p 6).1,t,p,l))
  else if 32<=byN b p then (if (C8 b p 5).2.2.1=false then (1,t,p,l) else if (C8 b p 5).1>most\/0<l.length then (3,t,p,l) else (0,D91 t (C8 b p 5).1,(C8 b p 5).2.1.toNat,l))
  else (if (A67 t b p 4).1=0 then B4r t (A67 t b p 4).2.2 l (A67 t b p 4).2.1 else ((A67 t b p 4).1,t,p,l))
def RdK(b:List Int)(t:D3)(p:Nat)(l:List B2):Prop:=A07 t/\p<=b.length/\l.length<=100/\∀ f∈l,f.1.size<=10000/\f.2.size<=10000
theorem D4c{b:List Int}{t:D3}{p p':Nat}{l:List B2}{f:B2}(ht:A07 t)(hp:p'<=b.length)(hlt:p<p')(hk:l.length<=100/\∀ f∈l,f.1.size<=10000/\f.2.size<=10000)(h1:f.1.size<=10000)(h2:f.2.size<=10000)(h:(B4r t p' l f).1=0) :
    RdK b (B4r t p' l f).2.1 (B4r t p' l f).2.2.1 (B4r t p' l f).2.2.2/\p<(B4r t p' l f).2.2.1:=by
  unfold B4r at h ⊢;by_cases h3:100<l.length+1
  · simp only [A7 h3] at h;cases h
  · refine ⟨⟨ht,hp,by simp only [A6,G7];omega,fun x hx=>?_⟩,hlt⟩
    rcases D0.1 hx with q | q
    · exact hk.2 x q
    · rcases B0.1 q with rfl
      exact ⟨h1,h2⟩
theorem D93{b:List Int}{most:Int}(hmost:most<=4096){t:D3}{p:Nat}{l:List B2}(hk:RdK b t p l)(h:(B4s b most t p l).1=0):RdK b (B4s b most t p l).2.1 (B4s b most t p l).2.2.1 (B4s b most t p l).2.2.2/\p<(B4s b most t p l).2.2.1:=by
  obtain ⟨ht,hp,hl⟩:=hk;unfold B4s at h ⊢;by_cases c1:128<=byN b p
  · rw [A7 c1] at h ⊢
    by_cases h1:(C8 b p 7).2.2.1=false
    · rw [A7 h1] at h;cases h
    rw [A4 h1] at h ⊢;have r1:=A2f b p 7 (by omega) (by simpa using h1);by_cases h2:(A2C t (C8 b p 7).1).2.1=false
    · rw [A7 h2] at h;cases h
    rw [A4 h2] at h ⊢;have r2:=E16 ht (C8 b p 7).1;exact D4c ht (by omega) (by omega) hl r2.1 r2.2 h
  rw [A4 c1] at h ⊢;by_cases c2:64<=byN b p
  · rw [A7 c2] at h ⊢
    by_cases h1:(A67 t b p 6).1=0
    · rw [A7 h1] at h ⊢
      obtain ⟨q1,q2,q3,q4⟩:=D2o ht (by omega) h1;exact D4c (E5U ht q1 q2).2 q4 q3 hl q1 q2 h
    · rw [A4 h1] at h;exact absurd h h1
  rw [A4 c2] at h ⊢;by_cases c3:32<=byN b p
  · rw [A7 c3] at h ⊢
    by_cases h1:(C8 b p 5).2.2.1=false
    · rw [A7 h1] at h;cases h
    rw [A4 h1] at h ⊢;have r1:=A2f b p 5 (by omega) (by simpa using h1);by_cases h2:(C8 b p 5).1>most\/0<l.length
    · rw [A7 h2] at h;cases h
    rw [A4 h2];exact ⟨⟨(E5V ht r1.1 (by omega)).2,by simp only;omega,hl⟩,by simp only;omega⟩
  rw [A4 c3] at h ⊢;by_cases h1:(A67 t b p 4).1=0
  · rw [A7 h1] at h ⊢
    obtain ⟨q1,q2,q3,q4⟩:=D2o ht (by omega) h1;exact D4c ht q4 q3 hl q1 q2 h
  · rw [A4 h1] at h;exact absurd h h1
theorem E38(t:D3)(p:Nat)(l:List B2)(f:B2):(if 100<l.length+1 then (if (0:Int)=0 then 4 else 0) else 0)=(B4r t p l f).1:=by
  unfold B4r;by_cases h:100<l.length+1
  · rw [A7 h,A7 rfl]
    simp only [A7 h]
  · rw [A4 h]
    simp only [A4 h]
theorem F2H(l:List B2){c:Int}(h:c≠0):(if 100<l.length+1 then (if c=0 then 4 else c) else c)=c:=by
  rw [A4 h];split<;>rfl
theorem D4d(b:List Int)(q c:Int)(t:D3)(l:List B2)(f:B2)(hl:l.length<=1000) :
    (bif decide (l.length+([f]:List B2).length<=9223372036854775807) then bif decide ((l.length+([f]:List B2).length)*32<=140737488355328) then bif (decide (((l ++ [f]).length:Int)>100)) then A5 (L6 (b,(q,(c,(t,(l ++ [f]))))) 4) fun c63=>some (c63.1,()) else some ((b,(q,(c,(t,(l ++ [f]))))),()) else none else none) =
      some ((b,q,(if 100<l.length+1 then (if c=0 then 4 else c) else c),t,l ++ [f]),()):=by
  rw [E32 (by simp;omega)];by_cases h:100<l.length+1
  · rw [A0 (show ((l ++ [f]).length:Int)>100 by simp;omega),A7 h]
    simp only [A8,L6,W8];by_cases hc:c=0
    · rw [A0 hc,A7 hc];rfl
    · rw [A1 hc,A4 hc];rfl
  · rw [A1 (show ¬ ((l ++ [f]).length:Int)>100 by simp;omega),A4 h]
    rfl
theorem E19{t:D3}(ht:A07 t){n:Int}(h1:0<=n)(h2:n<=4096):C1C t n=some (D91 t n,()):=by
  have hl:=A6t ht;simp only [C1C,C6n,B5w t (by omega),S3,E17 ht,bO,A0 (show 0<=n/\n<=4096 from ⟨h1,h2⟩),C3,A3,bSl,(E5V ht h1 h2).1]
theorem E6v{b:List Int}(hb:Byt b)(hl:b.length<=500000000)(most:Int)(hmost:0<=most/\most<=4096)(t:D3)(p:Nat)(l:List B2)(hk:RdK b t p l)(hp:p<b.length) :
    ∃ q c t' l',R9 (b,(p:Int),0,t,l) most=some ((b,q,c,t',l'),())/\c=(B4s b most t p l).1/\((B4s b most t p l).1=0->q=((B4s b most t p l).2.2.1:Int)/\t' = (B4s b most t p l).2.1/\l' = (B4s b most t p l).2.2.2):=by
  obtain ⟨ht,_,hl1,hl2⟩:=hk;obtain ⟨q1,q2⟩:=B5F hb hp;have d1:decide ((0:Int)<=(p:Int))=true:=A0 (by omega);have d2:decide ((p:Int)<(b.length:Int))=true:=A0 (by omega);simp only [R9,A3s,d1,d2,A8,q1];unfold B4s;by_cases c1:128<=byN b p
  · rw [A0 (show (byN b p:Int)>=128 by omega),A7 c1]
    have e:=C4E hb hl p 7 (by omega) (by omega) t l;rw [show ((7:Nat):Int)=7 from rfl] at e;simp only [A8,e,bO];by_cases h1:(C8 b p 7).2.2.1=false
    · rw [A7 h1,A7 h1]
      simp only [];rw [E18 hb hl p 1 (by decide) t ht l 0 (by omega)];simp only [bO,bSl];rw [show ((A2C t 0).1.1,(A2C t 0).1.2)=(A2C t 0).1 from rfl,D4d b _ 1 t l _ (by omega)];exact ⟨_,_,_,_,rfl,by simp,fun h=>by cases h⟩
    have r1:=A2f b p 7 (by omega) (by simpa using h1);have e1:(C8 b p 7).2.1=(((C8 b p 7).2.1.toNat:Nat):Int):=by omega
    rw [A4 h1,A4 h1];simp only [];rw [e1,D92 hb hl _ t ht l _ (by omega),E5];simp only [bO,bSl];by_cases h2:(A2C t (C8 b p 7).1).2.1=false
    · rw [A7 h2,A7 h2]
      rw [show ((A2C t (C8 b p 7).1).1.1,(A2C t (C8 b p 7).1).1.2)=(A2C t (C8 b p 7).1).1 from rfl,D4d b _ 2 t l _ (by omega)];exact ⟨_,_,_,_,rfl,by simp,fun h=>by cases h⟩
    · rw [A4 h2,A4 h2]
      rw [show ((A2C t (C8 b p 7).1).1.1,(A2C t (C8 b p 7).1).1.2)=(A2C t (C8 b p 7).1).1 from rfl,D4d b _ 0 t l _ (by omega)];refine ⟨_,_,_,_,rfl,?_,fun h=>⟨?_,rfl,rfl⟩⟩
      · exact E38 ..
      · unfold B4r;rfl
  rw [A1 (show ¬ (byN b p:Int)>=128 by omega),A4 c1];simp only [A3];by_cases c2:64<=byN b p
  · rw [A0 (show (byN b p:Int)>=64 by omega),A7 c2]
    obtain ⟨f,q,e,e'⟩:=C8l hb hl p 6 (by omega) (by omega) t ht l;rw [show ((6:Nat):Int)=6 from rfl] at e;simp only [A8,e,bO];by_cases h1:(A67 t b p 6).1=0
    · obtain ⟨e1,e2⟩:=e' h1
      obtain ⟨s1,s2,s3,s4⟩:=D2o ht (by omega) h1;subst e1 e2;rw [A0 h1,A7 h1];simp only [A8,(E5U ht s1 s2).1,bO,bSl,h1];rw [show ((A67 t b p 6).2.1.1,(A67 t b p 6).2.1.2)=(A67 t b p 6).2.1 from rfl,D4d b _ 0 (D90 t (A67 t b p 6).2.1) l _ (by omega)];refine ⟨_,_,_,_,rfl,?_,fun h=>⟨?_,rfl,rfl⟩⟩
      · exact E38 ..
      · unfold B4r;rfl
    · rw [A1 h1,A4 h1]
      simp only [A3,bSl];rw [show (f.1,f.2)=f from rfl,D4d b _ _ t l _ (by omega)];refine ⟨_,_,_,_,rfl,?_,fun h=>absurd h h1⟩;exact F2H l h1
  rw [A1 (show ¬ (byN b p:Int)>=64 by omega),A4 c2];simp only [A3];by_cases c3:32<=byN b p
  · rw [A0 (show (byN b p:Int)>=32 by omega),A7 c3]
    have e:=C4E hb hl p 5 (by omega) (by omega) t l;rw [show ((5:Nat):Int)=5 from rfl] at e;simp only [A8,A2t,A2s,e,bO];by_cases h1:(C8 b p 5).2.2.1=false
    · rw [A7 h1,A7 h1]
      simp only [A1 (show ¬ (0:Int)>most by omega),A3,L6,W8,bO,show decide ((1:Int)=0)=false from rfl];cases decide ((l.length:Int)>0)<;>exact ⟨_,_,_,_,rfl,rfl,fun h=>by cases h⟩
    have r1:=A2f b p 5 (by omega) (by simpa using h1);rw [A4 h1,A4 h1];simp only [L6,W8,bO,R8,A8];by_cases h2:(C8 b p 5).1>most
    · rw [A0 h2,A7 (.inl h2)]
      exact ⟨_,_,_,_,rfl,rfl,fun h=>by cases h⟩
    · rw [A1 h2]
      simp only [A3];by_cases h3:0<l.length
      · rw [A0 (show (l.length:Int)>0 by omega),A7 (.inr h3)]
        exact ⟨_,_,_,_,rfl,rfl,fun h=>by cases h⟩
      · rw [A1 (show ¬ (l.length:Int)>0 by omega),A4 (by omega)]
        simp only [A3,bO,R8,A8,E19 ht r1.1 (show (C8 b p 5).1<=4096 by omega),bSr];exact ⟨_,_,_,_,rfl,rfl,fun _=>⟨by omega,rfl,rfl⟩⟩
  rw [A1 (show ¬ (byN b p:Int)>=32 by omega),A4 c3];obtain ⟨f,q,e,e'⟩:=C8l hb hl p 4 (by omega) (by omega) t ht l;rw [show ((4:Nat):Int)=4 from rfl] at e;simp only [A3,e,bO,bSl];by_cases h1:(A67 t b p 4).1=0
  · obtain ⟨e1,e2⟩:=e' h1
    subst e1 e2;rw [A7 h1];simp only [h1];rw [show ((A67 t b p 4).2.1.1,(A67 t b p 4).2.1.2)=(A67 t b p 4).2.1 from rfl,D4d b _ 0 t l _ (by omega)];refine ⟨_,_,_,_,rfl,?_,fun h=>⟨?_,rfl,rfl⟩⟩
    · exact E38 ..
    · unfold B4r;rfl
  · rw [A4 h1,show (f.1,f.2)=f from rfl,D4d b _ _ t l _ (by omega)]
    refine ⟨_,_,_,_,rfl,?_,fun h=>absurd h h1⟩;exact F2H l h1
noncomputable def gfM(b:List Int)(most:Int):Nat->D3->Nat->List B2->Int×D3×List B2
  | 0,t,p,l=>(0,t,l)
  | k+1,t,p,l=>if p<b.length then (if (B4s b most t p l).1=0 then gfM b most k (B4s b most t p l).2.1 (B4s b most t p l).2.2.1 (B4s b most t p l).2.2.2 else ((B4s b most t p l).1,t,l)) else (0,t,l)
theorem E39{b:List Int}{most:Int}(hmost:most<=4096):∀ (k:Nat) (t:D3) (p:Nat) (l:List B2),RdK b t p l->(gfM b most k t p l).1=0->A07 (gfM b most k t p l).2.1/\(gfM b most k t p l).2.2.length<=100/\∀ f∈(gfM b most k t p l).2.2,f.1.size<=10000/\f.2.size<=10000
  | 0,t,p,l,hk,_=>⟨hk.1,hk.2.2⟩
  | k+1,t,p,l,hk,h=>by
    unfold gfM at h ⊢;by_cases h1:p<b.length
    · rw [A7 h1] at h ⊢
      by_cases h2:(B4s b most t p l).1=0
      · rw [A7 h2] at h ⊢
        exact E39 hmost k _ _ _ (D93 hmost hk h2).1 h
      · rw [A4 h2] at h;exact absurd h h2
    · rw [A4 h1];exact ⟨hk.1,hk.2.2⟩
theorem D7i{b:List Int}(hb:Byt b)(hl:b.length<=500000000)(most:Int)(hmost:0<=most/\most<=4096):∀ (k:Nat) (t:D3) (p:Nat) (l:List B2),RdK b t p l->b.length<=p+k->
    ∃ q t1 t2 l',G1 (A41 R9 b most) (b,(p:Int),0,t.1,t.2,l,())=some (b,q,(gfM b most k t p l).1,t1,t2,l',())/\((gfM b most k t p l).1=0->(t1,t2)=(gfM b most k t p l).2.1/\l' = (gfM b most k t p l).2.2)
  | 0,t,p,l,hk,hle=>by
    have h1:¬ (p:Int)<(b.length:Int):=by omega
    rw [H5];simp only [A41,R8,A8,A1 h1,A3];exact ⟨_,_,_,_,rfl,fun _=>⟨rfl,rfl⟩⟩
  | k+1,t,p,l,hk,hle=>by
    rw [H5];unfold gfM;by_cases h1:p<b.length
    · obtain ⟨q,c,t',l',e,hc,hz⟩:=E6v hb hl most hmost t p l hk h1
      have e':R9 (b,(p:Int),0,(t.1,t.2),l) most=some ((b,q,c,t',l'),()):=e;simp only [A41,R8,A8,A0 (show (p:Int)<(b.length:Int) by omega),e',bO];rw [A7 h1];by_cases h2:(B4s b most t p l).1=0
      · obtain ⟨z1,z2,z3⟩:=hz h2
        subst z1 z2 z3;rw [A7 h2,hc,h2];have hk2:=D93 hmost.2 hk h2;exact D7i hb hl most hmost k _ _ _ hk2.1 (by omega)
      · rw [A4 h2,H5]
        have hc0:¬ c=0:=by rw [hc];exact h2
        simp only [A1 hc0,A3,A41];rw [hc];exact ⟨_,_,_,_,rfl,fun h=>absurd h h2⟩
    · have h1':¬ (p:Int)<(b.length:Int):=by omega
      rw [A4 h1];simp only [A41,R8,A8,A1 h1',A3];exact ⟨_,_,_,_,rfl,fun _=>⟨rfl,rfl⟩⟩
noncomputable def P1(t:D3)(most:Int)(b:List Int):List B2×D3×Int×Unit:=
  if (gfM b most b.length t 0 []).1=0 then ((gfM b most b.length t 0 []).2.2,(gfM b most b.length t 0 []).2.1,0,()) else ([],t,(gfM b most b.length t 0 []).1,())
theorem C79{t:D3}(ht:A07 t){most:Int}(hmost:most<=4096)(b:List Int):A07 (P1 t most b).2.1/\(P1 t most b).1.length<=100/\∀ f∈(P1 t most b).1,f.1.size<=10000/\f.2.size<=10000:=by
  unfold P1;by_cases h:(gfM b most b.length t 0 []).1=0
  · rw [A7 h]
    exact E39 hmost b.length t 0 [] ⟨ht,by omega,by simp,fun f hf=>by cases hf⟩ h
  · rw [A4 h]
    exact ⟨ht,by simp,fun f hf=>by cases hf⟩
theorem D4e{t:D3}(ht:A07 t){b:List Int}(hb:Byt b)(hl:b.length<=500000000){most:Int}(hmost:0<=most/\most<=4096):B3o t most b=some (P1 t most b):=by
  have htl:=A6t ht;obtain ⟨q,t1,t2,l',e,hz⟩:=D7i hb hl most hmost b.length t 0 [] ⟨ht,by omega,by simp,fun f hf=>by cases hf⟩ (by omega);rw [show ((0:Nat):Int)=0 from rfl] at e;simp only [B3o,B8o,S3,A0 hmost,E17 ht,B5w t (by omega),bO,C3,A3,bSl,e];unfold P1;by_cases h:(gfM b most b.length t 0 []).1=0
  · obtain ⟨z1,z2⟩:=hz h
    rw [A7 h,h,<- z1,<- z2];rfl
  · rw [A4 h,A1 h]
    rfl
set_option maxRecDepth 100000
def nmA(l:List B2)(k:Nat):X0:=(rd C1 l (k:Int)).1
def V0(l:List B2)(name:X0):Nat->Nat
  | 0=>0
  | k+1=>V0 l name k+(if ((nmA l k).toList == name.toList)=true then 1 else 0)
def A1h(l:List B2)(name:X0):Nat->X0
  | 0=>⟨#[]⟩
  | k+1=>if ((nmA l k).toList == name.toList)=true then (if V0 l name k=0 then (rd C1 l (k:Int)).2 else A1h l name k) else A1h l name k
theorem D94(l:List B2)(name:X0):∀ k,V0 l name k<=k
  | 0=>B6 _
  | k+1=>by have:=D94 l name k;unfold V0;split<;>omega
theorem A5k(l:List B2)(name:X0)(hl:l.length<=1000000):U4 l name=some (A1h l name l.length,(V0 l name l.length:Int),()):=by
  have e:=O3 (A9F l name) (fun k=>(A1h l name k,(V0 l name k:Int),(k:Int),())) l.length (A1h l name l.length,(V0 l name l.length:Int),()) (fun k hk=>by
    have h1:(k:Int)<(l.length:Int):=by omega
    have h2:(0:Int)<=(k:Int):=by omega
    have h3:=D94 l name k;have w1:i64.wrap ((k:Int)+1)=((k+1:Nat):Int):=by rw [w64 (by omega) (by omega)];omega
    have w2:i64.wrap ((V0 l name k:Int)+1)=((V0 l name k+1:Nat):Int):=by rw [w64 (by omega) (by omega)];omega
    simp only [A9F,A0 h1,A0 h2,A8,w1,w2];simp only [A1h,V0];rw [show (rd C1 l (k:Int)).1=nmA l k from rfl];cases hq:((nmA l k).toList == name.toList) with
    | false=>simp only [A3,I6,K7,K6]
    | true=>
      simp only [A8,L4];by_cases h0:V0 l name k=0
      · rw [A0 (show (V0 l name k:Int)=0 by omega),A7 h0];rfl
      · rw [A1 (show ¬ (V0 l name k:Int)=0 by omega),A4 h0];rfl) (by
    have h1:¬ ((l.length:Nat):Int)<(l.length:Int):=by omega
    simp only [A9F,A1 h1,A3])
  simp only [U4,C3m];have e':G1 (A9F l name) ((⟨#[]⟩:X0),0,0,())=some (A1h l name l.length,(V0 l name l.length:Int),()):=e;rw [e'];rfl
theorem F2w{go:Nat->Bool}{n:Nat}{f:Int×Unit->Option ((Int×Unit)⊕(Unit⊕(Bool×Unit)))}(hs:∀ i:Nat,i<n->f ((i:Int),())=if go i then some (.inl (((i+1:Nat):Int),())) else some (.inr (.inr (false,()))))
    (he:f ((n:Int),())=some (.inr (.inl ()))) (g:Unit->Option (Bool×Unit)) (c:Bool) (hg:g ()=some (c,())):H8 (G1 f (0,())) g=some ((List.range n).all go&&c,()):=by
  obtain ⟨i,h1,h2,h3,h4⟩:=A4h f (fun i=>((i:Int),())) n (fun i=>if i<n then .inr (false,()) else .inl ()) go (fun i hi=>by
    simp only [A7 hi];exact hs i hi) (by simp only [A27,K7];exact he)
  have h4':G1 f (0,())=some (if i<n then .inr (false,()) else .inl ()):=h4;rw [h4'];by_cases hi:i<n
  · rw [A7 hi]
    have:(List.range n).all go=false:=by
      rw [A4Q];exact ⟨i,P7.2 hi,by simp [h3 hi]⟩
    simp [H8,this]
  · rw [A4 hi]
    have:(List.range n).all go=true:=by
      rw [C6];intro j hj;exact h2 j (by have:=P7.1 hj;omega)
    simp only [H8,this,hg,J5]
def C5b(s:X0)(i:Nat):Bool:=decide (65<=bt s (i:Int))&&decide (bt s (i:Int)<=90)
def C8m(s:X0):Bool:=(List.range s.size).all (fun i=>!C5b s i)&&!(s.toList == (⟨#[]⟩:X0).toList)
theorem E1A(s:X0)(h:s.size<=1000000000):B00 s=some (C8m s,()):=by
  simp only [B00,C6o];refine F2w (fun i hi=>?_) ?_ _ _ rfl
  · have h1:(i:Int)<(s.size:Int):=by omega
    have h2:(0:Int)<=(i:Int):=by omega
    have w1:i64.wrap ((i:Int)+1)=((i+1:Nat):Int):=by rw [w64 (by omega) (by omega)];omega
    simp only [C1K,A0 h1,A0 h2,A8,w1];by_cases a:65<=bt s (i:Int)
    · rw [A0 (show bt s (i:Int)>=65 from a)]
      by_cases b:bt s (i:Int)<=90
      · rw [show C5b s i=true by unfold C5b;rw [A0 a,A0 b];rfl,A0 b];rfl
      · rw [show C5b s i=false by unfold C5b;rw [A0 a,A1 b];rfl,A1 b];rfl
    · rw [show C5b s i=false by unfold C5b;rw [A1 a];rfl,A1 (show ¬ bt s (i:Int)>=65 from a)];rfl
  · have h1:¬ (s.size:Int)<(s.size:Int):=by omega
    simp only [C1K,A1 h1,A3]
theorem D4f{s:X0}(h:(!(s.toList == (⟨#[]⟩:X0).toList))=true):0<s.size:=by
  rcases B0F s.size with h0 | h0
  · exfalso
    have:s=⟨#[]⟩:=ByteArray.ext (Array.eq_empty_of_size_eq_zero h0);rw [this] at h;simp at h
  · exact h0
theorem E3A{s:X0}(h:C8m s=true):0<s.size:=D4f (by
  unfold C8m at h;simp only [B4] at h;exact h.2)
abbrev nM:X0:=⟨#[58,109,101,116,104,111,100]⟩
abbrev nS:X0:=⟨#[58,115,99,104,101,109,101]⟩
abbrev nP:X0:=⟨#[58,112,97,116,104]⟩
abbrev nA:X0:=⟨#[58,97,117,116,104,111,114,105,116,121]⟩
def C7A(x:X0):Bool:=(x.toList == nM.toList)||(x.toList == nS.toList)||(x.toList == nP.toList)||(x.toList == nA.toList)
theorem D62(a b c d x:X0):L9 [a,b,c,d] x=some ((x.toList == a.toList)||(x.toList == b.toList)||(x.toList == c.toList)||(x.toList == d.toList),()):=by
  have s0:N7 [a,b,c,d] x (0,())=bif (x.toList == a.toList) then some (.inr (0,())) else some (.inl (1,())):=rfl
  have s1:N7 [a,b,c,d] x (1,())=bif (x.toList == b.toList) then some (.inr (1,())) else some (.inl (2,())):=rfl
  have s2:N7 [a,b,c,d] x (2,())=bif (x.toList == c.toList) then some (.inr (2,())) else some (.inl (3,())):=rfl
  have s3:N7 [a,b,c,d] x (3,())=bif (x.toList == d.toList) then some (.inr (3,())) else some (.inl (4,())):=rfl
  have s4:N7 [a,b,c,d] x (4,())=some (.inr (-1,())):=rfl;simp only [L9,A1g,A2c,A2b];rw [H5,s0];cases (x.toList == a.toList)
  case true=>rfl
  simp only [A3];rw [H5,s1];cases (x.toList == b.toList)
  case true=>rfl
  simp only [A3];rw [H5,s2];cases (x.toList == c.toList)
  case true=>rfl
  simp only [A3];rw [H5,s3];cases (x.toList == d.toList)
  case true=>rfl
  simp only [A3];rw [H5,s4];rfl
def plN(l:List B2):Nat->Bool
  | 0=>false
  | k+1=>plN l k||!decide (bt (nmA l k) 0=58)
def C30(l:List B2)(k:Nat):Bool:=C8m (nmA l k)&&(bif decide (bt (nmA l k) 0=58) then !plN l k&&C7A (nmA l k)&&decide (V0 l (nmA l k) l.length<=1) else true)
def D4g(l:List B2):Bool:=(List.range l.length).all (C30 l)&&(decide (1<=V0 l nM l.length)&&decide (1<=V0 l nS l.length)&&decide (1<=V0 l nP l.length))
theorem E1B(l:List B2)(hl:l.length<=1000000)(hn:∀ f∈l,f.1.size<=1000000000)(k:Nat)(hk:k<l.length) :
    A7l B00 U4 L9 l (plN l k,(k:Int),())=if C30 l k then some (.inl (plN l (k+1),((k+1:Nat):Int),())) else some (.inr (.inr (false,()))):=by
  have h1:(k:Int)<(l.length:Int):=by omega
  have h2:(0:Int)<=(k:Int):=by omega
  have w1:i64.wrap ((k:Int)+1)=((k+1:Nat):Int):=by rw [w64 (by omega) (by omega)];omega
  have hz:(nmA l k).size<=1000000000:=by
    have e:rd C1 l (k:Int)=l[k]:=A6d (k:=C1) hk;unfold nmA;rw [e];exact hn _ (F2 hk)
  simp only [A7l,A0 h1,A0 h2,A8,w1];rw [show (rd C1 l (k:Int)).1=nmA l k from rfl,E1A _ hz];simp only [bO];unfold C30;cases hq:C8m (nmA l k) with
  | false=>rfl
  | true=>
    have h0:=E3A hq;rw [A0 (show (0:Int)<((nmA l k).size:Int) by omega),A5k l _ hl,D62];simp only [C3,A3,A8,bO,J5,plN];by_cases h58:bt (nmA l k) 0=58
    · rw [A0 h58]
      simp only [C3,A3,A8,Bool.or_false];rw [show ((nmA l k).toList == nM.toList||(nmA l k).toList == nS.toList||(nmA l k).toList == nP.toList||(nmA l k).toList == nA.toList)=C7A (nmA l k) from rfl];cases plN l k with
      | true=>rfl
      | false=>
        cases C7A (nmA l k) with
        | false=>rfl
        | true=>
          by_cases hc:V0 l (nmA l k) l.length<=1
          · rw [A1 (show ¬ (V0 l (nmA l k) l.length:Int)>1 by omega),A0 hc];rfl
          · rw [A0 (show (V0 l (nmA l k) l.length:Int)>1 by omega),A1 hc];rfl
    · rw [A1 h58]
      simp
theorem F1n(l:List B2)(hl:l.length<=1000000):G1 (A7m U4 l) (0,())=some (decide (1<=V0 l nM l.length)&&decide (1<=V0 l nS l.length)&&decide (1<=V0 l nP l.length),()):=by
  have s0:A7m U4 l (0,())=A5 (U4 l nM) fun c55=>bif (decide (c55.2.1=0)) then some (.inr (false,())) else some (.inl (1,())):=rfl
  have s1:A7m U4 l (1,())=A5 (U4 l nS) fun c55=>bif (decide (c55.2.1=0)) then some (.inr (false,())) else some (.inl (2,())):=rfl
  have s2:A7m U4 l (2,())=A5 (U4 l nP) fun c55=>bif (decide (c55.2.1=0)) then some (.inr (false,())) else some (.inl (3,())):=rfl
  have s3:A7m U4 l (3,())=some (.inr (true,())):=rfl;have hd:∀ n:Nat,decide ((n:Int)=0)=!decide (1<=n):=fun n=>by
    by_cases h:1<=n
    · rw [A0 h,A1 (by omega)];rfl
    · rw [A1 h,A0 (by omega)];rfl
  rw [H5,s0,A5k l _ hl];simp only [bO,hd];cases decide (1<=V0 l nM l.length)
  case false=>rfl
  simp only [C3,A3];rw [H5,s1,A5k l _ hl];simp only [bO,hd];cases decide (1<=V0 l nS l.length)
  case false=>rfl
  simp only [C3,A3];rw [H5,s2,A5k l _ hl];simp only [bO,hd];cases decide (1<=V0 l nP l.length)
  case false=>rfl
  simp only [C3,A3];rw [H5,s3];rfl
theorem E1C(l:List B2)(hl:l.length<=1000000)(hn:∀ f∈l,f.1.size<=1000000000):C1M l=some (D4g l,()):=by
  simp only [C1M,C6p];obtain ⟨i,h1,h2,h3,h4⟩:=A4h (A7l B00 U4 L9 l) (fun i=>(plN l i,(i:Int),())) l.length (fun i=>if i<l.length then .inr (false,()) else .inl ()) (C30 l) (fun i hi=>by
    simp only [A7 hi];exact E1B l hl hn i hi) (by
    have h1:¬ ((l.length:Nat):Int)<(l.length:Int):=by omega
    simp only [A27,K7,A7l,A1 h1,A3])
  have h4':G1 (A7l B00 U4 L9 l) (false,0,())=some (if i<l.length then .inr (false,()) else .inl ()):=h4;rw [h4'];unfold D4g;by_cases hi:i<l.length
  · rw [A7 hi]
    have:(List.range l.length).all (C30 l)=false:=by
      rw [A4Q];exact ⟨i,P7.2 hi,by simp [h3 hi]⟩
    simp [H8,this]
  · rw [A4 hi]
    have:(List.range l.length).all (C30 l)=true:=by
      rw [C6];intro j hj;exact h2 j (by have:=P7.1 hj;omega)
    simp only [H8,this,J5];exact F1n l hl
def opB(a:X0):Int:=
  bif ((⟨#[80,79,83,84]⟩:X0).toList == a.toList) then 1 else bif ((⟨#[72,69,65,68]⟩:X0).toList == a.toList) then 2 else bif ((⟨#[80,65,84,67,72]⟩:X0).toList == a.toList) then 3 else bif ((⟨#[80,85,84]⟩:X0).toList == a.toList) then 4 else bif ((⟨#[71,69,84]⟩:X0).toList == a.toList) then 5 else bif ((⟨#[68,69,76,69,84,69]⟩:X0).toList == a.toList) then 6 else 0
theorem E6w(a:X0):C8N a=some (opB a,()):=by
  have s1:A7B A2v a (1,())=bif ((⟨#[80,79,83,84]⟩:X0).toList == a.toList) then some (.inr (1,())) else some (.inl (2,())):=rfl
  have s2:A7B A2v a (2,())=bif ((⟨#[72,69,65,68]⟩:X0).toList == a.toList) then some (.inr (2,())) else some (.inl (3,())):=rfl
  have s3:A7B A2v a (3,())=bif ((⟨#[80,65,84,67,72]⟩:X0).toList == a.toList) then some (.inr (3,())) else some (.inl (4,())):=rfl
  have s4:A7B A2v a (4,())=bif ((⟨#[80,85,84]⟩:X0).toList == a.toList) then some (.inr (4,())) else some (.inl (5,())):=rfl
  have s5:A7B A2v a (5,())=bif ((⟨#[71,69,84]⟩:X0).toList == a.toList) then some (.inr (5,())) else some (.inl (6,())):=rfl
  have s6:A7B A2v a (6,())=bif ((⟨#[68,69,76,69,84,69]⟩:X0).toList == a.toList) then some (.inr (6,())) else some (.inl (7,())):=rfl
  have s7:A7B A2v a (7,())=some (.inr (0,())):=rfl;simp only [C8N,D3u,opB];rw [H5,s1];cases ((⟨#[80,79,83,84]⟩:X0).toList == a.toList)
  case true=>rfl
  simp only [A3];rw [H5,s2];cases ((⟨#[72,69,65,68]⟩:X0).toList == a.toList)
  case true=>rfl
  simp only [A3];rw [H5,s3];cases ((⟨#[80,65,84,67,72]⟩:X0).toList == a.toList)
  case true=>rfl
  simp only [A3];rw [H5,s4];cases ((⟨#[80,85,84]⟩:X0).toList == a.toList)
  case true=>rfl
  simp only [A3];rw [H5,s5];cases ((⟨#[71,69,84]⟩:X0).toList == a.toList)
  case true=>rfl
  simp only [A3];rw [H5,s6];cases ((⟨#[68,69,76,69,84,69]⟩:X0).toList == a.toList)
  case true=>rfl
  simp only [A3];rw [H5,s7]
abbrev nUp:X0:=⟨#[47,117,112,47]⟩
theorem D4h(s:X0):A2k s nUp=some (bif decide (4<=s.size)&&((s.extract 0 4).toList == nUp.toList) then (s.extract 4 s.size,true,()) else (s,false,())):=by
  have h4:nUp.size=4:=rfl;simp only [A2k,A8v,A1C,A1B,A1A,A19,h4];by_cases h:4<=s.size
  · rw [A0 (show (s.size:Int)>=((4:Nat):Int) by omega),A0 h]
    simp only [show decide ((0:Int)<=((4:Nat):Int))=true from rfl,A8,bO,E5,J5];cases ((s.extract 0 4).toList == nUp.toList)<;>rfl
  · rw [A1 (show ¬ (s.size:Int)>=((4:Nat):Int) by omega),A1 h]
    rfl
def B7S(s:X0)(i:Nat):Bool:=decide (48<=bt s (i:Int))&&decide (bt s (i:Int)<=57)
def A3T(s:X0):Nat->Nat
  | 0=>0
  | k+1=>A3T s k*10+(bt s (k:Int)-48).toNat
theorem D95(s:X0):∀ k,A3T s k+25<=25*10 ^ k
  | 0=>by simp [A3T]
  | k+1=>by
    have h1:=D95 s k;have h2:=C63 s (k:Int);rw [A3T,A5v];omega
def E1D(s:X0)(most:Int):Bool:=decide (1<=(s.size:Int)/\(s.size:Int)<=10)&&(List.range s.size).all (B7S s)&&decide ((A3T s s.size:Int)<=most)&&((itB (A3T s s.size:Int)).toList == s.toList)
theorem D63(s:X0)(most:Int)(hm:most<=4294967295):B5o s most=some (bif E1D s most then ((A3T s s.size:Int),true,()) else (0,false,())):=by
  simp only [B5o,C1J,S3,bO];unfold E1D;by_cases hr:1<=(s.size:Int)/\(s.size:Int)<=10
  · rw [A0 hr]
    simp only [C3,A3,J5];obtain ⟨i,h1,h2,h3,h4⟩:=A4h (A7A s) (fun i=>((A3T s i:Int),(i:Int),())) s.size (fun i=>if i<s.size then .inr (0,false,()) else .inl ((A3T s s.size:Int),())) (B7S s) (fun i hi=>by
      have h1:(i:Int)<(s.size:Int):=by omega
      have h2:(0:Int)<=(i:Int):=by omega
      have w1:i64.wrap ((i:Int)+1)=((i+1:Nat):Int):=by rw [w64 (by omega) (by omega)];omega
      have b1:=D7Q s (i:Int);have b2:=C63 s (i:Int);have hn:=D95 s i;have hp:10 ^ i<=10 ^ 10:=A10 (by omega) (by omega);simp only [A7 hi,A7A,A0 h1,A0 h2,A8,w1];by_cases c1:bt s (i:Int)<48
      · rw [show B7S s i=false by unfold B7S;rw [A1 (show ¬ 48<=bt s (i:Int) by omega)];rfl,A0 c1];rfl
      · rw [A1 c1]
        by_cases c2:bt s (i:Int)>57
        · rw [show B7S s i=false by unfold B7S;rw [A1 (show ¬ bt s (i:Int)<=57 by omega),B7Q],A0 c2];rfl
        · rw [show B7S s i=true by unfold B7S;rw [A0 (show 48<=bt s (i:Int) by omega),A0 (show bt s (i:Int)<=57 by omega)];rfl,A1 c2]
          simp only [A3,bSl,L4];have e1:u8.wrap (bt s (i:Int)-48)=bt s (i:Int)-48:=by
            rw [show bt s (i:Int)-48=(((bt s (i:Int)-48).toNat:Nat):Int) by omega];exact D1h (by omega)
          rw [e1,w64 (n:=bt s (i:Int)-48) (by omega) (by omega),w64 (n:=(A3T s i:Int)*10) (by omega) (by omega),w64 (by omega) (by omega),A3T];rw [show (A3T s i:Int)*10+(bt s (i:Int)-48)=((A3T s i*10+(bt s (i:Int)-48).toNat:Nat):Int) by omega]) (by
      have h1:¬ ((s.size:Nat):Int)<(s.size:Int):=by omega
      simp only [A27,K7,A7A,A1 h1,A3])
    have h4':G1 (A7A s) (0,0,())=some (if i<s.size then .inr (0,false,()) else .inl ((A3T s s.size:Int),())):=h4;rw [h4'];by_cases hi:i<s.size
    · rw [A7 hi]
      have:(List.range s.size).all (B7S s)=false:=by
        rw [A4Q];exact ⟨i,P7.2 hi,by simp [h3 hi]⟩
      simp [H8,this]
    · rw [A4 hi]
      have ha:(List.range s.size).all (B7S s)=true:=by
        rw [C6];intro j hj;exact h2 j (by have:=P7.1 hj;omega)
      simp only [bSl,ha,J5];by_cases hq:(A3T s s.size:Int)<=most
      · rw [A1 (show ¬ (A3T s s.size:Int)>most by omega),A0 hq,F1j _ (by omega) (by omega)]
        simp only [A3,bO,J5];cases ((itB (A3T s s.size:Int)).toList == s.toList)<;>rfl
      · rw [A0 (show (A3T s s.size:Int)>most by omega),A1 hq]
        rfl
  · rw [A1 hr]
    rfl
set_option maxRecDepth 100000
theorem D96{l:List B2}(hl:∀ f∈l,f.1.size<=10000/\f.2.size<=10000)(name:X0):∀ k,k<=l.length->(A1h l name k).size<=10000
  | 0,_=>by simp [A1h,ByteArray.size]
  | k+1,h=>by
    have h1:=D96 hl name k (by omega);have e:rd C1 l (k:Int)=l[k]:=A6d (k:=C1) (by omega);unfold A1h;split
    · split
      · rw [e];exact (hl _ (F2 _)).2
      · exact h1
    · exact h1
def B0h(op:Int):X0×Int:=if op=1 then (⟨#[117,112,108,111,97,100,45,108,101,110,103,116,104]⟩,1000000000) else if op=3 then (⟨#[117,112,108,111,97,100,45,111,102,102,115,101,116]⟩,1000000000) else if op=4 then (⟨#[117,112,108,111,97,100,45,115,117,109]⟩,4294967295) else (⟨#[]⟩,0)
theorem D0B(op:Int):A9W op=some ((B0h op).1,(B0h op).2,()):=by
  simp only [A9W,B59];unfold B0h;by_cases h1:op=1
  · rw [A0 h1,A7 h1];rfl
  rw [A1 h1,A4 h1];by_cases h3:op=3
  · rw [A0 h3,A7 h3];rfl
  rw [A1 h3,A4 h3];by_cases h4:op=4
  · rw [A0 h4,A7 h4];rfl
  · rw [A1 h4,A4 h4];rfl
theorem E70(op:Int):(B0h op).2<=4294967295:=by
  unfold B0h;split
  · simp
  · split
    · simp
    · split<;>simp
abbrev noR:B8h:=(0,⟨#[]⟩,0)
def C04(s:X0):X0×Bool:=bif decide (4<=s.size)&&((s.extract 0 4).toList == nUp.toList) then (s.extract 4 s.size,true) else (s,false)
def A5H(l:List B2):B8h×Int:=
  bif D4g l then
    (if opB (A1h l nM l.length)=0 then (noR,2)
     else bif (C04 (A1h l nP l.length)).2&&idB (C04 (A1h l nP l.length)).1 then
      (bif ((B0h (opB (A1h l nM l.length))).1.toList == (⟨#[]⟩:X0).toList) then ((opB (A1h l nM l.length),(C04 (A1h l nP l.length)).1,0),0)
       else bif decide (V0 l (B0h (opB (A1h l nM l.length))).1 l.length=1)&&E1D (A1h l (B0h (opB (A1h l nM l.length))).1 l.length) (B0h (opB (A1h l nM l.length))).2
         then ((opB (A1h l nM l.length),(C04 (A1h l nP l.length)).1,(A3T (A1h l (B0h (opB (A1h l nM l.length))).1 l.length) (A1h l (B0h (opB (A1h l nM l.length))).1 l.length).size:Int)),0) else (noR,4))
     else (noR,3))
  else (noR,1)
theorem E3B(s:X0)(a b:Nat):(s.extract a b).size<=s.size:=by rw [C2q];omega
theorem E9t(s:X0):(C04 s).1.size<=s.size:=by
  unfold C04;cases decide (4<=s.size)&&((s.extract 0 4).toList == nUp.toList)
  · exact B6 _
  · exact E3B _ _ _
theorem E3C(l:List B2)(hl:l.length<=1000)(hn:∀ f∈l,f.1.size<=10000/\f.2.size<=10000):C5B l=some ((A5H l).1,(A5H l).2,()):=by
  have hv:=fun name=>D96 hn name l.length (B6 _)
  have hi:(C04 (A1h l nP l.length)).1.size<=maxLen:=by have:=E9t (A1h l nP l.length);have:=hv nP;simp only [maxLen];omega
  simp only [C5B,C9q,E1C l (by omega) (fun f hf=>by have:=(hn f hf).1;omega),bO];unfold A5H;cases D4g l
  case false=>rfl
  simp only [C3,A3,A8];have v1:=A5k l nM (by omega);have v2:=A5k l nP (by omega);simp only [v1,v2,bO,E6w];by_cases h0:opB (A1h l nM l.length)=0
  · rw [A0 h0,A7 h0];rfl
  rw [A1 h0,A4 h0];simp only [A3];have hc:A2k (A1h l nP l.length) nUp=some ((C04 (A1h l nP l.length)).1,(C04 (A1h l nP l.length)).2,()):=by
    rw [D4h];unfold C04;cases decide (4<=(A1h l nP l.length).size)&&(((A1h l nP l.length).extract 0 4).toList == nUp.toList)<;>rfl
  rw [hc];simp only [bO,F1S _ hi,D0B];cases (C04 (A1h l nP l.length)).2
  case false=>rfl
  cases idB (C04 (A1h l nP l.length)).1
  case false=>rfl
  simp only [C3,A3,bSl,C6P,A8];cases ((B0h (opB (A1h l nM l.length))).1.toList == (⟨#[]⟩:X0).toList)
  case true=>rfl
  simp only [A3];rw [A5k l _ (by omega)];simp only [bO];rw [D63 _ _ (E70 _)];simp only [bO];by_cases h1:V0 l (B0h (opB (A1h l nM l.length))).1 l.length=1
  · rw [A0 (show (V0 l (B0h (opB (A1h l nM l.length))).1 l.length:Int)=1 by omega),A0 h1]
    simp only [C3,A3,J5];cases E1D (A1h l (B0h (opB (A1h l nM l.length))).1 l.length) (B0h (opB (A1h l nM l.length))).2<;>rfl
  · rw [A1 (show ¬ (V0 l (B0h (opB (A1h l nM l.length))).1 l.length:Int)=1 by omega),A1 h1]
    rfl
noncomputable def stV(st ev:Int):Int×Int:=match A0R st ev with
  | some x=>(x.1,x.2.1)
  | none=>(0,1)
theorem E71(ev:Int):∃ a b,B5k ev=some (a,b,()):=by
  simp only [B5k,C1E];cases decide (ev=1)<;>cases decide (ev=2)<;>cases decide (ev=6)<;>cases decide (ev=7)<;>exact ⟨_,_,rfl⟩
theorem E72(ev:Int):∃ a b,B5m ev=some (a,b,()):=by
  simp only [B5m,C1F];cases decide (ev=1)<;>cases decide (ev=2)<;>cases decide (ev=4)<;>cases decide (ev=7)<;>cases decide (ev=9)<;>cases decide (ev=5)<;>cases decide (ev=10)<;>exact ⟨_,_,rfl⟩
theorem E3D(ev:Int):∃ a b,A6i ev=some (a,b,()):=by
  simp only [A6i,B12];cases decide (ev=5)<;>cases decide (ev=6)<;>cases decide (ev=7)<;>cases decide (ev=8)<;>cases decide (ev=9)<;>cases decide (ev=10)<;>exact ⟨_,_,rfl⟩
theorem E73(ev:Int):∃ a b,A7i ev=some (a,b,()):=by
  simp only [A7i,B2c];cases decide (ev=1)<;>cases decide (ev=2)<;>cases decide (ev=3)<;>cases decide (ev=4)<;>cases decide (ev=5)<;>cases decide (ev=10)<;>exact ⟨_,_,rfl⟩
theorem D7j(st ev:Int):A0R st ev=some ((stV st ev).1,(stV st ev).2,()):=by
  have:∃ a b,A0R st ev=some (a,b,()):=by
    obtain ⟨a1,b1,e1⟩:=E71 ev;obtain ⟨a2,b2,e2⟩:=E72 ev;obtain ⟨a3,b3,e3⟩:=E3D ev;obtain ⟨a4,b4,e4⟩:=E73 ev;simp only [A0R,B13,S3,bO,e1,e2,e3,e4];cases decide (1<=ev/\ev<=10)<;>cases decide (st=0)<;>cases decide (st=1)<;>cases decide (st=2)<;>cases decide (st=3)<;>cases decide (st=4)<;>cases decide (ev=5)<;>exact ⟨_,_,rfl⟩
  obtain ⟨a,b,e⟩:=this;unfold stV;rw [e]
set_option maxRecDepth 100000
structure HM where
  g:L3
  dec:D3
  strs:List A16
  last:Int
  calls:List A0j
  out:List Int
abbrev mkC(pre:Int)(inn:List Int)(enc:D3)(dead:Int)(m:HM):M7:=(pre,inn,m.g,m.dec,enc,m.strs,m.last,dead)
abbrev mkH(pre:Int)(inn:List Int)(enc:D3)(dead:Int)(m:HM):E8:=(mkC pre inn enc dead m,m.calls,m.out)
def D97(last:Int)(s:A16):Prop:=s.1.tmod 2=1/\1<=s.1/\s.1<=last/\(s.2.1=1\/s.2.1=2)/\s.2.2.2.length<=2000
def C05(strs:List A16)(last:Int):Prop:=strs.length<=100/\(strs.map (·.1)).Pairwise (· < ·)/\∀ s∈strs,D97 last s
def sAt(strs:List A16)(i:Nat):A16:=rd H2 strs (i:Int)
theorem A4u{strs:List A16}{i:Nat}(h:i<strs.length):sAt strs i=strs[i]:=A6d (k:=H2) h
theorem D7k{strs:List A16}{last:Int}(h:C05 strs last){i:Nat}(hi:i<strs.length){s:A16}(h1:s.1=(sAt strs i).1)(h2:s.2.1=1\/s.2.1=2)(h3:s.2.2.2.length<=2000):C05 (strs.set i s) last:=by
  obtain ⟨a,b,c⟩:=h;rw [A4u hi] at h1;refine ⟨by simpa using a,?_,fun x hx=>?_⟩
  · rw [List.map_set,h1]
    have:(strs.map (·.1)).set i strs[i].1=strs.map (·.1):=by
      apply A8p (by simp);intro j hj1 hj2;rw [List.getElem_set];split
      · rename_i e;subst e;simp
      · rfl
    rw [this];exact b
  · rcases B7d hx with q | q
    · exact c x q
    · subst q
      have:=c _ (F2 hi);unfold D97 at this ⊢;rw [h1];exact ⟨this.1,this.2.1,this.2.2.1,h2,h3⟩
theorem E3E{strs:List A16}{last:Int}(h:C05 strs last)(hl:strs.length<100){s:A16}(h0:last<s.1)(h1:s.1.tmod 2=1)(h2:s.2.1=1\/s.2.1=2)(h3:s.2.2.2.length<=2000)(hp:1<=s.1):C05 (strs ++ [s]) s.1:=by
  obtain ⟨a,b,c⟩:=h;refine ⟨by simp;omega,?_,fun x hx=>?_⟩
  · rw [A6A,List.pairwise_append]
    refine ⟨b,by simp,fun x hx y hy=>?_⟩;obtain ⟨t,ht,rfl⟩:=E1.1 hx;have:=c t ht;simp only [I1,B6G,B0] at hy;unfold D97 at this;omega
  · rcases D0.1 hx with q | q
    · have:=c x q
      unfold D97 at this ⊢;omega
    · rcases B0.1 q with rfl
      exact ⟨h1,hp,by omega,h2,h3⟩
theorem E74{strs:List A16}{last:Int}(h:C05 strs last)(i:Nat):C05 (strs.take i++strs.drop (i+1)) last:=by
  obtain ⟨a,b,c⟩:=h;have hs:(strs.take i++strs.drop (i+1)).Sublist strs:=by
    rw [<- List.eraseIdx_eq_take_drop_succ];exact List.eraseIdx_sublist strs i
  exact ⟨A5q hs.length_le a,b.sublist (hs.map _),fun x hx=>c x (hs.subset hx)⟩
theorem E3F{strs:List A16}{last last':Int}(h:C05 strs last)(hl:last<=last'):C05 strs last':=by
  obtain ⟨a,b,c⟩:=h;refine ⟨a,b,fun x hx=>?_⟩;have:=c x hx;unfold D97 at this ⊢;omega
theorem D7l(last:Int):C05 [] last:=⟨by simp,by simp,fun x hx=>by cases hx⟩
def atM(strs:List A16)(id:Int):Nat:=A0K (fun j=>decide ((sAt strs j).1<id)) 0 strs.length
def C3D(strs:List A16)(id:Int):Bool:=decide (atM strs id<strs.length)&&decide ((sAt strs (atM strs id)).1=id)
theorem C5J(pre:Int)(inn:List Int)(enc:D3)(dead:Int)(m:HM)(id:Int)(h:m.strs.length<=2000000) :
    A4B (mkC pre inn enc dead m) id=some ((atM m.strs id:Int),C3D m.strs id,mkC pre inn enc dead m,()):=by
  obtain ⟨i,h1,h2,h3,h4⟩:=str_eq (mkC pre inn enc dead m) id h;have e:atM m.strs id=i:=D1b _ _ i h1 (fun j hj=>A0 (h2 j hj)) (fun hi=>A1 (h3 hi));rw [h4,C3D,e];rfl
theorem B4D{strs:List A16}{id:Int}(h:C3D strs id=true):atM strs id<strs.length/\(sAt strs (atM strs id)).1=id:=by
  unfold C3D at h;simpa using h
def A6e(m:HM)(s:A16):HM:=if s.2.1=2 then {m with calls:=m.calls ++ [(s.1,s.2.2.1,s.2.2.2,0)]} else m
end Go.Proofs.YthnfghmjipikhaaGreatDoor.Ev
