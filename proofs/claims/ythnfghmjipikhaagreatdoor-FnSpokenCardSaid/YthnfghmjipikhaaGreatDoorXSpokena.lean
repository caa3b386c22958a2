/- What the plain functions of the program and of the reference answer: laws of plain data. -/
import Derived.Test.YthnfghmjipikhaaGreatDoorPu
import Derived.Laws.Strings
import Derived.Lib.Split
import Derived.Lib.Atoi
import Derived.Laws.BitsLemmas
import Derived.Lib.ItoaNum
set_option linter.unusedVariables false
set_option linter.unusedSimpArgs false
set_option linter.unusedSectionVars false
namespace Go.Proofs.YthnfghmjipikhaaGreatDoor.Ev
open IntKind (i64 u8 u64 u32)
theorem w64{n:Int}(h0:-9223372036854775808<=n)(h1:n<9223372036854775808):i64.wrap n=n:=by
  simp only [IntKind.wrap,IntKind.bits,IntKind.signed,J9];simp;split<;>omega
theorem B54{α β:Type}(f:α->Option (α⊕β))(μ:α->Nat)(I:α->Prop)(Q:β->Prop)
    (h:∀ x,I x->(∃ y,f x=some (.inl y)/\I y/\μ y<μ x)\/∃ z,f x=some (.inr z)/\Q z):∀ x,I x->∃ z,H6 f x=some z/\Q z:=by
  intro x;generalize hn:μ x=n
  induction n using Nat.strongRecOn generalizing x with
  | ind n ih=>
    intro hx;rw [I3];rcases h x hx with ⟨y,e,hy,hl⟩ | ⟨z,e,hz⟩
    · rw [e];exact ih (μ y) (by omega) y rfl hy
    · rw [e];exact ⟨z,rfl,hz⟩
theorem D77{α β:Type}(f:α->Option (α⊕β))(μ:α->Nat)(I:α->Prop)(z:β)
    (h:∀ x,I x->(∃ y,f x=some (.inl y)/\I y/\μ y<μ x)\/f x=some (.inr z)) (x:α) (hx:I x):H6 f x=some z:=by
  obtain ⟨z',h1,rfl⟩:=B54 f μ I (·=z) (fun x hx=>(h x hx).imp id fun h=>⟨_,h,rfl⟩) x hx;exact h1
theorem R5{α β:Type}(f:α->Option (α⊕β))(s:Nat->α)(n:Nat)(z:β)(h:∀ i,i<n->f (s i)=some (.inl (s (i+1))))(he:f (s n)=some (.inr z)):H6 f (s 0)=some z:=by
  have key:∀ k i,i+k=n->H6 f (s i)=some z:=by
    intro k
    induction k with
    | zero=>intro i hi;rw [I3,show i=n by omega,he]
    | succ k ih=>intro i hi;rw [I3,h i (by omega)];exact ih (i+1) (by omega)
  exact key n 0 (by omega)
theorem A9J{α β:Type}(f:α->Option (α⊕β))(s:Nat->α)(n:Nat)(z:Nat->β)(go:Nat->Bool)(h:∀ i,i<n->f (s i)=if go i then some (.inl (s (i+1))) else some (.inr (z i)))(he:f (s n)=some (.inr (z n))) :
    ∃ i,i<=n/\(∀ j,j<i->go j=true)/\(i<n->go i=false)/\H6 f (s 0)=some (z i):=by
  have key:∀ k i,i+k=n->(∀ j,j<i->go j=true)->∃ i',i'<=n/\(∀ j,j<i'->go j=true)/\(i'<n->go i' = false)/\H6 f (s i)=some (z i'):=by
    intro k
    induction k with
    | zero=>
      intro i hi hg;obtain rfl:i=n:=by omega
      exact ⟨i,C0 _,hg,fun h=>absurd h (by omega),by rw [I3,he]⟩
    | succ k ih=>
      intro i hi hg;cases hgo:go i with
      | true=>
        obtain ⟨i',h1,h2,h3,h4⟩:=ih (i+1) (by omega) (fun j hj=>by
          by_cases h:j<i
          · exact hg j h
          · rw [show j=i by omega];exact hgo)
        refine ⟨i',h1,h2,h3,?_⟩;rw [I3,h i (by omega),A6 hgo];exact h4
      | false=>
        refine ⟨i,by omega,hg,fun _=>hgo,?_⟩;rw [I3,h i (by omega),hgo];rfl
  exact key n 0 (by omega) (fun j hj=>by omega)
theorem D1a(s:X0)(i:Int):0<=bt s i:=by unfold bt;omega
theorem C1q(s:X0)(i:Int):bt s i<256:=by
  have:=(s.data.toList.getD i.toNat 0).toNat_lt;unfold bt;omega
theorem E3A(s:X0)(i:Int):i64.wrap (bt s i)=bt s i:=w64 (by have:=D1a s i;omega) (by have:=C1q s i;omega)
theorem A81{k:K}{xs:List k.T}{i:Nat}(h:i<xs.length):rd k xs (i:Int)=xs[i]:=by
  unfold rd;rw [E6];simp [List.getD,h]
theorem D02{U:IntKind}{xs:List Int}{i:Nat}(h:i<xs.length):rd (.int U) xs (i:Int)=xs[i]:=A81 (k:=.int U) h
theorem E3B{xs:List X0}{i:Nat}(h:i<xs.length):rd .str xs (i:Int)=xs[i]:=A81 (k:=.str) h
def Byt(a:List Int):Prop:=∀ x∈a,0<=x/\x<256
theorem pe{α β:Type}(p:α×β):(p.1,p.2)=p:=rfl
theorem A0{p:Prop} [Decidable p] (h:p):decide p=true:=Q5 h
theorem A8{p:Prop} [Decidable p] (h:¬ p):decide p=false:=W9 h
def V7(go:Nat->Bool):Nat->Nat->Nat
  | i,0=>i
  | i,k+1=>if go i then V7 go (i+1) k else i
theorem C95(go:Nat->Bool):∀ k i,V7 go i k<=i+k
  | 0,i=>C0 _
  | k+1,i=>by
    simp only [V7];split
    · have:=C95 go k (i+1);omega
    · omega
theorem C1r(go:Nat->Bool):∀ k i,V7 go i k<i+k->go (V7 go i k)=false
  | 0,i,h=>by simp [V7] at h
  | k+1,i,h=>by
    simp only [V7] at h ⊢;split
    · rename_i hg
      rw [A6 hg] at h;exact C1r go k (i+1) (by omega)
    · rename_i hg
      simpa using hg
theorem B8J{α β:Type}(f:α->Option (α⊕β))(s:Nat->α)(n:Nat)(z:Nat->β)(go:Nat->Bool)(h:∀ i,i<n->f (s i)=if go i then some (.inl (s (i+1))) else some (.inr (z i)))(he:f (s n)=some (.inr (z n))) :
    H6 f (s 0)=some (z (V7 go 0 n)):=by
  have key:∀ k i,i+k=n->H6 f (s i)=some (z (V7 go i k)):=by
    intro k
    induction k with
    | zero=>
      intro i hi;obtain rfl:i=n:=by omega
      rw [I3,he];rfl
    | succ k ih=>
      intro i hi;rw [I3,h i (by omega)];simp only [V7];cases go i with
      | true=>simp only [M7];exact ih (i+1) (by omega)
      | false=>rfl
  exact key n 0 (by omega)
theorem E2U(L:Int×Unit->Option ((Int×Unit)⊕(Bool×Unit)))(n:Nat)(hn:n<=maxLen)(go:Nat->Bool)(hs:∀ i:Nat,i<n->L ((i:Int),())=bif go i then some (.inl (i64.wrap ((i:Int)+1),())) else some (.inr (false,())))
    (he:L ((n:Int),())=some (.inr (true,()))):H6 L (0,())=some ((List.range n).all go,()):=by
  have h:=B8J L (fun i=>((i:Int),())) n (fun i=>(decide (i=n),())) go (fun i hi=>by
    rw [hs i hi,w64 (by omega) (by simp only [maxLen] at hn;omega)];cases go i with
    | true=>rfl
    | false=>simp only [J2,O7,A7];rw [A8 (by omega)]) (by rw [he];simp)
  have h':H6 L (0,())=some (decide (V7 go 0 n=n),()):=h;rw [h'];have key:∀ k i,decide (V7 go i k=i+k)=((List.range k).all fun j=>go (i+j)):=by
    intro k
    induction k with
    | zero=>intro i;simp [V7]
    | succ k ih=>
      intro i;have e:((List.range (k+1)).all fun j=>go (i+j))=(go i&&(List.range k).all fun j=>go (i+1+j)):=by
        rw [List.range_succ_eq_map,List.all_cons,List.all_map];simp only [K1]
        congr 2
        funext j
        simp only [Function.comp]
        congr 1
        omega
      rw [e,<- ih (i+1)];by_cases hg:go i=true
      · have e1:V7 go i (k+1)=V7 go (i+1) k:=by simp only [V7];rw [A6 hg]
        rw [B7d,hg];simp only [N6,J9,e1];omega
      · have e1:V7 go i (k+1)=i:=by simp only [V7];rw [A5 hg]
        rw [B7d];simp only [N6,B7,e1];constructor
        · intro h;omega
        · intro h;exact absurd h.1 hg
  have k0:=key n 0;simp only [E5] at k0;rw [k0]
abbrev D9m:=X0×List Int×Int×Int
theorem A4U(a b c:Int):A2a a b c=some (decide (b<=a/\a<=c),()):=by
  simp only [A2a,C6K];by_cases h:b<=a<;>by_cases h2:a<=c<;>simp [h,h2]
theorem V1(a b c:Int):R3 a b c=some (decide (b<=a/\a<=c),()):=A4U a b c
def D03(s:X0)(i:Nat):Bool:=decide (97<=bt s i/\bt s i<=122)||decide (48<=bt s i/\bt s i<=57)
def idB(s:X0):Bool:=(List.range s.size).all (D03 s)&&decide (1<=(s.size:Int)/\(s.size:Int)<=8)
theorem D3o(s:X0)(h:s.size<=maxLen)(i:Nat)(hi:i<s.size):B3M A2a s ((i:Int),())=if D03 s i then some (.inl (((i+1:Nat):Int),())) else some (.inr (.inr (false,()))):=by
  have h1:((i:Int)<(s.size:Int)):=by omega
  have h2:(0:Int)<=(i:Int):=by omega
  simp only [B3M,A0 h1,A0 h2,B2,E3A,A4U,B0];rw [w64 (by omega) (by simp only [maxLen] at h;omega)];unfold D03;cases decide (97<=bt s i/\bt s i<=122)<;>cases decide (48<=bt s i/\bt s i<=57)<;>simp
theorem D78(s:X0)(h:s.size<=maxLen)(i:Nat)(hi:i<s.size):B6C s ((i:Int),())=if D03 s i then some (.inl (((i+1:Nat):Int),())) else some (.inr (.inr (false,()))):=by
  have h1:((i:Int)<(s.size:Int)):=by omega
  have h2:(0:Int)<=(i:Int):=by omega
  simp only [B6C,A0 h1,A0 h2,B2];rw [w64 (by omega) (by simp only [maxLen] at h;omega)];unfold D03;by_cases a:bt s i>=97<;>by_cases b:bt s i<=122<;>by_cases c:bt s i>=48<;>by_cases d:bt s i<=57<;>simp [a,b,c,d]
theorem E2V{s:X0}{f:Int×Unit->Option ((Int×Unit)⊕(Unit⊕(Bool×Unit)))}(hs:∀ i:Nat,i<s.size->f ((i:Int),())=if D03 s i then some (.inl (((i+1:Nat):Int),())) else some (.inr (.inr (false,()))))
    (he:f ((s.size:Int),())=some (.inr (.inl ()))) (g:Unit->Option (Bool×Unit)) (hg:g ()=some (decide (1<=(s.size:Int)/\(s.size:Int)<=8),())):K3 (H6 f (0,())) g=some (idB s,()):=by
  obtain ⟨i,h1,h2,h3,h4⟩:=A9J f (fun i=>((i:Int),())) s.size (fun i=>if i<s.size then .inr (false,()) else .inl ()) (D03 s) (fun i hi=>by
    simp only [A6 hi];exact hs i hi) (by simp only [A6T,O7];exact he)
  have h4':H6 f (0,())=some (if i<s.size then .inr (false,()) else .inl ()):=h4;rw [h4'];unfold idB;by_cases hi:i<s.size
  · rw [A6 hi]
    have:(List.range s.size).all (D03 s)=false:=by
      rw [A8T];exact ⟨i,A1C.2 hi,by simp [h3 hi]⟩
    simp [K3,this]
  · rw [A5 hi]
    have:(List.range s.size).all (D03 s)=true:=by
      rw [C4];intro j hj;exact h2 j (by have:=A1C.1 hj;omega)
    simp only [K3,this,hg,J9]
theorem D9n(s:X0)(h:s.size<=maxLen):B9N s=some (idB s,()):=by
  simp only [B9N,C2o];exact E2V (D3o s h) (by simp [B3M]) _ (by simp only [A4U,B0])
theorem E1q(s:X0)(h:s.size<=maxLen):C1g s=some (idB s,()):=by
  simp only [C1g,C6I];exact E2V (D78 s h) (by simp [B6C]) _ (by simp only [V1,B0])
theorem D9o{R:Type}(a:Option R):eqO a a=a:=by
  unfold eqO;rw [A6 rfl]
theorem C7o(a:List Int)(h:a.length<=140737488355328):G7 a=some (a,()):=by
  simp only [G7,A0w];have e:(bif decide (([]:List Int).length+a.length<=9223372036854775807) then bif decide ((([]:List Int).length+a.length)*1<=140737488355328) then some (([]++a),()) else none else none)=some (a,()):=by
    rw [A0 (by simp;omega),A0 (by simp;omega)];simp
  rw [e];cases a with
  | nil=>simp [D9o]
  | cons x xs=>simp
def D9p(n:Int)(k j:Nat):Int:=u8.wrap (n.fdiv (2 ^ (8*(k-1-j))))
def big(n:Int)(k:Nat):List Int:=(List.range k).map (D9p n k)
theorem B0C(n:Int)(k:Nat):(big n k).length=k:=by simp [big]
theorem E4M{n:Int}(h0:0<=n)(h1:n<18446744073709551616):u64.wrap n=n:=by
  simp only [IntKind.wrap,IntKind.bits,IntKind.signed];simp;omega
theorem D5c(v:Int)(b:List Int)(k:Nat)(hk:k<=8)(hb:b.length+8<=140737488355328):H6 (A3g (v,())) ((k:Int)-1,b,())=some (b++big v k,()):=by
  have key:=R5 (A3g (v,())) (fun j=>((k:Int)-1-(j:Int),b++(List.range j).map (D9p v k),())) k (b++big v k,()) (fun j hj=>?_) ?_
  · simpa using key
  · have h1:(k:Int)-1-(j:Int)>=0:=by omega
    have e1:(k:Int)-1-(j:Int)=((k-1-j:Nat):Int):=by omega
    have hs:u64.wrap (i64.wrap (8*((k:Int)-1-(j:Int))))=((8*(k-1-j):Nat):Int):=by
      rw [w64 (by omega) (by omega),E4M (by omega) (by omega)];omega
    have hm:min (8*(k-1-j)) i64.bits=8*(k-1-j):=A00 (by simp only [IntKind.bits];omega);simp only [A3g,A0 h1,B2,hs,E6,hm];rw [A8 (by omega)];simp only [A7];have hl:(b++(List.range j).map (D9p v k)).length=b.length+j:=by simp
    rw [A0 (by rw [hl];simp;omega),A0 (by rw [hl];simp;omega)];simp only [B2];rw [w64 (by omega) (by omega),List.range_succ,A6t,B3];have e2:(k:Int)-1-(j:Int)-1=(k:Int)-1-((j+1:Nat):Int):=by omega
    rw [e2];rfl
  · have h1:¬ ((k:Int)-1-(k:Int)>=0):=by omega
    simp only [A3g,A8 h1,A7];rfl
def B0i(n:Int):Int:=if n<0 then 0 else n
theorem C4A(b:List Int)(n:Int)(k:Nat)(h1:1<=k)(hk:k<=8)(hb:b.length+8<=140737488355328):B6P b n (k:Int)=some (b++big (B0i n) k,()):=by
  simp only [B6P,C0b];rw [A0 (by simp;omega),A0 (by simp;omega)];have e:(bif decide (n<0) then some ((0:Int),()) else some (n,()))=some (B0i n,()):=by
    unfold B0i;by_cases h:n<0<;>simp [h]
  simp only [B2,e,B0,A4U];rw [A0 (by omega)];simp only [E0,A7,G5];rw [w64 (by omega) (by omega)];exact D5c _ b k hk hb
theorem B3W(b:List Int)(n:Int)(k:Nat)(hk:k<=8)(hb:b.length+8<=140737488355328):B2P b n (k:Int)=some (b++big (B0i n) k,()):=by
  simp only [B2P,C0S];have e:B6H n=A3g (B0i n,()):=by
    funext l
    have:(bif decide (0>n) then (0:Int) else n)=B0i n:=by
      unfold B0i;by_cases h:n<0<;>simp [h]
    simp only [B6H,A3g,this]
  rw [e,w64 (by omega) (by omega)];exact D5c _ b k hk hb
abbrev Frame:=Int×Int×Int×List Int
def A0M(f:Frame):Bool:=decide (0<=f.1/\f.1<=255)&&decide (0<=f.2.1/\f.2.1<=255)&&decide (0<=f.2.2.1/\f.2.2.1<=2147483647)&&decide ((f.2.2.2.length:Int)<=1000)
theorem D04(f:Frame):B3T f=some (A0M f,()):=by
  simp only [B3T,B8H,A4U,B0,A0M];cases decide (0<=f.1/\f.1<=255)<;>cases decide (0<=f.2.1/\f.2.1<=255)<;>cases decide (0<=f.2.2.1/\f.2.2.1<=2147483647)<;>simp
def A4M(f:Frame):List Int:=big (f.2.2.2.length:Int) 3 ++ [u8.wrap f.1,u8.wrap f.2.1]++big (B0i f.2.2.1) 4++f.2.2.2
theorem B9t(b:List Int)(f:Frame)(h:b.length+f.2.2.2.length+24<=140737488355328):A7q b f=some (b++A4M f,()):=by
  simp only [A7q,B6I];rw [show (3:Int)=((3:Nat):Int) from rfl,B3W b _ 3 (by omega) (by omega)];have hc:B0i (f.2.2.2.length:Int)=(f.2.2.2.length:Int):=by unfold B0i;rw [A5 (by omega)]
  simp only [B0,hc];have hl:=B0C (f.2.2.2.length:Int) 3;rw [A0 (by simp [hl];omega),A0 (by simp [hl];omega)];simp only [B2];rw [show (4:Int)=((4:Nat):Int) from rfl,B3W _ _ 4 (by omega) (by simp [hl];omega)];simp only [B0];have hl4:=B0C (B0i f.2.2.1) 4;rw [A0 (by simp [hl,hl4];omega),A0 (by simp [hl,hl4];omega)];simp [A4M]
theorem A6L(f:Frame)(h:f.2.2.2.length+24<=140737488355328):W6 f=some (if A0M f then A4M f else [],()):=by
  simp only [W6,B6Q,pe,D04,B0];cases A0M f with
  | false=>rfl
  | true=>
    simp only [E0,A7];rw [show (3:Int)=((3:Nat):Int) from rfl,C4A [] _ 3 (by omega) (by omega) (by simp)];have hc:B0i (f.2.2.2.length:Int)=(f.2.2.2.length:Int):=by unfold B0i;rw [A5 (by omega)]
    simp only [hc];have hl:=B0C (f.2.2.2.length:Int) 3;rw [A0 (by simp [hl]),A0 (by simp [hl])];simp only [B2];rw [show (4:Int)=((4:Nat):Int) from rfl,C4A _ _ 4 (by omega) (by omega) (by simp [hl])];have hl4:=B0C (B0i f.2.2.1) 4;simp only;rw [A0 (by simp [hl,hl4];omega),A0 (by simp [hl,hl4];omega)];simp [A4M]
theorem D3p{n:Nat}(h:n<9223372036854775808):i64.wrap (n:Int)=(n:Int):=w64 (by omega) (by omega)
theorem bits_nat{w x:Nat}(h:x<2 ^ w):(BitVec.ofInt w (x:Int)).toNat=x:=by
  rw [BitVec.ofInt_natCast,BitVec.toNat_ofNat];exact Nat.mod_eq_of_lt h
theorem half(c:Nat):((c:Int)).fdiv 2=((c / 2:Nat):Int):=by
  rw [A2G _ (by omega)];omega
theorem B8K{a:List Int}(h:Byt a)(i:Nat):Byt (a.take i):=fun x hx=>h x (A4r hx)
def far(c:D9m)(off:Int):D9m:=if 0<=off/\off<=(c.2.1.length:Int) then (if off=(c.2.1.length:Int) then (c.1,c.2.1,4,off) else (c.1,c.2.1,3,off)) else (c.1,c.2.1,6,c.2.2.2)
theorem E3C{x y:Int}(hx:0<=x/\x<256)(hy:0<=y/\y<256)(h:UInt8.ofNat x.toNat=UInt8.ofNat y.toNat):x=y:=by
  have:=M0 UInt8.toNat h;simp only [UInt8.toNat_ofNat'] at this;omega
theorem D1b(t:E3)(h:t.2.length<=maxLen):∃ b,A74 t=some (b,()):=by
  obtain ⟨z,e,_⟩:=B54 (A5F B2R t) (fun l=>((t.2.length:Int)-l.2.1).toNat) (fun l=>0<=l.2.1) (fun _=>True) (fun l hl=>by
    simp only [A5F];by_cases hi:l.2.1<(t.2.length:Int)
    · simp only [A0 hi,A0 hl,B2,B2R,C1k,B0]
      rw [w64 (n:=l.2.1+1) (by omega) (by simp only [maxLen] at h;omega)];exact .inl ⟨_,rfl,by simp only;omega,by simp only;omega⟩
    · simp only [A8 hi,A7]
      exact .inr ⟨_,rfl,trivial⟩) (0,0,()) (by simp)
  exact ⟨z.1,e⟩
theorem D05(t:E3)(h:t.2.length<=maxLen):∃ b,A2b t=some (b,()):=by
  obtain ⟨b,hb⟩:=D1b t h;simp only [A2b,B0g,A4U,B0,hb];cases decide (0<=t.1/\t.1<=4096)<;>exact ⟨_,rfl⟩
def C2s(c:A1S)(i:Nat):Bool:=
  decide ((rd N8 c.2.2.2.2.2.1 (i:Int)).1.tmod 2=1)&&decide (1<=(rd N8 c.2.2.2.2.2.1 (i:Int)).1/\(rd N8 c.2.2.2.2.2.1 (i:Int)).1<=c.2.2.2.2.2.2.1) &&
  (decide (i=0)||!decide ((rd N8 c.2.2.2.2.2.1 (i:Int)).1<=(rd N8 c.2.2.2.2.2.1 ((i:Int)-1)).1)) &&
  (decide ((rd N8 c.2.2.2.2.2.1 (i:Int)).2.1=1)||decide ((rd N8 c.2.2.2.2.2.1 (i:Int)).2.1=2))&&!decide ((List.length (rd N8 c.2.2.2.2.2.1 (i:Int)).2.2.2:Int)>2000)
theorem E1r{L:Int×Unit->Option ((Int×Unit)⊕(Unit⊕(Bool×Unit)))}{n:Nat}{go:Nat->Bool}(hs:∀ i:Nat,i<n->L ((i:Int),())=bif go i then some (.inl (((i+1:Nat):Int),())) else some (.inr (.inr (false,()))))
    (he:L ((n:Int),())=some (.inr (.inl ()))) (g:Unit->Option (Bool×Unit)) (b:Bool) (hg:g ()=some (b,())):K3 (H6 L (0,())) g=some (decide (V7 go 0 n=n)&&b,()):=by
  have h:=B8J L (fun i=>((i:Int),())) n (fun i=>if i=n then .inl () else .inr (false,())) go (fun i hi=>by
    rw [hs i hi];cases go i with
    | true=>rfl
    | false=>simp only [J2,O7,A7];rw [A5 (by omega)]) (by rw [he,A6 rfl])
  have h':H6 L (0,())=_:=h;rw [h'];by_cases hn:V7 go 0 n=n
  · rw [A6 hn,A0 hn];simp [K3,hg]
  · rw [A5 hn,A8 hn];simp [K3]
theorem D1c(c:A1S)(h:c.2.2.2.2.2.1.length<=maxLen)(i:Nat)(hi:i<c.2.2.2.2.2.1.length):B1V R3 c ((i:Int),())=bif C2s c i then some (.inl (((i+1:Nat):Int),())) else some (.inr (.inr (false,()))):=by
  have h1:((i:Int)<(c.2.2.2.2.2.1.length:Int)):=by omega
  have h2:(0:Int)<=(i:Int):=by omega
  simp only [maxLen] at h;simp only [B1V,A0 h1,A0 h2,B2,V1,B0,C2s];rw [w64 (n:=(i:Int)+1) (by omega) (by omega),w64 (n:=(i:Int)-1) (by omega) (by omega)];have e1:((i+1:Nat):Int)=(i:Int)+1:=by omega
  rw [e1];by_cases hz:i=0
  · have g1:¬ (i:Int)>0:=by omega
    simp only [A8 g1,A0 hz,A7,Bool.true_or,Bool.and_true];generalize decide ((rd N8 c.2.2.2.2.2.1 (i:Int)).1.tmod 2=1)=x1;generalize decide (1<=(rd N8 c.2.2.2.2.2.1 (i:Int)).1/\(rd N8 c.2.2.2.2.2.1 (i:Int)).1<=c.2.2.2.2.2.2.1)=x2;generalize decide ((rd N8 c.2.2.2.2.2.1 (i:Int)).2.1=1)=x4;generalize decide ((rd N8 c.2.2.2.2.2.1 (i:Int)).2.1=2)=x5;generalize decide ((List.length (rd N8 c.2.2.2.2.2.1 (i:Int)).2.2.2:Int)>2000)=x6;cases x1<;>cases x2<;>cases x4<;>cases x5<;>cases x6<;>rfl
  · have g1:(i:Int)>0:=by omega
    have g2:(0:Int)<=(i:Int)-1:=by omega
    have g3:(i:Int)-1<(c.2.2.2.2.2.1.length:Int):=by omega
    simp only [A0 g1,A0 g2,A0 g3,A8 hz,B2,Bool.false_or];generalize decide ((rd N8 c.2.2.2.2.2.1 (i:Int)).1.tmod 2=1)=x1;generalize decide (1<=(rd N8 c.2.2.2.2.2.1 (i:Int)).1/\(rd N8 c.2.2.2.2.2.1 (i:Int)).1<=c.2.2.2.2.2.2.1)=x2;generalize decide ((rd N8 c.2.2.2.2.2.1 (i:Int)).1<=(rd N8 c.2.2.2.2.2.1 ((i:Int)-1)).1)=x3;generalize decide ((rd N8 c.2.2.2.2.2.1 (i:Int)).2.1=1)=x4;generalize decide ((rd N8 c.2.2.2.2.2.1 (i:Int)).2.1=2)=x5;generalize decide ((List.length (rd N8 c.2.2.2.2.2.1 (i:Int)).2.2.2:Int)>2000)=x6;cases x1<;>cases x2<;>cases x3<;>cases x4<;>cases x5<;>cases x6<;>rfl
def D9q(c:A1S):Bool:=decide (V7 (C2s c) 0 c.2.2.2.2.2.1.length=c.2.2.2.2.2.1.length)&&decide ((c.2.2.2.2.2.1.length:Int)<=100)
theorem D79(c:A1S)(h:c.2.2.2.2.2.1.length<=maxLen):B5u c=some (D9q c,()):=by
  simp only [B5u,C0L];exact E1r (D1c c h) (by simp [B1V]) _ _ rfl
theorem D5d{x y:Nat}(hx:x<9223372036854775808)(hy:y<9223372036854775808):bOr .i64 (x:Int) (y:Int)=((x ||| y:Nat):Int):=by
  have h:x ||| y<2 ^ 63:=C2U (by omega) (by omega);unfold bOr;rw [BitVec.toNat_or,bits_nat (by simp only [IntKind.bits];omega),bits_nat (by simp only [IntKind.bits];omega)];exact D3p (by omega)
def R1(b:List Int)(at_:Nat):Nat->Nat
  | 0=>0
  | j+1=>(R1 b at_ j*256) ||| (b.getD (at_+j) 0).toNat
theorem C6Q{b:List Int}(hb:Byt b)(i:Nat):0<=b.getD i 0/\b.getD i 0<256:=by
  by_cases h:i<b.length
  · simp only [List.getD,C3 h,A0v]
    exact hb _ (G3 h)
  · simp only [List.getD,A8f (show b.length<=i by omega),Option.getD_none]
    omega
theorem C5F{b:List Int}(hb:Byt b)(at_:Nat):∀ j,R1 b at_ j<2 ^ (8*j)
  | 0=>by simp [R1]
  | j+1=>by
    have h1:=C5F hb at_ j;have h2:=C6Q hb (at_+j);have e:2 ^ (8*(j+1))=2 ^ (8*j)*256:=by rw [show 8*(j+1)=8*j+8 by omega,B3s]
    refine C2U ?_ ?_
    · rw [e];exact Nat.mul_lt_mul_of_pos_right h1 (by omega)
    · have:1<=2 ^ (8*j):=Nat.one_le_two_pow
      rw [e];omega
theorem D9r{b:List Int}(hb:Byt b)(at_ j:Nat)(hj:j<7)(x:Int)(hx:x=b.getD (at_+j) 0):bOr .i64 (i64.wrap (((R1 b at_ j:Nat):Int)*256)) (i64.wrap x)=((R1 b at_ (j+1):Nat):Int):=by
  have h1:=C5F hb at_ j;have h2:=C6Q hb (at_+j);have h3:2 ^ (8*j)<=2 ^ 48:=A2m (by omega) (by omega);subst hx;rw [show ((R1 b at_ j:Nat):Int)*256=((R1 b at_ j*256:Nat):Int) by omega,D3p (by omega),show b.getD (at_+j) 0=(((b.getD (at_+j) 0).toNat:Nat):Int) by omega,D3p (by omega),D5d (by omega) (by omega)];simp only [R1,E6]
def B2U(b:List Int)(a:Int)(k:Nat):Int×Bool×Unit:=if 0<=a/\a<=(b.length:Int)-k then ((R1 b a.toNat k:Int),true,()) else (0,false,())
theorem B6U(b:List Int)(hb:Byt b)(h:b.length<=1000000000000000)(a:Int)(k:Nat)(hk:1<=k/\k<=7):A8q b a (k:Int)=some (B2U b a k):=by
  simp only [A8q,C0K,V1,B0,B2U];rw [A0 (show (1:Int)<=(k:Int)/\(k:Int)<=7 by omega),w64 (n:=(b.length:Int)-(k:Int)) (by omega) (by omega)];simp only [E0,A7];by_cases h1:a<0
  · rw [A0 h1,A5 (by omega)];rfl
  rw [A8 h1];by_cases h2:a>(b.length:Int)-k
  · rw [A0 h2,A5 (by omega)];rfl
  rw [A8 h2,A6 (by omega)];simp only [A7,K3];rw [w64 (n:=a+(k:Int)) (by omega) (by omega),A0 (show 0<=a by omega),A0 (show a<=a+(k:Int) by omega),A0 (show a+(k:Int)<=(b.length:Int) by omega)];simp only [B2];have hlen:((b.take (a+(k:Int)).toNat).drop a.toNat).length=k:=by simp;omega
  have key:=R5 (A7i b a (k:Int)) (fun j=>((R1 b a.toNat j:Int),(j:Int),())) k ((R1 b a.toNat k:Int),()) (fun j hj=>?_) ?_
  · have e:H6 (A7i b a (k:Int)) (0,0,())=_:=key
    rw [e]
  · have g1:(j:Int)<(k:Int):=by omega
    have g2:(0:Int)<=(j:Int):=by omega
    simp only [A7i];rw [w64 (n:=a+(k:Int)) (by omega) (by omega)];simp only [hlen,A0 g1,A0 g2,B2];rw [D9r hb a.toNat j (by omega) _ (by
      rw [D02 (by rw [hlen];exact hj)];simp [List.getD,show a.toNat+j<b.length by omega]),show (j:Int)+1=((j+1:Nat):Int) by omega,D3p (by omega)]
  · simp only [A7i]
    rw [w64 (n:=a+(k:Int)) (by omega) (by omega)];simp [hlen]
def A82(b:List Int)(a:Int):F3×Int×Int×Unit:=
  if 0<=a/\a<=(b.length:Int)-9 then
    (if (R1 b a.toNat 3:Int)>1000 then ((0,0,0,[]),a,2,())
      else if (R1 b a.toNat 3:Int)>(b.length:Int)-a-9 then ((0,0,0,[]),a,1,())
      else ((rd (.int .u8) b (a+3),rd (.int .u8) b (a+4),A14 .i64 (R1 b (a+5).toNat 4:Int) 2147483647,(b.take (a+9+(R1 b a.toNat 3:Int)).toNat).drop (a+9).toNat),a+9+(R1 b a.toNat 3:Int),0,()))
  else ((0,0,0,[]),a,1,())
theorem D5e{b:List Int}(hb:Byt b){i:Int}(h0:0<=i)(h1:i<(b.length:Int)):i64.wrap (rd (.int .u8) b i)=rd (.int .u8) b i:=by
  obtain ⟨n,rfl⟩:∃ n:Nat,i=(n:Int):=⟨i.toNat,by omega⟩;rw [D02 (by omega)];have:=hb b[n] (G3 (by omega));exact w64 (by omega) (by omega)
theorem B8L(b:List Int)(hb:Byt b)(h:b.length<=1000000000000000)(a:Int)(ha:-9223372036854775808<=a/\a<9223372036854775808):A51 b a=some (A82 b a):=by
  simp only [A51,B5r];rw [w64 (n:=(b.length:Int)-9) (by omega) (by omega)];simp only [A82];by_cases h1:a<0
  · rw [A0 h1,A5 (by omega)];rfl
  rw [A8 h1];by_cases h2:a>(b.length:Int)-9
  · rw [A0 h2,A5 (by omega)];rfl
  rw [A8 h2,A6 (by omega)];have hn:=C5F hb a.toNat 3;simp only [A7,K3];rw [show (3:Int)=((3:Nat):Int) from rfl,B6U b hb h a 3 (by omega),show (4:Int)=((4:Nat):Int) from rfl,B6U b hb h _ 4 (by omega)];have e3:B2U b a 3=((R1 b a.toNat 3:Int),true,()):=by unfold B2U;rw [A6 (by omega)]
  have e5:i64.wrap (a+5)=a+5:=w64 (by omega) (by omega);have e4:B2U b (a+5) 4=((R1 b (a+5).toNat 4:Int),true,()):=by unfold B2U;rw [A6 (by omega)]
  have w9:i64.wrap (a+9)=a+9:=w64 (by omega) (by omega);simp only [B0,e5,e3,e4,w9];by_cases h3:(R1 b a.toNat 3:Int)>1000
  · rw [A0 h3,A6 h3];rfl
  rw [A8 h3,A5 h3,w64 (n:=(b.length:Int)-(a+9)) (by omega) (by omega)];by_cases h4:(R1 b a.toNat 3:Int)>(b.length:Int)-a-9
  · rw [A0 (show (R1 b a.toNat 3:Int)>(b.length:Int)-(a+9) by omega),A6 h4];rfl
  rw [A8 (show ¬ (R1 b a.toNat 3:Int)>(b.length:Int)-(a+9) by omega),A5 h4];simp only [A7];have w3:i64.wrap (a+((3:Nat):Int))=a+3:=w64 (by omega) (by omega);have w4:i64.wrap (a+((4:Nat):Int))=a+4:=w64 (by omega) (by omega);have wn:i64.wrap (a+9+(R1 b a.toNat 3:Int))=a+9+(R1 b a.toNat 3:Int):=w64 (by omega) (by omega);simp only [w3,w4,wn];rw [A0 (show 0<=a+3 by omega),A0 (show a+3<(b.length:Int) by omega),A0 (show 0<=a+4 by omega),A0 (show a+4<(b.length:Int) by omega),A0 (show 0<=a+9 by omega),A0 (show a+9<=a+9+(R1 b a.toNat 3:Int) by omega),A0 (show a+9+(R1 b a.toNat 3:Int)<=(b.length:Int) by omega)];simp only [B2];rw [C7o _ (by simp;omega),D5e hb (show 0<=a+3 by omega) (by omega),D5e hb (show 0<=a+4 by omega) (by omega)];rfl
theorem D1d(b:List Int)(hb:Byt b)(h:b.length<=1048576)(a:Int)(k:Nat)(hk:1<=k/\k<=7):A8q b a (k:Int)=some (B2U b a k):=B6U b hb (by omega) a k hk
theorem B2V(xs:List Int):(strOf xs).size=xs.length:=strOfNums_size xs
theorem D1e(x:Int):0<=A14 .i64 x 255/\A14 .i64 x 255<=255:=by
  unfold A14;have h:(BitVec.ofInt i64.bits x &&& BitVec.ofInt i64.bits 255).toNat<=255:=by
    rw [BitVec.toNat_and];have:(BitVec.ofInt i64.bits (255:Int)).toNat=255:=bits_nat (w:=64) (x:=255) (by omega);rw [this];exact Nat.and_le_right
  rw [D3p (by omega)];omega
def Cur(c:K5):Prop:=List.length c.1<=1048576/\0<=c.2.1/\c.2.1<=1048576
theorem B29(c:K5)(h:Cur c):∃ r c',A4j c=some (r,c',())/\Cur c'/\0<=r/\r<=255:=by
  obtain ⟨h1,h2,h3⟩:=h;simp only [A4j,C0T];by_cases hi:c.2.1<(List.length c.1:Int)
  · simp only [A0 hi,A0 h2,B2]
    refine ⟨_,_,rfl,⟨h1,?_,?_⟩,D1e _⟩
    · simp only;rw [w64 (by omega) (by omega)];omega
    · simp only;rw [w64 (by omega) (by omega)];omega
  · simp only [A8 hi,A7]
    exact ⟨_,_,rfl,⟨h1,h2,h3⟩,D1e _⟩
theorem A2s(c:K5)(n:Int)(h:Cur c)(hn:0<n/\n<9223372036854775808):∃ r c',A0e c n=some (r,c',())/\Cur c'/\0<=r/\r<n:=by
  simp only [A0e,B8D];rw [A8 (show ¬ n<=0 by omega)];have hz:(n == 0)=false:=by simp;omega
  simp only [A7,hz];by_cases h1:n<=256
  · rw [A0 h1]
    obtain ⟨r,c',e,hc,hr⟩:=B29 c h;simp only [B2,e,B0];refine ⟨_,_,rfl,hc,?_⟩;rw [A2F hr.1];exact ⟨Int.emod_nonneg _ (by omega),C1A _ (by omega)⟩
  · rw [A8 h1]
    obtain ⟨r1,c1,e1,hc1,hr1⟩:=B29 c h;obtain ⟨r2,c2,e2,hc2,hr2⟩:=B29 c1 hc1;obtain ⟨r3,c3,e3,hc3,hr3⟩:=B29 c2 hc2;simp only [A7,e1,e2,e3,B0];refine ⟨_,_,rfl,hc3,?_⟩;rw [w64 (n:=r1*65536) (by omega) (by omega),w64 (n:=r2*256) (by omega) (by omega),w64 (n:=r1*65536+r2*256) (by omega) (by omega),w64 (n:=r1*65536+r2*256+r3) (by omega) (by omega)];rw [A2F (by omega)];exact ⟨Int.emod_nonneg _ (by omega),C1A _ (by omega)⟩
theorem D9s(c:K5)(xs:List X0)(h:Cur c)(hx:0<xs.length/\xs.length<=1048576):∃ s c',B9P c xs=some (s,c',())/\Cur c'/\s∈xs:=by
  obtain ⟨r,c',e,hc,h0,h1⟩:=A2s c (xs.length:Int) h (by omega);simp only [B9P,C2r,e,B0,A0 h0,A0 h1,B2];refine ⟨_,_,rfl,hc,?_⟩;obtain ⟨n,rfl⟩:∃ n:Nat,r=(n:Int):=⟨r.toNat,by omega⟩;rw [E3B (by omega)];exact G3 _
theorem A6M(c:K5)(xs:List Int)(h:Cur c)(hx:0<xs.length/\xs.length<=1048576):∃ s c',A5Q c xs=some (s,c',())/\Cur c'/\s∈xs:=by
  obtain ⟨r,c',e,hc,h0,h1⟩:=A2s c (xs.length:Int) h (by omega);simp only [A5Q,C2q,e,B0,A0 h0,A0 h1,B2];refine ⟨_,_,rfl,hc,?_⟩;obtain ⟨n,rfl⟩:∃ n:Nat,r=(n:Int):=⟨r.toNat,by omega⟩;rw [D02 (by omega)];exact G3 _
theorem wrap_u8(x:Int):0<=u8.wrap x/\u8.wrap x<256:=by
  simp only [IntKind.wrap,IntKind.bits,IntKind.signed];simp;omega
theorem C0e(c:K5)(n:Int)(h:Cur c)(hn:0<=n/\n<=1048576):∃ b c',A20 c n=some (b,c',())/\Cur c'/\(List.length b:Int)=n/\Byt b:=by
  simp only [A20,A9G];obtain ⟨z,e,hz⟩:=B54 (A76 A4j n) (fun l=>(n-l.1).toNat) (fun l=>0<=l.1/\l.1<=n/\Cur (l.2.1,l.2.2.1,l.2.2.2.1)/\(List.length l.2.2.2.2.1:Int)=l.1/\Byt l.2.2.2.2.1)
    (fun z=>Cur z.2.1/\(List.length z.1:Int)=n/\Byt z.1) (fun l hl=>by
      obtain ⟨h0,h1,hc,hlen,hb⟩:=hl;simp only [A76];by_cases hi:l.1<n
      · obtain ⟨r,c',e,hc',hr⟩:=B29 _ hc
        refine .inl ⟨(l.1+1,c'.1,c'.2.1,c'.2.2,l.2.2.2.2.1 ++ [u8.wrap r],()),?_,⟨by simp only;omega,by simp only;omega,hc',by simp;omega,?_⟩,by simp only;omega⟩
        · rw [A0 hi,e]
          simp only [B2,B0];rw [A0 (by simp;omega),A0 (by simp;omega),w64 (by omega) (by omega)];rfl
        · intro x hx
          rcases C8.1 hx with hx | hx
          · exact hb x hx
          · rw [B1.1 hx];exact wrap_u8 _
      · rw [A8 hi]
        exact .inr ⟨_,rfl,hc,by simp only;omega,hb⟩) (0,c.1,c.2.1,c.2.2,[],()) ⟨by simp,hn.1,h,by simp,fun x hx=>by cases hx⟩
  exact ⟨z.1,z.2.1,e,hz⟩
theorem D9t(a:List Int)(h:a.length<=1048576):∃ c,B9L a=some (c,())/\Cur c:=by
  simp only [B9L,C2n];obtain ⟨z,e,_⟩:=B54 (B8C a) (fun l=>((a.length:Int)-l.2.1).toNat) (fun l=>0<=l.2.1) (fun _=>True) (fun l hl=>by
    simp only [B8C];by_cases hi:l.2.1<(a.length:Int)
    · by_cases h4:l.2.1<4000
      · rw [A0 hi,A0 h4]
        simp only [B2,K3];rw [A0 hl,w64 (n:=l.2.1+1) (by omega) (by omega)];exact .inl ⟨_,rfl,by simp only;omega,by simp only;omega⟩
      · rw [A0 hi,A8 h4]
        exact .inr ⟨_,rfl,trivial⟩
    · rw [A8 hi]
      exact .inr ⟨_,rfl,trivial⟩) (i64.wrap (369369+(a.length:Int)),0,()) (by simp)
  rw [e];exact ⟨_,rfl,h,by simp,by simp⟩
theorem A10{a b:List Int}(ha:Byt a)(hb:Byt b):Byt (a++b):=fun x hx=>(C8.1 hx).elim (ha x) (hb x)
theorem D5f(n:Int)(k:Nat):Byt (big n k):=by
  intro x hx;obtain ⟨j,_,rfl⟩:=D6.1 hx;exact wrap_u8 _
theorem D1f(s:X0):Byt (bytesOf s):=by
  intro x hx;obtain ⟨b,_,rfl⟩:=D6.1 hx;have:=b.toNat_lt;omega
theorem B2W{a:List Int}(h:Byt a)(i:Nat):Byt (a.drop i):=fun x hx=>h x (A1B hx)
theorem C4B(go:Nat->Bool):∀ k i j,i<=j->j<V7 go i k->go j=true
  | 0,i,j,h1,h2=>by simp only [V7] at h2;omega
  | k+1,i,j,h1,h2=>by
    simp only [V7] at h2;split at h2
    · rename_i hg
      by_cases e:j=i
      · rw [e];exact hg
      · exact C4B go k (i+1) j (by omega) h2
    · omega
theorem C4C(go:Nat->Bool)(n p:Nat)(hp:p<=n)(h1:∀ j,j<p->go j=true)(h2:p<n->go p=false):V7 go 0 n=p:=by
  have hl:=C95 go n 0;rcases Nat.lt_trichotomy (V7 go 0 n) p with h | h | h
  · have:=C1r go n 0 (by omega)
    rw [h1 _ h] at this;cases this
  · exact h
  · have:=C4B go n 0 p (by omega) h
    rw [h2 (by omega)] at this;cases this
def D06(op:Int):Int:=if op=1 then 1000000000 else if op=3 then 1000000000 else if op=4 then 4294967295 else 0
def C2t(r:B5o):Bool:=decide (1<=r.1/\r.1<=6)&&idB r.2.1&&decide (0<=r.2.2/\r.2.2<=D06 r.1)
theorem C6R(r:B5o)(h:r.2.1.size<=maxLen):B4s r=some (C2t r,()):=by
  simp only [B4s,C2p,A4U,D9n _ h,B0,C2t,A7P,B3N,D06];cases decide (1<=r.1/\r.1<=6)
  · rfl
  cases idB r.2.1
  · rfl
  simp only [E0,A7,K3,J9];have hz:decide (0<=r.2.2/\r.2.2<=0)=decide (r.2.2=0):=by
    by_cases h0:r.2.2=0
    · rw [A0 h0,A0 (by omega)]
    · rw [A8 h0,A8 (by omega)]
  by_cases h1:r.1=1
  · simp [h1]
  by_cases h3:r.1=3
  · simp [h3]
  by_cases h4:r.1=4
  · simp [h4]
  simp [h1,h3,h4];rw [B7d];simp;omega
theorem D7A{a b:List Int}(ha:Byt a)(hb:Byt b)(h:(strOf a).toList=(strOf b).toList):a=b:=by
  rw [A6A,A6A] at h;have h2:(a.map fun n=>UInt8.ofNat n.toNat)=b.map fun n=>UInt8.ofNat n.toNat:=h
  have hl:a.length=b.length:=by simpa using M0 List.length h2
  refine A3L hl fun i h1 h3=>?_
  have h4:=M0 (fun l=>l[i]?) h2;simp only [L8,C3 h1,C3 h3,L7,G9] at h4;exact E3C (ha _ (G3 h1)) (hb _ (G3 h3)) h4
def pri:List Int:= [80,82,73,32,42,32,72,84,84,80,47,50,46,48,13,10,13,10,83,77,13,10,13,10]
def prefaceB:List Int:=pri++A4M (4,0,0,[])
theorem D1g:prefaceB.length=33:=by simp [prefaceB,A4M,pri,B0C]
theorem D07:B3V=some (prefaceB,()):=by
  simp only [B3V,B8I];rw [A6L _ (by simp)];have:A0M (4,0,0,[])=true:=by decide
  rw [this];have hl:(A4M (4,0,0,[])).length=9:=by simp [A4M,B0C]
  simp only [B0,M7];rw [A0 (by rw [hl];simp),A0 (by rw [hl];simp)];rfl
set_option maxRecDepth 100000
def lensT:List Int:= [13,23,28,28,28,28,28,28,28,24,30,28,28,30,28,28,28,28,28,28,28,28,30,28,28,28,28,28,28,28,28,28,6,10,10,12,13,6,8,11,10,10,8,11,8,6,6,6,5,5,5,6,6,6,6,6,6,6,7,8,15,6,12,10,13,6,7,7,7,7,7,7,7,7,7,7,7,7,7,7,7,7,7,7,7,7,7,7,8,7,8,13,19,13,14,6,15,5,6,5,6,5,6,6,6,5,7,7,6,6,6,5,6,7,6,5,5,6,7,7,7,7,7,15,11,14,13,28,20,22,20,20,22,22,22,23,22,23,23,23,23,23,24,23,24,24,22,23,24,23,23,23,23,21,22,23,22,23,23,24,22,21,20,22,22,23,23,21,23,22,22,24,21,22,23,23,21,21,22,21,23,22,23,23,20,22,22,22,23,22,22,23,26,26,20,19,22,23,22,25,26,26,26,27,27,26,24,25,19,21,26,27,27,26,27,24,21,21,26,26,28,27,27,27,20,24,20,21,22,21,21,23,22,22,25,25,24,24,26,23,26,27,26,26,27,27,27,27,27,28,27,27,27,27,27,26,30]
theorem C4D:B6L=some (lensT,()):=rfl
theorem A0r:lensT.length=257:=by kernel_rfl
theorem C96:(lensT.all fun x=>decide (5<=x)&&decide (x<=30))=true:=by kernel_rfl
theorem u64_nonneg(x:Int):¬ (u64.wrap x<0):=by
  simp only [IntKind.wrap,IntKind.bits,IntKind.signed,A4t];simp;omega
def cst(n:Int)(st:Int×Int×List Int)(sym:Nat):Int×Int×List Int:=
  if (lensT.getD sym 0)=n then
    (let code:=if st.2.1>0 then i64.wrap ((i64.wrap (st.1+1))*2 ^ (min (u64.wrap (i64.wrap (n-st.2.1))).toNat i64.bits)) else st.1
     (code,n,st.2.2.set sym code)) else st
def B9e(n:Int)(st:Int×Int×List Int):Nat->Int×Int×List Int
  | 0=>st
  | k+1=>cst n (B9e n st k) k
def lvl(st:Int×Int×List Int):Nat->Int×Int×List Int
  | 0=>st
  | k+1=>B9e ((k:Int)+1) (lvl st k) 257
def D9u(b:Int×Int×List Int):List Int:=(lvl b 30).2.2
theorem D1h(b:Int×Int×List Int):D9u b=(lvl b 30).2.2:=rfl
def codesT:List Int:=D9u (0,0,List.replicate 257 0)
theorem E1s(n:Int)(st:Int×Int×List Int)(sym:Nat):(cst n st sym).2.2.length=st.2.2.length:=by
  unfold cst;split<;>simp
theorem C6S(n:Int)(st:Int×Int×List Int):∀ k,(B9e n st k).2.2.length=st.2.2.length
  | 0=>rfl
  | k+1=>by rw [B9e,E1s,C6S n st k]
theorem D08(st:Int×Int×List Int):∀ k,(lvl st k).2.2.length=st.2.2.length
  | 0=>rfl
  | k+1=>by rw [lvl,C6S,D08 st k]
theorem E1t{xs:List Int}{i:Nat}:rd (.int .i64) xs (i:Int)=xs.getD i 0:=by
  simp [rd,zd]
theorem D3q(c l s n:Int)(o:List Int)(ho:o.length=257)(hn:n<1000)(hn0:0<=n)(a b d:Int)(e:List Int) :
    H6 (A6I (lensT,()) (a,b,n,e,())) (c,l,0,o,())=some (.inl ((B9e n (c,l,o) 257).1,(B9e n (c,l,o) 257).2.1,n+1,(B9e n (c,l,o) 257).2.2,())):=by
  have hl:∀ k,(B9e n (c,l,o) k).2.2.length=257:=fun k=>by rw [C6S];exact ho
  refine R5 (A6I (lensT,()) (a,b,n,e,())) (fun k=>((B9e n (c,l,o) k).1,(B9e n (c,l,o) k).2.1,(k:Int),(B9e n (c,l,o) k).2.2,())) 257 _ (fun k hk=>?_) ?_
  · have h1:(k:Int)<=256:=by omega
    have h2:(0:Int)<=(k:Int):=by omega
    have h3:(k:Int)<(lensT.length:Int):=by rw [A0r];omega
    have h4:(k:Int)<((B9e n (c,l,o) k).2.2.length:Int):=by rw [hl];omega
    have h5:i64.wrap ((k:Int)+1)=((k+1:Nat):Int):=by rw [w64 (by omega) (by omega)];omega
    simp only [A6I,A0 h1,A0 h2,A0 h3,A0 h4,B2,E1t,h5,A8 (u64_nonneg _),A7,E6,B0];have e1:B9e n (c,l,o) (k+1)=cst n (B9e n (c,l,o) k) k:=rfl;rw [e1];unfold cst;by_cases hq:lensT.getD k 0=n
    · simp only [hq,A0B,E0,A7,M7]
      by_cases hg:(B9e n (c,l,o) k).2.1>0
      · simp only [A0 hg,B2,A6 hg]
      · simp only [A8 hg,A7,A5 hg]
    · simp only [A8 hq,M1,B2,A5 hq]
  · have h1:¬ ((257:Nat):Int)<=256:=by omega
    simp only [A6I,A8 h1,A7];rw [w64 (by omega) (by omega)]
theorem D09:B0h=some (codesT,()):=by
  show B0h=some (D9u (0,0,List.replicate 257 0),());rw [D1h];simp only [B0h,B8F,C4D,B0];have hl:∀ k,(lvl (0,0,List.replicate 257 0) k).2.2.length=257:=fun k=>by rw [D08];simp
  refine R5 (B06 (lensT,())) (fun k=>((lvl (0,0,List.replicate 257 0) k).1,(lvl (0,0,List.replicate 257 0) k).2.1,((k:Int)+1),(lvl (0,0,List.replicate 257 0) k).2.2,())) 30 _ (fun k hk=>?_) ?_
  · have h1:(k:Int)+1<=30:=by omega
    simp only [B06,A0 h1,B2];rw [D3q _ _ 0 _ _ (hl k) (by omega) (by omega) _ _ 0 _];simp only [lvl]
    congr 4
  · have h1:¬ ((30:Nat):Int)+1<=30:=by omega
    simp only [B06,A8 h1,A7]
theorem A9K:codesT.length=257:=by
  show (D9u (0,0,List.replicate 257 0)).length=257;rw [D1h,D08];simp
set_option maxRecDepth 100000
def lensS:X0:=⟨#[49,51,32,50,51,32,50,56,32,50,56,32,50,56,32,50,56,32,50,56,32,50,56,32,50,56,32,50,52,32,51,48,32,50,56,32,50,56,32,51,48,32,50,56,32,50,56,32,50,56,32,50,56,32,50,56,32,50,56,32,50,56,32,50,56,32,51,48,32,50,56,32,50,56,32,50,56,32,50,56,32,50,56,32,50,56,32,50,56,32,50,56,32,50,56,32,54,32,49,48,32,49,48,32,49,50,32,49,51,32,54,32,56,32,49,49,32,49,48,32,49,48,32,56,32,49,49,32,56,32,54,32,54,32,54,32,53,32,53,32,53,32,54,32,54,32,54,32,54,32,54,32,54,32,54,32,55,32,56,32,49,53,32,54,32,49,50,32,49,48,32,49,51,32,54,32,55,32,55,32,55,32,55,32,55,32,55,32,55,32,55,32,55,32,55,32,55,32,55,32,55,32,55,32,55,32,55,32,55,32,55,32,55,32,55,32,55,32,55,32,56,32,55,32,56,32,49,51,32,49,57,32,49,51,32,49,52,32,54,32,49,53,32,53,32,54,32,53,32,54,32,53,32,54,32,54,32,54,32,53,32,55,32,55,32,54,32,54,32,54,32,53,32,54,32,55,32,54,32,53,32,53,32,54,32,55,32,55,32,55,32,55,32,55,32,49,53,32,49,49,32,49,52,32,49,51,32,50,56,32,50,48,32,50,50,32,50,48,32,50,48,32,50,50,32,50,50,32,50,50,32,50,51,32,50,50,32,50,51,32,50,51,32,50,51,32,50,51,32,50,51,32,50,52,32,50,51,32,50,52,32,50,52,32,50,50,32,50,51,32,50,52,32,50,51,32,50,51,32,50,51,32,50,51,32,50,49,32,50,50,32,50,51,32,50,50,32,50,51,32,50,51,32,50,52,32,50,50,32,50,49,32,50,48,32,50,50,32,50,50,32,50,51,32,50,51,32,50,49,32,50,51,32,50,50,32,50,50,32,50,52,32,50,49,32,50,50,32,50,51,32,50,51,32,50,49,32,50,49,32,50,50,32,50,49,32,50,51,32,50,50,32,50,51,32,50,51,32,50,48,32,50,50,32,50,50,32,50,50,32,50,51,32,50,50,32,50,50,32,50,51,32,50,54,32,50,54,32,50,48,32,49,57,32,50,50,32,50,51,32,50,50,32,50,53,32,50,54,32,50,54,32,50,54,32,50,55,32,50,55,32,50,54,32,50,52,32,50,53,32,49,57,32,50,49,32,50,54,32,50,55,32,50,55,32,50,54,32,50,55,32,50,52,32,50,49,32,50,49,32,50,54,32,50,54,32,50,56,32,50,55,32,50,55,32,50,55,32,50,48,32,50,52,32,50,48,32,50,49,32,50,50,32,50,49,32,50,49,32,50,51,32,50,50,32,50,50,32,50,53,32,50,53,32,50,52,32,50,52,32,50,54,32,50,51,32,50,54,32,50,55,32,50,54,32,50,54,32,50,55,32,50,55,32,50,55,32,50,55,32,50,55,32,50,56,32,50,55,32,50,55,32,50,55,32,50,55,32,50,55,32,50,54,32,51,48]⟩
def lensP:List (List UInt8):=Lib.splitK [32] 0 (Lib.count lensS.data.toList [32]) lensS.data.toList
theorem D9v:(lensP.map Lib.atoi)=lensT.map some:=by kernel_rfl
theorem D9w:(lensP.all fun x=>Nat.ble x.length 18)=true:=by kernel_rfl
theorem D1i:(Lib.splitB ⟨#[32]⟩ 0 (Lib.countB lensS ⟨#[32]⟩) lensS).map (·.data.toList)=lensP:=by
  rw [Lib.splitB_data];rfl
theorem D7B(s:X0)(P:List (List UInt8))(hs:s.size<4294967281)(h0:(Lib.splitB ⟨#[32]⟩ 0 (Lib.countB s ⟨#[32]⟩) s).map (·.data.toList)=P)(hP:(P.map Lib.atoi)=lensT.map some)(hz:(P.all fun x=>Nat.ble x.length 18)=true) :
    ∃ c:List X0,A9o s ⟨#[32]⟩=some (c,())/\c.length=257/\∀ k (h:k<c.length),B5U c[k]=some (lensT.getD k 0,(),()):=by
  have h1:(decide (s.size<4294967281)&&decide (1<=(⟨#[32]⟩:X0).size))=true:=by
    rw [A0 hs];rfl
  refine ⟨_,by simp only [A9o,h1,B2];rfl,?_,fun k hk=>?_⟩
  · have:=M0 List.length h0
    rw [T9] at this;rw [this];have h2:=M0 List.length hP;rw [T9,T9,A0r] at h2;exact h2
  · generalize hc:Lib.splitB ⟨#[32]⟩ 0 (Lib.countB s ⟨#[32]⟩) s=c at *
    have e:=h0;have hk2:k<P.length:=by rw [<- e,T9];exact hk
    have e1:(c[k]).data.toList=P[k]:=by
      have:(c.map (·.data.toList))[k]? = P[k]?:=by rw [e]
      rw [L8,C3 hk,C3 hk2] at this;simpa using this
    have e2:Lib.atoi P[k]=some (lensT.getD k 0):=by
      have:(P.map Lib.atoi)[k]? = (lensT.map some)[k]?:=by rw [hP]
      rw [L8,C3 hk2,L8] at this;cases hq:lensT[k]? with
      | none=>rw [hq] at this;cases this
      | some v=>
        rw [hq] at this;simp only [L7,G9] at this;rw [this,C9,hq];rfl
    have e3:(c[k]).size<=18:=by
      have h4:=C4.1 hz P[k] (G3 hk2);have h5:=D4 h4;rw [<- e1] at h5;exact h5
    simp only [B5U,A0 e3,B2,e1,e2]
theorem E00:lensS.size<4294967281:=by
  have:Nat.ble (lensS.size+1) 4294967281=true:=by kernel_rfl
  exact D4 this
theorem E01:∃ c:List X0,A9o lensS ⟨#[32]⟩=some (c,())/\c.length=257/\∀ k (h:k<c.length),B5U c[k]=some (lensT.getD k 0,(),()):=
  D7B lensS lensP E00 D1i D9v D9w
set_option maxRecDepth 100000
def szs(r:List (Int×Int)):Nat->List (Int×Int)
  | 0=>r
  | k+1=>(szs r k).set k (((szs r k).getD k (0,0)).1,lensT.getD k 0)
theorem D5g(r:List (Int×Int)):∀ k,(szs r k).length=r.length
  | 0=>rfl
  | k+1=>by rw [szs,A2R,D5g r k]
theorem E1u:szs (List.replicate 257 (0,0)) 257=lensT.map fun n=>(0,n):=by kernel_rfl
def ist(n:Int)(st:Int×List (Int×Int))(sym:Nat):Int×List (Int×Int):=
  if (st.2.getD sym (0,0)).2=n then (i64.wrap (st.1+1),st.2.set sym (st.1,(st.2.getD sym (0,0)).2)) else st
def C2u(n:Int)(st:Int×List (Int×Int)):Nat->Int×List (Int×Int)
  | 0=>st
  | k+1=>ist n (C2u n st k) k
def C2v(st:Int×List (Int×Int)):Nat->Int×List (Int×Int)
  | 0=>st
  | k+1=>C2u ((k:Int)+1) (i64.wrap ((C2v st k).1*2),(C2v st k).2) 257
theorem E1v(n:Int)(st:Int×List (Int×Int))(sym:Nat):(ist n st sym).2.length=st.2.length:=by
  unfold ist;split<;>simp
theorem C6T(n:Int)(st:Int×List (Int×Int)):∀ k,(C2u n st k).2.length=st.2.length
  | 0=>rfl
  | k+1=>by rw [C2u,E1v,C6T n st k]
theorem D1j(st:Int×List (Int×Int)):∀ k,(C2v st k).2.length=st.2.length
  | 0=>rfl
  | k+1=>by rw [C2v,C6T,D1j st k]
def D1k(a:Int×List (Int×Int)):List (Int×Int):=(C2v a 30).2
theorem D7C(a:Int×List (Int×Int)):D1k a=(C2v a 30).2:=rfl
def E3D:List (Int×Int):=D1k (0,lensT.map fun n=>(0,n))
def D1l(n:Int)(a:Int×List (Int×Int))(b:Int×Int×List Int):Prop:=
  a.2=b.2.2.zip lensT/\b.2.2.length=257/\((b.2.1=0/\b.1=0/\a.1=0)\/(1<=b.2.1/\b.2.1<=n/\a.1=i64.wrap ((b.1+1)*2 ^ (n-b.2.1).toNat)))
theorem D1m(x y:Int):i64.wrap (i64.wrap x*y)=i64.wrap (x*y):=by
  simp only [B5T];generalize hq:(x+9223372036854775808) / 18446744073709551616=q;have e:(x+9223372036854775808) % 18446744073709551616-9223372036854775808=x-18446744073709551616*q:=by omega
  rw [e,Int.sub_mul,Int.mul_assoc];generalize x*y=z;generalize q*y=r;omega
theorem E1w{xs ys:List Int}{k:Nat}{c:Int}(h:k<ys.length):(xs.zip ys).set k (c,ys.getD k 0)=(xs.set k c).zip ys:=by
  refine A3L (by simp) fun i h1 h2=>?_
  simp only [List.getElem_set,List.getElem_zip];split
  · rename_i e
    subst e;rw [C9,C3 h];rfl
  · rfl
theorem E20{xs:List Int}{k:Nat}(hx:xs.length=257)(hk:k<257):((xs.zip lensT).getD k (0,0)).2=lensT.getD k 0:=by
  have h1:k<(xs.zip lensT).length:=by rw [A6u,hx,A0r];omega
  have h2:k<lensT.length:=by rw [A0r];exact hk
  rw [C9,C9,C3 h1,C3 h2];simp
theorem E02{n:Int}(hn:1<=n/\n<=30){a:Int×List (Int×Int)}{b:Int×Int×List Int}(h:D1l n a b){k:Nat}(hk:k<257):D1l n (ist n a k) (cst n b k):=by
  obtain ⟨c,tab⟩:=a;obtain ⟨code,p,codes⟩:=b;obtain ⟨h1,h2,h3⟩:=h;simp only at h1 h2 h3;subst h1;have hg:=E20 h2 hk;unfold ist cst;simp only [hg];by_cases hq:lensT.getD k 0=n
  case neg=>rw [A5 hq,A5 hq];exact ⟨rfl,h2,h3⟩
  rw [A6 hq,A6 hq];have hc:(if p>0 then i64.wrap (i64.wrap (code+1)*2 ^ (min (u64.wrap (i64.wrap (n-p))).toNat i64.bits)) else code)=c:=by
    rcases h3 with ⟨e1,e2,e3⟩ | ⟨e1,e2,e3⟩
    · rw [A5 (by omega),e2,e3]
    · rw [A6 (by omega),w64 (n:=n-p) (by omega) (by omega),D1m,e3]
      have e4:min (u64.wrap (n-p)).toNat i64.bits=(n-p).toNat:=by
        simp only [IntKind.wrap,IntKind.bits,IntKind.signed,A4t];simp;omega
      rw [e4]
  simp only [hc];refine ⟨?_,by simpa using h2,.inr ⟨hn.1,B8u _,by simp⟩⟩;rw [<- E1w (by rw [A0r];exact hk),hq]
theorem D5h{n:Int}(hn:1<=n/\n<=30){a:Int×List (Int×Int)}{b:Int×Int×List Int}(h:D1l n a b):∀ k,k<=257->D1l n (C2u n a k) (B9e n b k)
  | 0,_=>h
  | k+1,hk=>E02 hn (D5h hn h k (by omega)) (by omega)
theorem D5i{a:Int×List (Int×Int)}{b:Int×Int×List Int}(h:D1l 0 a b):∀ k:Nat,k<=30->D1l (k:Int) (C2v a k) (lvl b k)
  | 0,_=>h
  | k+1,hk=>by
    obtain ⟨h1,h2,h3⟩:=D5i h k (by omega);refine D5h (by omega) (a:=(i64.wrap ((C2v a k).1*2),(C2v a k).2)) ⟨h1,h2,?_⟩ 257 (C0 _);rcases h3 with ⟨e1,e2,e3⟩ | ⟨e1,e2,e3⟩
    · exact .inl ⟨e1,e2,by simp only [e3];rfl⟩
    · refine .inr ⟨e1,by omega,?_⟩
      simp only [e3];rw [D1m,show (((k+1:Nat):Int)-(lvl b k).2.1).toNat=((k:Int)-(lvl b k).2.1).toNat+1 by omega,Int.pow_succ,Int.mul_assoc]
theorem D1n:∀ xs:List Int,(xs.map fun n=>((0:Int),n))=(List.replicate xs.length (0:Int)).zip xs
  | []=>rfl
  | x::xs=>by simp only [H3,G0,A38,List.zip_cons_cons,D1n xs]
theorem D7D{a:Int×List (Int×Int)}{b:Int×Int×List Int}(h:D1l 0 a b):D1k a=(D9u b).zip lensT:=(D5i h 30 (C0 _)).1
theorem E4N:D1l 0 (0,lensT.map fun n=>(0,n)) (0,0,List.replicate 257 0):=⟨by have h:=D1n lensT;rw [A0r] at h;exact h,R9,.inl ⟨rfl,rfl,rfl⟩⟩
theorem D7E:E3D=codesT.zip lensT:=D7D E4N
theorem D1o{xs:List (Int×Int)}{i:Nat}:rd Q0 xs (i:Int)=xs.getD i (0,0):=by
  simp [rd,zd]
theorem D3r(c n:Int)(o:List (Int×Int))(ho:o.length=257)(hn:n<1000)(hn0:0<=n)(a:Int)(e:List (Int×Int)) :
    H6 (A6F (a,n,e,())) (c,0,o,())=some (.inl ((C2u n (c,o) 257).1,n+1,(C2u n (c,o) 257).2,())):=by
  have hl:∀ k,(C2u n (c,o) k).2.length=257:=fun k=>by rw [C6T];exact ho
  refine R5 (A6F (a,n,e,())) (fun k=>((C2u n (c,o) k).1,(k:Int),(C2u n (c,o) k).2,())) 257 _ (fun k hk=>?_) ?_
  · have h1:(k:Int)<257:=by omega
    have h2:(0:Int)<=(k:Int):=by omega
    have h5:i64.wrap ((k:Int)+1)=((k+1:Nat):Int):=by rw [w64 (by omega) (by omega)];omega
    simp only [A6F,A0 h1,A0 h2,B2,D1o,h5,E6];have e1:C2u n (c,o) (k+1)=ist n (C2u n (c,o) k) k:=rfl;rw [e1];unfold ist;by_cases hq:((C2u n (c,o) k).2.getD k (0,0)).2=n
    · simp only [A0 hq,B2,A6 hq]
    · simp only [A8 hq,A7,A5 hq]
  · have h1:¬ ((257:Nat):Int)<257:=by omega
    simp only [A6F,A8 h1,A7];rw [w64 (by omega) (by omega)]
theorem D0A(a:Int×List (Int×Int))(ha:a.2.length=257):H6 (A4C) (a.1,1,a.2,())=some (D1k a,()):=by
  have hl:∀ k,(C2v a k).2.length=257:=fun k=>by rw [D1j,ha]
  rw [D7C];refine R5 A4C (fun k=>((C2v a k).1,((k:Int)+1),(C2v a k).2,())) 30 _ (fun k hk=>?_) ?_
  · have h1:(k:Int)+1<=30:=by omega
    simp only [A4C,A0 h1,B2];rw [D3r _ _ _ (hl k) (by omega) (by omega)];simp only [C2v]
    congr 4
  · have h1:¬ ((30:Nat):Int)+1<=30:=by omega
    simp only [A4C,A8 h1,A7]
theorem D0B:B0f=some (codesT.zip lensT,()):=by
  obtain ⟨c,hc,hcl,hca⟩:=E01;rw [<- D7E];show B0f=some (D1k (0,lensT.map fun n=>(0,n)),());have e0:B0f=B0 (B0 (A9o lensS ⟨#[32]⟩) fun c7=>H6 (A4B B5U c7) (0,(List.replicate 257 (0,0)),())) fun (m1:List A62×Unit)=>H6 (A4C) (0,1,m1.1,()):=rfl
  rw [e0,hc];have f1:H6 (A4B B5U (c,())) (0,(List.replicate 257 (0,0)),())=some (lensT.map fun n=>(0,n),()):=by
    have hl:∀ k,(szs (List.replicate 257 (0,0)) k).length=257:=fun k=>by rw [D5g];simp
    refine R5 (A4B B5U (c,())) (fun k=>((k:Int),szs (List.replicate 257 (0,0)) k,())) 257 _ (fun k hk=>?_) ?_
    · have h1:(k:Int)<257:=by omega
      have h2:(0:Int)<=(k:Int):=by omega
      have h3:(k:Int)<(c.length:Int):=by rw [hcl];omega
      have h5:i64.wrap ((k:Int)+1)=((k+1:Nat):Int):=by rw [w64 (by omega) (by omega)];omega
      have h6:rd .str c (k:Int)=c[k]'(by omega):=A81 (k:=.str) (by omega);simp only [A4B,A0 h1,A0 h2,A0 h3,B2,h6,hca k (by omega),B0,D1o,h5,E6];rfl
    · have h1:¬ ((257:Nat):Int)<(c.length:Int):=by rw [hcl];omega
      simp only [A4B,A8 h1,A7,E1u]
  simp only [B0,f1];exact D0A (0,lensT.map fun n=>(0,n)) (by simp only [T9,A0r])
set_option maxRecDepth 100000
theorem gA{R:Type}{n:Nat}{X:Option R}(h:n<=140737488355328):(bif decide (n<=9223372036854775807) then bif decide (n*1<=140737488355328) then X else none else none)=X:=by
  rw [A0 (by omega),A0 (by omega)];rfl
theorem D7F{R:Type}{n:Nat}{X:Option R}(h:n<=1000000000000):(bif decide (n<=9223372036854775807) then bif decide (n*32<=140737488355328) then X else none else none)=X:=by
  rw [A0 (by omega),A0 (by omega)];rfl
theorem E3k{R:Type}{n:Nat}{X:Option R}(h:n<=1000000000000):(bif decide (n<=9223372036854775807) then bif decide (n*48<=140737488355328) then X else none else none)=X:=by
  rw [A0 (by omega),A0 (by omega)];rfl
def more:Nat->Int->List Int
  | 0,v=> [u8.wrap v]
  | k+1,v=>if v>127 then u8.wrap (bOr .i64 (A14 .i64 v 127) 128)::more k (v.fdiv 128) else [u8.wrap v]
theorem D1p:∀ k v,(more k v).length<=k+1
  | 0,v=>by simp [more]
  | k+1,v=>by
    have:=D1p k (v.fdiv 128);simp only [more];split<;>simp<;>omega
theorem D1q:∀ k v,Byt (more k v)
  | 0,v=>fun x hx=>by rcases B1.1 hx with rfl;exact wrap_u8 _
  | k+1,v=>by
    have ih:=D1q k (v.fdiv 128);simp only [more];split
    · intro x hx
      rcases B9.1 hx with rfl | hx
      · exact wrap_u8 _
      · exact ih x hx
    · exact fun x hx=>by rcases B1.1 hx with rfl;exact wrap_u8 _
theorem C97:∀ (k:Nat) (v:Int) (b:List Int),0<=v->v<128 ^ (k+1)->b.length+k+2<=140737488355328->
    ∃ v' ex,H6 A3v (v,b,())=some (v',b++ex,())/\ex ++ [u8.wrap v']=more k v/\ex.length<=k
  | 0,v,b,h0,h1,hb=>by
    have h1':v<128:=by simpa using h1
    have h2:¬ v>127:=by omega
    refine ⟨v,[],?_,rfl,by simp⟩;rw [I3];simp only [A3v,A8 h2,A7,F8]
  | k+1,v,b,h0,h1,hb=>by
    by_cases h2:v>127
    · have h3:v.fdiv 128=v / 128:=A2G _ (by omega)
      obtain ⟨v',ex,e1,e2,e3⟩:=C97 k (v.fdiv 128) (b ++ [u8.wrap (bOr .i64 (A14 .i64 v 127) 128)]) (by omega) (by rw [h3];rw [Int.pow_succ] at h1;omega) (by simp;omega);refine ⟨v',u8.wrap (bOr .i64 (A14 .i64 v 127) 128)::ex,?_,?_,by simp;omega⟩
      · rw [I3]
        simp only [A3v,A0 h2,B2];rw [gA (by simp;omega)];simp only [e1];simp
      · simp only [more,A6 h2,D8,e2]
    · refine ⟨v,[],?_,by simp only [more,A5 h2,G5],by simp⟩
      rw [I3];simp only [A3v,A8 h2,A7,F8]
def pfx(M F v:Int):List Int:=if v<M then [u8.wrap (bOr .i64 F v)] else u8.wrap (bOr .i64 F M)::more 3 (v-M)
theorem B9Q(M F v:Int):(pfx M F v).length<=5:=by
  unfold pfx;split
  · simp
  · have:=D1p 3 (v-M);simp;omega
theorem C5G(M F v:Int):Byt (pfx M F v):=by
  unfold pfx;split
  · exact fun x hx=>by rcases B1.1 hx with rfl;exact wrap_u8 _
  · intro x hx
    rcases B9.1 hx with rfl | hx
    · exact wrap_u8 _
    · exact D1q _ _ x hx
theorem D5j(n f M F v:Int)(b:List Int)(h1:¬ (u64.wrap n<0))(h2:i64.wrap (i64.wrap (1*2 ^ (min (u64.wrap n).toNat i64.bits))-1)=M)(h3:B5n .i64 f M=F)(h5:1<=n/\n<=8)(h6:0<=f/\f<=255)
    (hM:15<=M/\M<=127) (hv:0<=v/\v<=16777216) (hb:b.length+16<=140737488355328):A4E b n f v=some (b++pfx M F v,()):=by
  have a1:¬ v>16777216:=by omega
  have a2:¬ v<0:=by omega
  simp only [A4E,B4E,A4U,A0 h5,A0 h6,B0,K3,E0,A7,A8 h1,h2,h3,A8 a1,A8 a2,G5];rw [gA (by simp;omega)];by_cases hq:v<M
  · rw [A0 hq,B2,gA (by simp;omega),pfx,A6 hq]
  · rw [A8 hq,A7,gA (by simp;omega),w64 (by omega) (by omega)]
    obtain ⟨v',ex,e1,e2,e3⟩:=C97 3 (v-M) (b ++ [u8.wrap (bOr .i64 F M)]) (by omega) (by omega) (by simp;omega);rw [e1];simp only [B0];rw [gA (by simp;omega),pfx,A5 hq,<- e2];simp
set_option maxRecDepth 100000
def leA(s:X0)(k:Nat):Int:=lensT.getD (bt s k).toNat 0
def coA(s:X0)(k:Nat):Int:=codesT.getD (bt s k).toNat 0
theorem C2w(s:X0)(k:Int):(bt s k).toNat<257:=by have:=D1a s k;have:=C1q s k;omega
theorem C5H(s:X0)(k:Nat):5<=leA s k/\leA s k<=30:=by
  have h:=C4.1 C96 (leA s k) (by
    unfold leA;rw [C9,C3 (by rw [A0r];exact C2w s k)];exact G3 _)
  simpa using h
theorem E03(s:X0)(k:Nat):rd (.int .i64) lensT (bt s k)=leA s k:=by
  simp [rd,zd,leA]
theorem E04(s:X0)(k:Nat):rd (.int .i64) codesT (bt s k)=coA s k:=by
  simp [rd,zd,coA]
theorem E21(s:X0)(k:Nat)(xs:List (Int×Int))(hx:xs=codesT.zip lensT):rd Q0 xs (bt s k)=(coA s k,leA s k):=by
  subst hx;have h1:(bt s k).toNat<codesT.length:=by rw [A9K];exact C2w s k
  have h2:(bt s k).toNat<lensT.length:=by rw [A0r];exact C2w s k
  have h3:(bt s k).toNat<(codesT.zip lensT).length:=by rw [A6u];omega
  unfold rd;rw [C9,C3 h3];simp [coA,leA,C9,C3 h1,C3 h2]
def dr:Nat->Int->Int->Int×Int×List Int
  | 0,v,n=>(v,n,[])
  | k+1,v,n=>if n>=8 then ((dr k (A14 .i64 v (i64.wrap ((i64.wrap (1*2 ^ (min (u64.wrap (n-8)).toNat i64.bits)))-1))) (n-8)).1,(dr k (A14 .i64 v (i64.wrap ((i64.wrap (1*2 ^ (min (u64.wrap (n-8)).toNat i64.bits)))-1))) (n-8)).2.1,
      u8.wrap (v.fdiv (2 ^ (min (u64.wrap (n-8)).toNat i64.bits)))::(dr k (A14 .i64 v (i64.wrap ((i64.wrap (1*2 ^ (min (u64.wrap (n-8)).toNat i64.bits)))-1))) (n-8)).2.2) else (v,n,[])
theorem E3l:∀ (k:Nat) (v n:Int),0<=n->n<8*(k+1)->(dr k v n).2.1=n % 8/\((dr k v n).2.2.length:Int)=n / 8
  | 0,v,n,h0,h1=>⟨by simp only [dr];omega,by simp only [dr,J7];omega⟩
  | k+1,v,n,h0,h1=>by
    by_cases h:n>=8
    · have:=E3l k (A14 .i64 v (i64.wrap ((i64.wrap (1*2 ^ (min (u64.wrap (n-8)).toNat i64.bits)))-1))) (n-8) (by omega) (by omega)
      simp only [dr,A6 h,G0];omega
    · simp only [dr,A5 h,J7]
      omega
theorem D5k(l0:Int×Int×Int×List Int×Unit):∀ (k:Nat) (v n:Int) (o:List Int),0<=n->n<8*(k+1)->n<1000->o.length+k+1<=140737488355328->
    H6 (A95 l0) (v,n,o,())=some (.inl ((dr k v n).1,(dr k v n).2.1,i64.wrap (l0.2.2.1+1),o++(dr k v n).2.2,()))
  | 0,v,n,o,h0,h1,h2,hb=>by
    have h:¬ n>=8:=by omega
    rw [I3];simp only [A95,A8 h,A7,dr,F8]
  | k+1,v,n,o,h0,h1,h2,hb=>by
    rw [I3];by_cases h:n>=8
    · have e1:i64.wrap (n-8)=n-8:=w64 (by omega) (by omega)
      simp only [A95,A0 h,B2,e1,A8 (u64_nonneg _),A7];rw [gA (by simp;omega)];simp only [];rw [D5k l0 k _ (n-8) _ (by omega) (by omega) (by omega) (by simp;omega)];simp only [dr,A6 h,B3,A8e,D8,G5]
    · simp only [A95,A8 h,A7,dr,A5 h,F8]
theorem E05(l0:Int×Int×Int×List Int×Unit):C6F l0=A95 l0:=rfl
def hst(s:X0):Nat->Int×Int×List Int
  | 0=>(0,0,[])
  | k+1=>let d:=dr 5 (bOr .i64 (i64.wrap ((hst s k).1*2 ^ (min (u64.wrap (leA s k)).toNat i64.bits))) (coA s k)) ((hst s k).2.1+leA s k);(d.1,d.2.1,(hst s k).2.2++d.2.2)
def bits(s:X0):Nat->Int
  | 0=>0
  | k+1=>bits s k+leA s k
theorem C6U(s:X0):∀ k:Nat,0<=bits s k/\bits s k<=30*(k:Int)
  | 0=>⟨by simp [bits],by simp [bits]⟩
  | k+1=>by
    have:=C6U s k;have:=C5H s k;simp only [bits];omega
theorem D5l(s:X0):∀ k:Nat,(hst s k).2.1=bits s k % 8/\((hst s k).2.2.length:Int)=bits s k / 8
  | 0=>⟨by simp [hst,bits],by simp [hst,bits]⟩
  | k+1=>by
    have h1:=D5l s k;have h2:=C5H s k;have h3:=C6U s k;have h4:=E3l 5 (bOr .i64 (i64.wrap ((hst s k).1*2 ^ (min (u64.wrap (leA s k)).toNat i64.bits))) (coA s k)) ((hst s k).2.1+leA s k) (by omega) (by omega);simp only [hst,bits,A4];omega
theorem D5m(s:X0)(k:Nat)(h:k<=1000000000):(hst s k).2.2.length<=4000000000:=by
  have:=D5l s k;have:=C6U s k;omega
theorem D7G(s:X0)(a:List Int)(ha:a.length<=1000000000000)(hs:s.size<=1000000000)(k:Nat)(hk:k<s.size) :
    A2r s (lensT,()) (codesT,()) ((hst s k).1,(hst s k).2.1,(k:Int),a++(hst s k).2.2,())=some (.inl ((hst s (k+1)).1,(hst s (k+1)).2.1,((k+1:Nat):Int),a++(hst s (k+1)).2.2,())):=by
  have h1:(k:Int)<(s.size:Int):=by omega
  have h2:(0:Int)<=(k:Int):=by omega
  have h3:=D1a s k;have h4:bt s k<(lensT.length:Int):=by rw [A0r];have:=C1q s k;omega
  have h5:bt s k<(codesT.length:Int):=by rw [A9K];have:=C1q s k;omega
  have h6:=C5H s k;have h7:=D5l s k;have h8:=D5m s k (by omega);simp only [A2r,A0 h1,A0 h2,A0 h3,A0 h4,A0 h5,B2,E03,E04,A8 (u64_nonneg _),A7];rw [w64 (n:=(hst s k).2.1+leA s k) (by omega) (by omega),D5k _ 5 _ _ _ (by omega) (by omega) (by omega) (by simp;omega),w64 (n:=(k:Int)+1) (by omega) (by omega)];simp only [hst,B3];rfl
theorem D3s(s:X0)(l:Int×Int×Int×List Int×Unit):B60 s (codesT.zip lensT) l=A2r s (lensT,()) (codesT,()) l:=by
  obtain ⟨v,n,k,o,u⟩:=l;simp only [B60,A2r];by_cases h1:k<(s.size:Int)
  · by_cases h2:0<=k
    · obtain ⟨k,rfl⟩:=Int.eq_ofNat_of_zero_le h2
      have h3:=D1a s k;have h4:bt s k<(lensT.length:Int):=by rw [A0r];have:=C1q s k;omega
      have h5:bt s k<(codesT.length:Int):=by rw [A9K];have:=C1q s k;omega
      have h6:bt s k<((codesT.zip lensT).length:Int):=by rw [A6u,A9K,A0r];have:=C1q s k;omega
      have h7:0<(codesT.zip lensT).length:=by rw [A6u,A9K,A0r];omega
      simp only [A0 h1,A0 h2,A0 h3,A0 h4,A0 h5,A0 h6,A0 h7,B2,E03,E04,E21 s k (codesT.zip lensT) rfl,E05]
    · simp only [A8 h2,A7]
  · simp only [A8 h1,A7]
def A7Q(s:X0):List Int:=
  if (hst s s.size).2.1>0 then (hst s s.size).2.2 ++ [u8.wrap (bOr .i64 (i64.wrap ((hst s s.size).1*2 ^ (min (u64.wrap (i64.wrap (8-(hst s s.size).2.1))).toNat i64.bits))) (i64.wrap ((i64.wrap (1*2 ^ (min (u64.wrap (i64.wrap (8-(hst s s.size).2.1))).toNat i64.bits)))-1)))] else (hst s s.size).2.2
theorem D1r(s:X0)(a:List Int)(ha:a.length<=1000000000000)(hs:s.size<=1000000000) :
    (B0 (H6 (A2r s (lensT,()) (codesT,())) (0,0,0,a,())) fun (m2:Int×Int×List Int×Unit)=>bif (decide (m2.2.1>0)) then bif decide ((u64.wrap (i64.wrap (8-m2.2.1)))<0) then none else bif decide ((u64.wrap (i64.wrap (8-m2.2.1)))<0) then none else bif decide (m2.2.2.1.length+([(u8.wrap (bOr .i64 (i64.wrap (m2.1*2 ^ (min (u64.wrap (i64.wrap (8-m2.2.1))).toNat i64.bits))) (i64.wrap ((i64.wrap (1*2 ^ (min (u64.wrap (i64.wrap (8-m2.2.1))).toNat i64.bits)))-1))))]:List Int).length<=9223372036854775807) then bif decide ((m2.2.2.1.length+([(u8.wrap (bOr .i64 (i64.wrap (m2.1*2 ^ (min (u64.wrap (i64.wrap (8-m2.2.1))).toNat i64.bits))) (i64.wrap ((i64.wrap (1*2 ^ (min (u64.wrap (i64.wrap (8-m2.2.1))).toNat i64.bits)))-1))))]:List Int).length)*1<=140737488355328) then some ((m2.2.2.1 ++ [(u8.wrap (bOr .i64 (i64.wrap (m2.1*2 ^ (min (u64.wrap (i64.wrap (8-m2.2.1))).toNat i64.bits))) (i64.wrap ((i64.wrap (1*2 ^ (min (u64.wrap (i64.wrap (8-m2.2.1))).toNat i64.bits)))-1))))]),()) else none else none else some (m2.2.2.1,()))=some (a++A7Q s,()):=by
  have h1:H6 (A2r s (lensT,()) (codesT,())) (0,0,0,a,())=some ((hst s s.size).1,(hst s s.size).2.1,a++(hst s s.size).2.2,()):=by
    have:=R5 (A2r s (lensT,()) (codesT,())) (fun k=>((hst s k).1,(hst s k).2.1,(k:Int),a++(hst s k).2.2,())) s.size ((hst s s.size).1,(hst s s.size).2.1,a++(hst s s.size).2.2,()) (fun k hk=>D7G s a ha hs k hk) (by
      have h:¬ ((s.size:Nat):Int)<(s.size:Int):=by omega
      simp only [A2r,A8 h,A7])
    simpa [hst] using this
  have h8:=D5m s s.size (by omega);rw [h1];simp only [B0,A8 (u64_nonneg _),A7];by_cases h:(hst s s.size).2.1>0
  · rw [A0 h,B2,gA (by simp;omega),A7Q,A6 h]
    simp
  · rw [A8 h,A7,A7Q,A5 h]
theorem D7H(s:X0)(hs:s.size<=1000000000):C1m s=some (A7Q s,()):=by
  have:=D1r s [] (by simp) hs;simp only [G5] at this;simp only [C1m,C6N,C4D,D09,B0];exact this
theorem D7I(s:X0)(a:List Int)(ha:a.length<=1000000000000)(hs:s.size<=1000000000):C1e (codesT.zip lensT) a s=some (a++A7Q s,()):=by
  simp only [C1e,C6G];rw [show B60 s (codesT.zip lensT)=A2r s (lensT,()) (codesT,()) from funext fun l=>D3s s l];exact D1r s a ha hs
theorem E06:∀ (k:Nat) (v n:Int),Byt (dr k v n).2.2
  | 0,v,n=>fun x hx=>by simp [dr] at hx
  | k+1,v,n=>by
    by_cases h:n>=8
    · have ih:=E06 k (A14 .i64 v (i64.wrap ((i64.wrap (1*2 ^ (min (u64.wrap (n-8)).toNat i64.bits)))-1))) (n-8)
      simp only [dr,A6 h];intro x hx;rcases B9.1 hx with rfl | hx
      · exact wrap_u8 _
      · exact ih x hx
    · simp only [dr,A5 h]
      exact fun x hx=>by cases hx
theorem D0C(s:X0):∀ k,Byt (hst s k).2.2
  | 0=>fun x hx=>by simp [hst] at hx
  | k+1=>A10 (D0C s k) (E06 _ _ _)
theorem D7J(s:X0):Byt (A7Q s):=by
  unfold A7Q;split
  · exact A10 (D0C s _) fun x hx=>by rcases B1.1 hx with rfl;exact wrap_u8 _
  · exact D0C s _
def C7p(s:X0):List Int:=if (A7Q s).length<s.size then pfx 127 128 ((A7Q s).length:Int)++A7Q s else pfx 127 0 (s.size:Int)++bytesOf s
theorem D1s(s:X0):(C7p s).length<=s.size+5:=by
  unfold C7p;split
  · have:=B9Q 127 128 ((A7Q s).length:Int);simp only [A4];omega
  · have:=B9Q 127 0 (s.size:Int);simp only [A4,bytesOf_length];omega
theorem C6V(s:X0):Byt (C7p s):=by
  unfold C7p;split
  · exact A10 (C5G _ _ _) (D7J s)
  · exact A10 (C5G _ _ _) (D1f s)
set_option maxRecDepth 100000
def fstS:X0:=⟨#[58,97,117,116,104,111,114,105,116,121,124,58,109,101,116,104,111,100,61,71,69,84,124,58,109,101,116,104,111,100,61,80,79,83,84,124,58,112,97,116,104,61,47,124,58,112,97,116,104,61,47,105,110,100,101,120,46,104,116,109,108,124,58,115,99,104,101,109,101,61,104,116,116,112,124,58,115,99,104,101,109,101,61,104,116,116,112,115,124,58,115,116,97,116,117,115,61,50,48,48,124,58,115,116,97,116,117,115,61,50,48,52,124,58,115,116,97,116,117,115,61,50,48,54,124,58,115,116,97,116,117,115,61,51,48,52,124,58,115,116,97,116,117,115,61,52,48,48,124,58,115,116,97,116,117,115,61,52,48,52,124,58,115,116,97,116,117,115,61,53,48,48,124,97,99,99,101,112,116,45,99,104,97,114,115,101,116,124,97,99,99,101,112,116,45,101,110,99,111,100,105,110,103,61,103,122,105,112,44,32,100,101,102,108,97,116,101,124,97,99,99,101,112,116,45,108,97,110,103,117,97,103,101,124,97,99,99,101,112,116,45,114,97,110,103,101,115,124,97,99,99,101,112,116,124,97,99,99,101,115,115,45,99,111,110,116,114,111,108,45,97,108,108,111,119,45,111,114,105,103,105,110,124,97,103,101,124,97,108,108,111,119,124,97,117,116,104,111,114,105,122,97,116,105,111,110,124,99,97,99,104,101,45,99,111,110,116,114,111,108,124,99,111,110,116,101,110,116,45,100,105,115,112,111,115,105,116,105,111,110,124,99,111,110,116,101,110,116,45,101,110,99,111,100,105,110,103,124,99,111,110,116,101,110,116,45,108,97,110,103,117,97,103,101,124,99,111,110,116,101,110,116,45,108,101,110,103,116,104,124,99,111,110,116,101,110,116,45,108,111,99,97,116,105,111,110,124,99,111,110,116,101,110,116,45,114,97,110,103,101,124,99,111,110,116,101,110,116,45,116,121,112,101,124,99,111,111,107,105,101,124,100,97,116,101,124,101,116,97,103,124,101,120,112,101,99,116,124,101,120,112,105,114,101,115,124,102,114,111,109,124,104,111,115,116,124,105,102,45,109,97,116,99,104,124,105,102,45,109,111,100,105,102,105,101,100,45,115,105,110,99,101,124,105,102,45,110,111,110,101,45,109,97,116,99,104,124,105,102,45,114,97,110,103,101,124,105,102,45,117,110,109,111,100,105,102,105,101,100,45,115,105,110,99,101,124,108,97,115,116,45,109,111,100,105,102,105,101,100,124,108,105,110,107,124,108,111,99,97,116,105,111,110,124,109,97,120,45,102,111,114,119,97,114,100,115,124,112,114,111,120,121,45,97,117,116,104,101,110,116,105,99,97,116,101,124,112,114,111,120,121,45,97,117,116,104,111,114,105,122,97,116,105,111,110,124,114,97,110,103,101,124,114,101,102,101,114,101,114,124,114,101,102,114,101,115,104,124,114,101,116,114,121,45,97,102,116,101,114,124,115,101,114,118,101,114,124,115,101,116,45,99,111,111,107,105,101,124,115,116,114,105,99,116,45,116,114,97,110,115,112,111,114,116,45,115,101,99,117,114,105,116,121,124,116,114,97,110,115,102,101,114,45,101,110,99,111,100,105,110,103,124,117,115,101,114,45,97,103,101,110,116,124,118,97,114,121,124,118,105,97,124,119,119,119,45,97,117,116,104,101,110,116,105,99,97,116,101]⟩
noncomputable def firstT:List C2:=match B3P with
  | some (x,_)=>x
  | none=> []
theorem D0D:B3P=some (firstT,()):=rfl
theorem B6V:firstT.length=61:=rfl
theorem D7K:(firstT.all fun f=>Nat.ble (f.1.size+f.2.size) 100)=true:=by kernel_rfl
def fstP:List (List UInt8):=Lib.splitK [124] 0 (Lib.count fstS.data.toList [124]) fstS.data.toList
theorem E07:(fstP.map fun x=>((Lib.cut x [61]).1,(Lib.cut x [61]).2.1))=firstT.map fun f=>(f.1.data.toList,f.2.data.toList):=by kernel_rfl
theorem E22:(fstP.all fun x=>Nat.ble x.length 100)=true:=by kernel_rfl
theorem D3t:(Lib.splitB ⟨#[124]⟩ 0 (Lib.countB fstS ⟨#[124]⟩) fstS).map (·.data.toList)=fstP:=by
  rw [Lib.splitB_data];rfl
theorem E23:fstS.size<4294967281:=by
  have:Nat.ble (fstS.size+1) 4294967281=true:=by kernel_rfl
  exact D4 this
theorem B55{α β:Type}{f:α->Option (α⊕β)}{x y:α}(h:f x=some (.inl y)):H6 f x=H6 f y:=by rw [I3,h]
theorem E2W{l:List UInt8}{b:X0}(h:l=b.data.toList):(⟨l.toArray⟩:X0)=b:=by
  subst h;simp
theorem D7L(s:X0)(P:List (List UInt8))(F:List C2)(hs:s.size<4294967281)(h0:(Lib.splitB ⟨#[124]⟩ 0 (Lib.countB s ⟨#[124]⟩) s).map (·.data.toList)=P)
    (hP:(P.map fun x=>((Lib.cut x [61]).1,(Lib.cut x [61]).2.1))=F.map fun f=>(f.1.data.toList,f.2.data.toList)) (hz:(P.all fun x=>Nat.ble x.length 100)=true) :
    ∃ c:List X0,A9o s ⟨#[124]⟩=some (c,())/\c.length=F.length/\∀ k (h:k<c.length) (h2:k<F.length),∃ b,C5L c[k] ⟨#[61]⟩=some (F[k].1,F[k].2,b,()):=by
  have h1:(decide (s.size<4294967281)&&decide (1<=(⟨#[124]⟩:X0).size))=true:=by
    rw [A0 hs];rfl
  refine ⟨_,by simp only [A9o,h1,B2];rfl,?_,fun k hk hk3=>?_⟩
  · have:=M0 List.length h0
    rw [T9] at this;rw [this];have h2:=M0 List.length hP;rw [T9,T9] at h2;exact h2
  · generalize hc:Lib.splitB ⟨#[124]⟩ 0 (Lib.countB s ⟨#[124]⟩) s=c at *
    have e:=h0;have hk2:k<P.length:=by rw [<- e,T9];exact hk
    have e1:(c[k]).data.toList=P[k]:=by
      have:(c.map (·.data.toList))[k]? = P[k]?:=by rw [e]
      rw [L8,C3 hk,C3 hk2] at this;simpa using this
    have e2:((Lib.cut P[k] [61]).1,(Lib.cut P[k] [61]).2.1)=(F[k].1.data.toList,F[k].2.data.toList):=by
      have:(P.map fun x=>((Lib.cut x [61]).1,(Lib.cut x [61]).2.1))[k]? = (F.map fun f=>(f.1.data.toList,f.2.data.toList))[k]?:=by rw [hP]
      rw [L8,C3 hk2,L8,C3 hk3] at this;simpa only [L7,G9] using this
    have e3:(c[k]).size<=100:=by
      have h4:=C4.1 hz P[k] (G3 hk2);have h5:=D4 h4;rw [<- e1] at h5;exact h5
    refine ⟨(Lib.cut P[k] [61]).2.2,?_⟩;have e4:(c[k]).size<4294967281:=by omega
    have e5:(⟨#[61]⟩:X0).data.toList = [61]:=rfl;simp only [C5L,A0 e4,B2,e1,e5];rw [E2W (M0 Prod.fst e2),E2W (M0 Prod.snd e2)]
theorem C30:A6W=some (firstT,()):=by
  obtain ⟨c,hc,hcl,hca⟩:=D7L fstS fstP firstT E23 D3t E07 E22;have e0:A6W=B0 (A9o fstS ⟨#[124]⟩) fun c7=>H6 (A2T C5L c7) (0,[],()):=rfl
  rw [e0,hc];simp only [B0];have hF:=B6V;generalize firstT=F at *
  refine (R5 (A2T C5L (c,())) (fun k=>((k:Int),F.take k,())) 61 (F,()) (fun k hk=>?_) ?_)
  · have h1:(k:Int)<(c.length:Int):=by omega
    have h2:(0:Int)<=(k:Int):=by omega
    obtain ⟨b,hb⟩:=hca k (by omega) (by omega);have h6:rd .str c (k:Int)=c[k]'(by omega):=A81 (k:=.str) (by omega);simp only [A2T,A0 h1,A0 h2,B2,h6,hb,B0];rw [D7F (by simp;omega),w64 (by omega) (by omega)];have e7:F.take (k+1)=F.take k ++ [(F[k]'(by omega))]:=by
      rw [N7 (by omega)]
    rw [e7];rfl
  · have h1:¬ ((61:Nat):Int)<(c.length:Int):=by omega
    simp only [A2T,A8 h1,A7];rw [F6 (by omega)]
def C31(all:List C2)(f:C2):Nat->Int
  | 0=>0
  | k+1=>if C31 all f k=0 then (if ((rd D9 all (k:Int)).1.toList == f.1.toList) then (k:Int)+1 else 0) else C31 all f k
theorem D1t(all:List C2)(f:C2):∀ k:Nat,0<=C31 all f k/\C31 all f k<=k
  | 0=>⟨B8u _,B8u _⟩
  | k+1=>by
    have:=D1t all f k;simp only [C31];split
    · split<;>omega
    · omega
def exa(all:List C2)(f:C2)(k:Nat):Bool:=!eqB [(rd D9 all (k:Int)).1,(rd D9 all (k:Int)).2] [f.1,f.2]
def fnd(all:List C2)(f:C2)(k:Nat):(Int×Unit)⊕(Int×Bool×Unit):=if k<all.length then .inr ((k:Int)+1,true,()) else .inl (C31 all f all.length,())
def C1s(all:List C2)(f:C2):Int×Bool:=
  if V7 (exa all f) 0 all.length<all.length then ((V7 (exa all f) 0 all.length:Int)+1,true) else (C31 all f all.length,false)
theorem D7M(all:List C2)(f:C2):0<=(C1s all f).1/\(C1s all f).1<=all.length:=by
  unfold C1s;split
  · exact ⟨by simp only [];omega,by simp only [];omega⟩
  · exact D1t all f all.length
theorem E24(all:List C2)(f:C2):(K3 (some (fnd all f (V7 (exa all f) 0 all.length))) fun (m1:Int×Unit)=>some (m1.1,false,()))=some ((C1s all f).1,(C1s all f).2,()):=by
  unfold C1s fnd;by_cases h:V7 (exa all f) 0 all.length<all.length
  · simp only [A6 h,K3]
  · simp only [A5 h,K3]
theorem E25{F T:List C2}{k:Nat}(h:k<F.length):rd D9 (F++T) (k:Int)=rd D9 F (k:Int):=by
  unfold rd;simp only [E6,C9];rw [E9 h]
theorem E26{F T:List C2}{k:Nat}{i:Int}(h:F.length<=k)(hi:i=(k:Int)-F.length):rd D9 (F++T) (k:Int)=rd D9 T i:=by
  subst hi;unfold rd;rw [show ((k:Int)-F.length).toNat=k-F.length by omega];simp only [E6,C9];rw [F4 h]
theorem D1u(t:E3)(F:List C2)(hF:F.length=61)(f:C2)(hl:t.2.length<=900000000)(k:Nat)(hk:k<(F++t.2).length) :
    A3u t (F,()) f (C31 (F++t.2) f k,(k:Int)+1,())=if exa (F++t.2) f k then some (.inl (C31 (F++t.2) f (k+1),((k+1:Nat):Int)+1,())) else some (.inr (fnd (F++t.2) f k)):=by
  have hk':=hk;rw [A4,hF] at hk';have h0:i64.wrap (61+(t.2.length:Int))=61+t.2.length:=w64 (by omega) (by omega);have h1:(k:Int)+1<=61+t.2.length:=by omega
  have hm:(bif (decide ((k:Int)+1<=61)) then bif decide (0<=(i64.wrap ((k:Int)+1-1))) then bif decide ((i64.wrap ((k:Int)+1-1))<(F.length:Int)) then some ((rd D9 F (i64.wrap ((k:Int)+1-1))).1,(rd D9 F (i64.wrap ((k:Int)+1-1))).2,()) else none else none else bif decide (0<=(i64.wrap ((k:Int)+1-62))) then bif decide ((i64.wrap ((k:Int)+1-62))<(t.2.length:Int)) then some ((rd D9 t.2 (i64.wrap ((k:Int)+1-62))).1,(rd D9 t.2 (i64.wrap ((k:Int)+1-62))).2,()) else none else none)
      = some ((rd D9 (F++t.2) (k:Int)).1,(rd D9 (F++t.2) (k:Int)).2,()):=by
    by_cases h2:(k:Int)+1<=61
    · have e1:i64.wrap ((k:Int)+1-1)=(k:Int):=by rw [w64 (by omega) (by omega)];omega
      rw [A0 h2,B2,e1,A0 (by omega),A0 (by omega),E25 (by omega)];rfl
    · have e1:i64.wrap ((k:Int)+1-62)=(k:Int)-61:=by rw [w64 (by omega) (by omega)];omega
      rw [A8 h2,A7,e1,A0 (by omega),A0 (by omega),E26 (T:=t.2) (i:=(k:Int)-61) (by omega) (by omega)];rfl
  simp only [A3u,h0,A0 h1,B2];rw [hm];simp only [B0];rw [w64 (by omega) (by omega)];unfold exa fnd;cases eqB [(rd D9 (F++t.2) (k:Int)).1,(rd D9 (F++t.2) (k:Int)).2] [f.1,f.2] with
  | true=>simp only [B2,E0,A6 hk];rfl
  | false=>
    simp only [A7,M1,M7,C31];by_cases hb:C31 (F++t.2) f k=0
    · simp only [hb,A0B,B2,M7]
      cases ((rd D9 (F++t.2) (k:Int)).1.toList == f.1.toList)<;>simp
    · simp only [A8 hb,A7,A5 hb]
      rfl
theorem C6W(t:E3)(f:C2)(h:t.2.length<=900000000):B05 t f=some ((C1s (firstT++t.2) f).1,(C1s (firstT++t.2) f).2,()):=by
  have hF:=B6V;simp only [B05,B4D,D0D,B0];generalize firstT=F at *
  have:=B8J (A3u t (F,()) f) (fun k=>(C31 (F++t.2) f k,(k:Int)+1,())) (F++t.2).length (fnd (F++t.2) f) (exa (F++t.2) f) (fun k hk=>D1u t F hF f h k hk) (by
    have h0:i64.wrap (61+(t.2.length:Int))=61+t.2.length:=w64 (by omega) (by omega);have h1:¬ (((F++t.2).length:Nat):Int)+1<=61+t.2.length:=by rw [A4];omega
    have h2:¬ (F++t.2).length<(F++t.2).length:=by omega
    simp only [A3u,h0,A8 h1,A7,fnd,A5 h2])
  rw [show ((0:Int),(1:Int),())=(fun k:Nat=>(C31 (F++t.2) f k,(k:Int)+1,())) 0 from rfl,this];exact E24 (F++t.2) f
set_option maxRecDepth 100000
def ofF(f:C2):Int:=(f.1.size:Int)+f.2.size+32
def szT:List C2->Int
  | []=>0
  | f::fs=>ofF f+szT fs
theorem B6W(f:C2):32<=ofF f:=by unfold ofF;omega
theorem A3i:∀ fs:List C2,32*(fs.length:Int)<=szT fs
  | []=>by simp [szT]
  | f::fs=>by
    have:=A3i fs;have:=B6W f;simp only [szT,G0];omega
theorem D0E:∀ a b:List C2,szT (a++b)=szT a+szT b
  | [],b=>by simp [szT]
  | f::a,b=>by simp only [D8,szT,D0E a b];omega
theorem C6a(fs:List C2)(i:Nat):szT (fs.take i)<=szT fs:=by
  have h:=D0E (fs.take i) (fs.drop i);rw [K8] at h;have:=A3i (fs.drop i);omega
theorem D1v(fs:List C2){i j:Nat}(h:i<=j):szT (fs.take i)<=szT (fs.take j):=by
  have:=C6a (fs.take j) i;rw [N5,A00 h] at this;exact this
theorem C6b(fs:List C2){i:Nat}(h:i<fs.length):szT (fs.take (i+1))=szT (fs.take i)+ofF fs[i]:=by
  rw [N7 h,D0E];simp [szT]
theorem D5n(f:C2)(h:ofF f<=10000000000000):B2R f=some (ofF f,()):=by
  unfold ofF at *
  simp only [B2R,C1k];rw [w64 (n:=(f.1.size:Int)+f.2.size) (by omega) (by omega),w64 (by omega) (by omega)]
theorem C4E(f:C2)(h:ofF f<=10000000000000):A8o f=some (ofF f,()):=D5n f h
theorem B6a(m:Int)(fs:List C2)(h:szT fs<=10000000000000):A74 (m,fs)=some (szT fs,()):=by
  have hl:=A3i fs;simp only [A74,C0U];refine R5 (A5F B2R (m,fs)) (fun i=>(szT (fs.take i),(i:Int),())) fs.length _ (fun i hi=>?_) ?_
  · have h1:(i:Int)<(fs.length:Int):=by omega
    have h2:(0:Int)<=(i:Int):=by omega
    have h3:=C6b fs hi;have h4:=C6a fs (i+1);have h5:=A3i (fs.take i);have h6:rd D9 fs (i:Int)=fs[i]:=A81 (k:=D9) hi;have h7:=B6W fs[i];simp only [A5F,A0 h1,A0 h2,B2,h6];rw [D5n _ (by omega)];simp only [B0];rw [w64 (n:=szT (fs.take i)+ofF fs[i]) (by omega) (by omega),w64 (by omega) (by omega),h3];rfl
  · have h1:¬ ((fs.length:Nat):Int)<(fs.length:Int):=by omega
    simp only [A5F,A8 h1,A7];rw [F6 (by omega)]
theorem D1w(xs:List C2)(h:xs.length<=1000000000):J3 xs=some (xs,()):=by
  simp only [J3,V0];rw [D7F (by simp;omega)];by_cases h0:0<xs.length
  · rw [A0 h0,B2];rfl
  · rw [A8 h0,A7]
    have:xs = []:=A1H.1 (by omega);subst this;simp [eqO]
theorem C32(t:E3)(h:t.2.length<=1000000000):A93 t=some (t,()):=by
  simp only [A93,C0V];rw [D7F (by simp;omega)];rfl
theorem B1m(t:E3)(h:t.2.length<=1000000000):A47 t=some (t,()):=by
  simp only [A47,B42,D1w t.2 h,B0]
theorem E08(m:Int)(fs:List C2)(hm:0<=m)(hm2:m<=1000000)(hs:szT fs<=1000000000) :
    ∃ k,k<=fs.length/\(k<fs.length->decide (0<=m-szT (fs.take (k+1)))=false)/\A15 (m,fs)=some ((m,fs.take k),())/\szT (fs.take k)<=m:=by
  have hl:=A3i fs;obtain ⟨k,hk,ht,hf,he⟩:=A9J (A53 A8o J3 (m,fs)) (fun i=>(m-szT (fs.take i),(i:Int),())) fs.length (fun i=>((m,fs.take i),())) (fun i=>decide (0<=m-szT (fs.take (i+1)))) (fun i hi=>by
    have h1:(i:Int)<(fs.length:Int):=by omega
    have h2:(0:Int)<=(i:Int):=by omega
    have h22:(i:Int)<=(fs.length:Int):=by omega
    have h3:=C6b fs hi;have h4:=C6a fs (i+1);have h5:=A3i (fs.take i);have h6:rd D9 fs (i:Int)=fs[i]:=A81 (k:=D9) hi;have h7:=B6W fs[i];have h8:=A3i (fs.take (i+1));simp only [A53,A0 h1,A0 h2,A0 h22,B2,h6,A0c,E6];rw [C4E _ (by omega),D1w _ (by simp;omega)];simp only [B0];rw [w64 (n:=m-szT (fs.take i)-ofF fs[i]) (by omega) (by omega),w64 (n:=(i:Int)+1) (by omega) (by omega)];by_cases hq:0<=m-szT (fs.take (i+1))
    · rw [A8 (by omega),A7,A0 hq,A6 rfl,h3]
      rw [show m-szT (fs.take i)-ofF fs[i]=m-(szT (fs.take i)+ofF fs[i]) by omega];rfl
    · rw [A0 (by omega),B2,A8 hq]
      rfl) (by
    have h1:¬ ((fs.length:Nat):Int)<(fs.length:Int):=by omega
    simp only [A53,A8 h1,A7];rw [F6 (by omega)])
  have hkm:szT (fs.take k)<=m:=by
    cases k with
    | zero=>simp [szT];omega
    | succ k=>have:=B5 (ht k (by omega));omega
  refine ⟨k,hk,hf,?_,hkm⟩;simp only [A15,B2M];have e0:(m,(0:Int),())=(fun i:Nat=>(m-szT (fs.take i),(i:Int),())) 0:=by simp [szT]
  rw [e0];exact he
theorem E3E(m:Int)(fs:List C2)(hm:0<=m)(hm2:m<=1000000)(hs:szT fs<=1000000000) :
    ∃ k,A15 (m,fs)=some ((m,fs.take k),())/\A6i (m,fs)=some ((m,fs.take k),())/\szT (fs.take k)<=m:=by
  have hl:=A3i fs;obtain ⟨k,hk,hf,hi,hkm⟩:=E08 m fs hm hm2 hs;refine ⟨k,hi,?_,hkm⟩
  · simp only [A6i,B12]
    refine D77 (A7w A74) (fun x=>x.2.1.length) (fun x=>x.1=m/\∃ j,k<=j/\j<=fs.length/\x.2.1=fs.take j) _ (fun x hx=>?_) (m,fs,()) ⟨rfl,fs.length,hk,C0 _,by rw [F6 (by omega)]⟩;obtain ⟨a,b,u⟩:=x;obtain ⟨e1,j,hj1,hj2,e2⟩:=hx;simp only at e1 e2;subst e1 e2;have h4:=C6a fs j;have hjl:(fs.take j).length=j:=by rw [B4];omega
    simp only [A7w];rw [B6a _ _ (by omega)];simp only [B0];by_cases hq:szT (fs.take j)>a
    · left
      have hjk:k<j:=by
        rcases B7L k j with h | h
        · exact h
        · have:=D1v fs h;omega
      have e3:i64.wrap (((fs.take j).length:Int)-1)=((j-1:Nat):Int):=by rw [w64 (by omega) (by omega)];omega
      rw [A0 hq,B2,e3,A0 (by omega),A0 (by omega)];refine ⟨(a,fs.take (j-1),()),?_,⟨rfl,j-1,by omega,by omega,rfl⟩,by simp only [B4];omega⟩;simp only [B2,E6,A0c,N5];rw [A00 (by omega)]
    · right
      rw [A8 hq,A7];have hjk:j=k:=by
        rcases B7L k j with h | h
        · have h5:=B2r (hf (by omega))
          have:=D1v fs (i:=k+1) (j:=j) (by omega);omega
        · omega
      rw [hjk]
theorem E3m(t:E3)(f:C2)(hm:0<=t.1)(hm2:t.1<=1000000)(hs:szT t.2+ofF f<=1000000000) :
    ∃ T,A1s t f=some ((t.1,T),())/\szT T<=t.1:=by
  obtain ⟨m,fs⟩:=t;have hl:=A3i fs;have hf:=B6W f;simp only at hm hm2 hs;obtain ⟨k,_,_,h1,h3⟩:=E08 m (f::fs) hm hm2 (by simp only [szT];omega);refine ⟨(f::fs).take k,?_,h3⟩;have e:C1V fs 0 [f]=some (f::fs,()):=by
    simp only [C1V];rw [A0 (by omega),A0 (by omega),A0 (by simp),A0 (by simp;omega)];rfl
  simp only [A1s,A9w,show O3=C1V from rfl,e,B0,h1]
theorem E3F(t:E3)(f:C2)(hm:0<=t.1)(hm2:t.1<=1000000)(hs:szT t.2+ofF f<=1000000000) :
    ∃ T,A1s t f=some ((t.1,T),())/\A6k t f=some ((t.1,T),())/\szT T<=t.1:=by
  obtain ⟨m,fs⟩:=t;have hl:=A3i fs;have hf:=B6W f;simp only at hm hm2 hs;obtain ⟨k,h1,h2,h3⟩:=E3E m (f::fs) hm hm2 (by simp only [szT];omega);refine ⟨(f::fs).take k,?_,?_,h3⟩
  · have e:C1V fs 0 [f]=some (f::fs,()):=by
      simp only [C1V];rw [A0 (by omega),A0 (by omega),A0 (by simp),A0 (by simp;omega)];rfl
    simp only [A1s,A9w,show O3=C1V from rfl,e,B0,h1]
  · simp only [A6k,B13]
    rw [D7F (by simp;omega)];simp only [A8e,D8,G5,h2,B0]
def A1V(t:E3):Prop:=0<=t.1/\t.1<=4096/\szT t.2<=t.1
theorem B6b{t:E3}(h:A1V t):t.2.length<=128:=by
  have:=A3i t.2;obtain ⟨h0,h1,h2⟩:=h;omega
theorem E3G{t:E3}(h:A1V t):A2b t=some (true,()):=by
  obtain ⟨h0,h1,h2⟩:=h;obtain ⟨m,fs⟩:=t;simp only at h0 h1 h2;simp only [A2b,B0g,A4U,B0,B6a m fs (by omega)];rw [A0 ⟨h0,h1⟩,A0 h2];rfl
theorem E3H{t:E3}(hs:szT t.2<=10000000000000)(h:A2b t=some (true,())):A1V t:=by
  obtain ⟨m,fs⟩:=t;simp only at hs;simp only [A2b,B0g,A4U,B0,B6a m fs hs] at h;by_cases h1:0<=m/\m<=4096
  · rw [A0 h1,B2] at h
    simp only [G9,B0T,N6,and_true] at h;exact ⟨h1.1,h1.2,h⟩
  · rw [A8 h1,A7] at h
    simp at h
theorem bO{A B:Type}(x:A)(f:A->Option B):B0 (some x) f=f x:=rfl
theorem bSl{A B:Type}(x:A)(f:A->Option B):K3 (some (Sum.inl x)) f=f x:=rfl
theorem bSr{A B:Type}(y:B)(f:A->Option B):K3 (some (Sum.inr y)) f=some y:=rfl
set_option maxRecDepth 100000
def itB(n:Int):X0:=⟨(Lib.itoa n).toArray⟩
theorem C98{n:Int}(h0:0<=n)(h1:n<10):itB n=strOf [u8.wrap (i64.wrap (48+n))]:=by
  have h2:u8.wrap (48+n)=48+n:=by
    simp only [IntKind.wrap,IntKind.bits,IntKind.signed,A4t];simp;omega
  rw [w64 (by omega) (by omega),h2];unfold itB strOf strOfNums Lib.itoa;rw [A5 (by omega),Lib.decDigits_one (by omega)];simp only [H3,B23];rw [show (48+n).toNat=48+n.toNat by omega]
theorem D5o{n:Int}(h1:¬ n<10):itB n=itB (n / 10)++strOf [u8.wrap (i64.wrap (48+n % 10))]:=by
  have h2:u8.wrap (48+n % 10)=48+n % 10:=by
    simp only [IntKind.wrap,IntKind.bits,IntKind.signed,A4t];simp;omega
  rw [w64 (by omega) (by omega),h2];apply ByteArray.ext;rw [ByteArray.data_append];unfold itB strOf strOfNums Lib.itoa;rw [A5 (by omega),A5 (by omega),Lib.decDigits,dif_neg (by omega)];simp only [H3,B23];rw [show (48+n % 10).toNat=48+n.toNat % 10 by omega,show (n / 10).toNat=n.toNat / 10 by omega];simp
theorem B8M(x:Int):(strOf [x]).size=1:=by rw [B2V];rfl
theorem A6N(f:Int->Option (X0×Unit))(N:Int)(s:Nat)(hs:s<=1000)(hN:N<=1000000000000)(hf:∀ n,1<=n->n<N->f n=some (itB n,())/\(itB n).size<=s)(n:Int)(h0:0<=n)(h1:n<10*N) :
    A3H f n=some (itB n,())/\(itB n).size<=s+1:=by
  by_cases h:n<10
  · refine ⟨?_,?_⟩
    · simp only [A3H,A0 h,B2]
      rw [<- C98 h0 h]
    · rw [C98 h0 h,B8M];omega
  · obtain ⟨e,hl⟩:=hf (n / 10) (by omega) (by omega)
    have e1:n.tdiv 10=n / 10:=Int.tdiv_eq_ediv_of_nonneg h0;have e2:n.tmod 10=n % 10:=A2F h0;refine ⟨?_,by rw [D5o h,A8g,B8M];omega⟩;simp only [A3H,A8 h,A7,e1,e2];rw [w64 (n:=n / 10) (by omega) (by omega),e];simp only [B0,B8M];rw [A8 (by simp only [IntKind.max,IntKind.signed,IntKind.bits];simp;omega),A7,<- D5o h]
theorem E27(n:Int)(h0:0<=n)(h1:n<=4294967295):C0a n=some (itB n,())/\(itB n).size<=10:=by
  have a1:=A6N B2I 1 0 (by omega) (by omega) (fun n h h'=>by omega);have a2:=A6N A96 10 1 (by omega) (by omega) (fun n h h'=>a1 n (by omega) (by omega));have a3:=A6N A97 100 2 (by omega) (by omega) (fun n h h'=>a2 n (by omega) (by omega));have a4:=A6N A98 1000 3 (by omega) (by omega) (fun n h h'=>a3 n (by omega) (by omega));have a5:=A6N A99 10000 4 (by omega) (by omega) (fun n h h'=>a4 n (by omega) (by omega));have a6:=A6N A9A 100000 5 (by omega) (by omega) (fun n h h'=>a5 n (by omega) (by omega));have a7:=A6N A9B 1000000 6 (by omega) (by omega) (fun n h h'=>a6 n (by omega) (by omega));have a8:=A6N A9C 10000000 7 (by omega) (by omega) (fun n h h'=>a7 n (by omega) (by omega));have a9:=A6N A9D 100000000 8 (by omega) (by omega) (fun n h h'=>a8 n (by omega) (by omega));have a10:=A6N A9E 1000000000 9 (by omega) (by omega) (fun n h h'=>a9 n (by omega) (by omega));exact a10 n h0 (by omega)
theorem E28(n:Int)(h0:0<=n)(h1:n<=4294967295):A7g n=some (itB n,()):=by
  have e:(decide (-9223372036854775808<=n)&&decide (n<=9223372036854775807))=true:=by
    rw [A0 (by omega),A0 (by omega)];rfl
  rw [show A7g n=C5M n from rfl];simp only [C5M,e,B2];rfl
theorem D20{r:B5o}(h:C2t r=true):(1<=r.1/\r.1<=6)/\r.2.1.size<=8/\0<=r.2.2/\r.2.2<=4294967295:=by
  simp only [C2t,idB,B7,N6] at h;refine ⟨h.1.1,by omega,h.2.1,?_⟩;have:=h.2.2;unfold D06 at this;split at this
  · omega
  · split at this
    · omega
    · split at this<;>omega
set_option maxRecDepth 100000
def czN(a:Int):Nat:=if a<1 then 1 else if a>1000 then 1000 else a.toNat
theorem D5p(a:Int):1<=czN a/\czN a<=1000:=by
  unfold czN;split
  · omega
  · split<;>omega
theorem E3n(a:Int):(B0 (bif (decide (a<1)) then some ((1:Int),()) else some (a,())) fun (m0:Int×Unit)=>(bif (decide (m0.1>1000)) then some ((1000:Int),()) else some (m0.1,())))=some ((czN a:Int),()):=by
  unfold czN;by_cases h:a<1
  · rw [A0 h,B2,bO,A6 h];rfl
  · rw [A8 h,A7,bO,A5 h]
    by_cases h2:a>1000
    · rw [A0 h2,B2,A6 h2];rfl
    · rw [A8 h2,A7,A5 h2]
      rw [show ((a.toNat:Nat):Int)=a by omega]
def ceN(n L:Nat):Nat:=(L+n-1) / n
theorem C6c{n L j:Nat}(hn:0<n):j<ceN n L↔j*n<L:=by
  unfold ceN;rw [Nat.lt_iff_add_one_le,B7g hn,I8];omega
theorem E09{n L:Nat}(hn:0<n):L<=ceN n L*n:=by
  have h:¬ ceN n L<ceN n L:=A6T _;rw [C6c hn] at h;omega
theorem D0F{n L:Nat}(hn:0<n):ceN n L<=L:=by
  have h:¬ L<ceN n L:=by
    rw [C6c hn];have:=B5K L hn;omega
  omega
def frx(id fl:Int)(n:Nat)(xs:List Int)(j:Nat):F3:=(if j=0 then 1 else 9,if j=0 then fl else 0,id,A3B n xs j)
def frs(id fl:Int)(n:Nat)(xs:List Int):Nat->List F3
  | 0=> []
  | j+1=>frs id fl n xs j ++ [frx id fl n xs j]
theorem D0G(id fl:Int)(n:Nat)(xs:List Int):∀ j,(frs id fl n xs j).length=j
  | 0=>rfl
  | j+1=>by simp only [frs,A4,D0G id fl n xs j,H7]
def D3u(f:F3):F3:=(f.1,bOr .i64 f.2.1 4,f.2.2)
def C4F(id fl:Int)(n:Nat)(xs:List Int):List F3:=frs id fl n xs (max 1 (ceN n xs.length)-1) ++ [D3u (frx id fl n xs (max 1 (ceN n xs.length)-1))]
theorem A9L(xs:List Int)(h:xs.length<=1000000000):G7 xs=some (xs,()):=by
  simp only [G7,A0w];rw [gA (by simp;omega)];by_cases h0:0<xs.length
  · rw [A0 h0,B2];rfl
  · rw [A8 h0,A7]
    have:xs = []:=A1H.1 (by omega);subst this;simp [eqO]
theorem B56(n:Nat)(xs:List Int)(j:Nat):(A3B n xs j).length=min (j*n+n) xs.length-j*n:=by
  simp [A3B]
theorem D7N(id:Int)(a1:Bool)(xs:List Int)(a3:Int)(hid:1<=id/\id<=2147483647)(hx:xs.length<=100000000) :
    C1o id a1 xs a3=some (C4F id (if a1 then 1 else 0) (czN a3) xs,()):=by
  have hn:=D5p a3;have e0:=E3n a3;simp only [C1o,C6P,A4U,A0 hid,bO,E0,A7];have e1:∀ (K:Int×Unit->Option (List F3×Unit)),(B0 (bif (decide (a3<1)) then some ((1:Int),()) else some (a3,())) fun (m0:Int×Unit)=>B0 (bif (decide (m0.1>1000)) then some ((1000:Int),()) else some (m0.1,())) K)=K ((czN a3:Int),()):=by
    intro K;rw [show K ((czN a3:Int),())=B0 (some ((czN a3:Int),())) K from rfl,<- e0];cases (bif (decide (a3<1)) then some ((1:Int),()) else some (a3,()))<;>rfl
  rw [e1];generalize czN a3=n at *
  have hn0:0<n:=by omega
  have hN1:1<=max 1 (ceN n xs.length):=Nat.le_max_left _ _;have hN2:max 1 (ceN n xs.length)<=100000000:=by have:=D0F (n:=n) (L:=xs.length) hn0;omega
  have hlt:∀ j,j<max 1 (ceN n xs.length)->j=0\/j*n<xs.length:=by
    intro j hj;rcases A7E j with h | h
    · exact Or.inl h
    · exact Or.inr ((C6c hn0).1 (by omega))
  have hlast:∀ j,j<max 1 (ceN n xs.length)->(xs.length<=j*n+n↔j=max 1 (ceN n xs.length)-1):=by
    intro j hj;have h1:=C6c (n:=n) (L:=xs.length) (j:=j+1) hn0;rw [I8] at h1;omega
  have hge:xs.length<=max 1 (ceN n xs.length)*n:=by
    have h1:=E09 (n:=n) (L:=xs.length) hn0;have h2:=E8 n (Nat.le_max_right 1 (ceN n xs.length));omega
  have hbig:∀ j,j<max 1 (ceN n xs.length)->j*n<=100000000:=by
    intro j hj;rcases hlt j hj with h | h
    · subst h;omega
    · omega
  unfold C4F;generalize max 1 (ceN n xs.length)=N at *
  have hfl:∀ (K:Int×Int×Int×Unit->Option ((Int×List F3×Unit)⊕(List F3×Unit))) (j:Nat),j*n<=100000000->(B0 (bif (decide (((j*n:Nat):Int)=0)) then bif a1 then some ((1:Int),(1:Int),id,()) else some (1,0,id,()) else some (9,0,id,())) K)=K ((if j=0 then 1 else 9),(if j=0 then (if a1 then 1 else 0) else 0),id,()):=by
    intro K j hj;rcases A7E j with h | h
    · subst h
      rw [show (((0*n:Nat):Int))=0 by simp];cases a1<;>rfl
    · have h2:0<j*n:=C4P h hn0
      rw [A8 (p:=((j*n:Nat):Int)=0) (by omega),A7,A5 (by omega),A5 (by omega)];rfl
  have hX:∀ l k f q,([(l,(k,(f,q)))]:List F3).length=1:=fun _ _ _ _=>rfl
  refine (R5 (B6R xs a1 id ((n:Int),())) (fun j=>(((j*n:Nat):Int),(if j<N then frs id (if a1 then 1 else 0) n xs j else frs id (if a1 then 1 else 0) n xs (N-1) ++ [D3u (frx id (if a1 then 1 else 0) n xs (N-1))]),())) N _ (fun j hj=>?_) ?_ |> fun h=>by
    rw [show ((0:Int),([]:List F3),())=(fun j:Nat=>(((j*n:Nat):Int),(if j<N then frs id (if a1 then 1 else 0) n xs j else frs id (if a1 then 1 else 0) n xs (N-1) ++ [D3u (frx id (if a1 then 1 else 0) n xs (N-1))]),())) 0 by
      simp only [A3o,A6 (show 0<N by omega)];rfl]
    exact h)
  · have b1:=hlt j hj
    have b2:=hlast j hj;have b3:=hbig j hj;have b4:=D0G id (if a1 then 1 else 0) n xs j;have b5:j*n<=xs.length:=by
      rcases b1 with h | h
      · subst h;simp
      · omega
    have c1:(bif (decide (((j*n:Nat):Int)=0)) then some (Sum.inl ()) else bif (decide (((j*n:Nat):Int)<(xs.length:Int))) then some (Sum.inl ()) else some (Sum.inr (Sum.inr ((if j<N then frs id (if a1 then 1 else 0) n xs j else frs id (if a1 then 1 else 0) n xs (N-1) ++ [D3u (frx id (if a1 then 1 else 0) n xs (N-1))]),()))))=some (Sum.inl (β:=(Int×List F3×Unit)⊕(List F3×Unit)) ()):=by
      rcases b1 with h | h
      · subst h
        rw [show (((0*n:Nat):Int))=0 by simp];rfl
      · rw [A0 (p:=((j*n:Nat):Int)<(xs.length:Int)) (by omega)]
        cases decide (((j*n:Nat):Int)=0)<;>rfl
    simp only [B6R];rw [c1,bSl,hfl _ j b3];simp only [A6 hj];rw [w64 (n:=((j*n:Nat):Int)+(n:Int)) (by omega) (by omega)];by_cases hL:xs.length<=j*n+n
    · have hjN:j=N-1:=b2.1 hL
      have hp:(xs.take xs.length).drop (j*n)=A3B n xs j:=by
        unfold A3B;rw [F6 (C0 _),F6 hL]
      have hpl:=B56 n xs j;rw [A0 (by omega),B2,bO];simp only [E6,hp];rw [A0 (by omega),A0 (by omega),A0 (by omega)];simp only [B2,G5];rw [gA (by simp only [J7];omega),E3k (by rw [b4,hX];omega)];rw [A5 (show ¬ j+1<N by omega),hjN.symm,I8];simp only [D3u,frx]
      congr 4
    · have hjN:¬ j=N-1:=fun h=>hL (b2.2 h)
      have hp:(xs.take (((j*n:Nat):Int)+(n:Int)).toNat).drop (j*n)=A3B n xs j:=by
        unfold A3B;rw [show (((j*n:Nat):Int)+(n:Int)).toNat=j*n+n by omega]
      have hpl:=B56 n xs j;rw [A8 (by omega),A7,bO];simp only [E6,hp];rw [A0 (by omega),A0 (by omega),A0 (by omega)];simp only [B2,G5];rw [gA (by simp only [J7];omega),E3k (by rw [b4,hX];omega)];rw [A6 (show j+1<N by omega),I8];simp only [frs,frx]
      congr 4
  · have h2:0<N*n:=C4P (by omega) hn0
    have c1:decide (((N*n:Nat):Int)=0)=false:=A8 (by omega);have c2:decide (((N*n:Nat):Int)<(xs.length:Int))=false:=A8 (by omega);simp only [B6R,c1,c2,A7,bSr,A5 (show ¬ N<N by omega)]
theorem fok(k fl id:Int)(q:List Int)(h1:0<=k/\k<=255)(h2:0<=fl/\fl<=255)(h3:0<=id/\id<=2147483647)(h4:(q.length:Int)<=1000):A0M (k,fl,id,q)=true:=by
  simp only [A0M,A0 h1,A0 h2,A0 h3,A0 h4];rfl
theorem E0A(id:Int)(a1:Bool)(n:Nat)(xs:List Int)(hid:1<=id/\id<=2147483647)(hn:n<=1000)(j:Nat) :
    A0M (frx id (if a1 then 1 else 0) n xs j)=true/\A0M (D3u (frx id (if a1 then 1 else 0) n xs j))=true:=by
  have hpl:=B56 n xs j;have h1:((A3B n xs j).length:Int)<=1000:=by omega
  have h2:0<=id/\id<=2147483647:=by omega
  have b0:bOr .i64 0 4=4:=rfl;have b1:bOr .i64 1 4=5:=rfl;unfold D3u frx;rcases A7E j with h | h
  · subst h
    cases a1
    · exact ⟨fok 1 0 id _ (by omega) (by omega) h2 h1,fok 1 (bOr .i64 0 4) id _ (by omega) (by rw [b0];omega) h2 h1⟩
    · exact ⟨fok 1 1 id _ (by omega) (by omega) h2 h1,fok 1 (bOr .i64 1 4) id _ (by omega) (by rw [b1];omega) h2 h1⟩
  · simp only [A5 (show ¬ j=0 by omega)]
    exact ⟨fok 9 0 id _ (by omega) (by omega) h2 h1,fok 9 (bOr .i64 0 4) id _ (by omega) (by rw [b0];omega) h2 h1⟩
theorem E0B(id:Int)(a1:Bool)(n:Nat)(xs:List Int)(hid:1<=id/\id<=2147483647)(hn:n<=1000):∀ j,∀ f∈frs id (if a1 then 1 else 0) n xs j,A0M f=true
  | 0,f,hf=>by simp [frs] at hf
  | j+1,f,hf=>by
    simp only [frs,C8,B1] at hf;rcases hf with h | h
    · exact E0B id a1 n xs hid hn j f h
    · subst h;exact (E0A id a1 n xs hid hn j).1
theorem E0C(id:Int)(a1:Bool)(n:Nat)(xs:List Int)(hid:1<=id/\id<=2147483647)(hn:n<=1000):∀ f∈C4F id (if a1 then 1 else 0) n xs,A0M f=true:=by
  intro f hf;simp only [C4F,C8,B1] at hf;rcases hf with h | h
  · exact E0B id a1 n xs hid hn _ f h
  · subst h;exact (E0A id a1 n xs hid hn _).2
theorem D7O(id fl:Int)(n:Nat)(xs:List Int)(hn:0<n):(C4F id fl n xs).length<=xs.length+1:=by
  have:=D0F (n:=n) (L:=xs.length) hn;simp only [C4F,A4,D0G,H7];omega
def D21(fs:List F3):Nat->List Int
  | 0=> []
  | k+1=>D21 fs k++A4M (fs.getD k (0,0,0,[]))
theorem A9M(f:F3)(h:A0M f=true):(A4M f).length<=1009:=by
  simp only [A0M,B7,N6] at h;simp only [A4M,A4,B0C,G0,J7];omega
theorem B2a{f:F3}(h:Byt f.2.2.2):Byt (A4M f):=by
  unfold A4M;refine A10 (A10 (A10 (D5f _ _) fun x hx=>?_) (D5f _ _)) h;simp only [B9,J1,A1A] at hx;rcases hx with rfl | rfl<;>exact wrap_u8 _
theorem C33{xs:List Int}(h:Byt xs)(n j:Nat):Byt (A3B n xs j):=B2W (B8K h _) _
theorem D5q{id fl:Int}{n:Nat}{xs:List Int}(h:Byt xs):∀ j,∀ f∈frs id fl n xs j,Byt f.2.2.2
  | 0,f,hf=>by cases hf
  | j+1,f,hf=>by
    rcases C8.1 hf with hf | hf
    · exact D5q h j f hf
    · rcases B1.1 hf with rfl;exact C33 h n j
theorem D7P{id fl:Int}{n:Nat}{xs:List Int}(h:Byt xs):∀ f∈C4F id fl n xs,Byt f.2.2.2:=fun f hf=>by
  rcases C8.1 hf with hf | hf
  · exact D5q h _ f hf
  · rcases B1.1 hf with rfl;exact C33 h n _
theorem D22{fs:List F3}(h:∀ f∈fs,Byt f.2.2.2):∀ k,Byt (D21 fs k)
  | 0=>fun x hx=>by cases hx
  | k+1=>by
    refine A10 (D22 h k) ?_;by_cases hk:k<fs.length
    · rw [C9,C3 hk]
      exact B2a (h _ (G3 hk))
    · rw [C9,A8f (by omega)]
      exact B2a fun x hx=>by cases hx
theorem C6d(fs:List F3)(h:∀ f∈fs,A0M f=true):∀ k,k<=fs.length->(D21 fs k).length<=1009*k
  | 0,_=>by simp [D21]
  | k+1,hk=>by
    have h1:=C6d fs h k (by omega);have h2:fs.getD k (0,0,0,[])=fs[k]:=by rw [C9,C3 (by omega)];rfl
    have h3:=A9M fs[k] (h _ (G3 (by omega)));simp only [D21,A4,h2];omega
theorem D23{f:F3}(h:A0M f=true):f.2.2.2.length<=1000:=by
  simp only [A0M,B7,N6] at h;omega
theorem D24(fs:List F3)(h:∀ f∈fs,A0M f=true)(hl:fs.length<=1000000000):B0A fs=some (D21 fs fs.length,()):=by
  simp only [B0A,B4H];refine R5 (A6l W6 fs) (fun k=>((k:Int),D21 fs k,())) fs.length _ (fun k hk=>?_) ?_
  · have h1:(k:Int)<(fs.length:Int):=by omega
    have h2:(0:Int)<=(k:Int):=by omega
    have h3:rd B0u fs (k:Int)=fs[k]:=A81 (k:=B0u) hk;have h4:fs.getD k (0,0,0,[])=fs[k]:=by rw [C9,C3 (by omega)];rfl
    have h5:=C6d fs h k (by omega);have hk2:=h _ (G3 hk);have h6:=D23 hk2;have h7:=A9M _ hk2;simp only [A6l,A0 h1,A0 h2,B2,h3];rw [A6L _ (by omega),A6 hk2,bO,gA (by simp only [];omega),w64 (by omega) (by omega)];simp only [D21,h4];rfl
  · have h1:¬ ((fs.length:Nat):Int)<(fs.length:Int):=by omega
    simp only [A6l,A8 h1,A7]
set_option maxRecDepth 100000
def B7Q(id:Int)(n:Nat)(xs:List Int):Nat->List Int
  | 0=> []
  | j+1=>B7Q id n xs j++A4M (0,(if xs.length<=j*n+n then 1 else 0),id,A3B n xs j)
theorem D5r(id:Int)(n:Nat)(xs:List Int)(hid:1<=id/\id<=2147483647)(hn:n<=1000)(j:Nat):A0M (0,(if xs.length<=j*n+n then 1 else 0),id,A3B n xs j)=true:=by
  have hpl:=B56 n xs j;refine fok _ _ _ _ (by omega) ?_ (by omega) (by omega);split<;>omega
theorem C6e(id:Int)(n:Nat)(xs:List Int)(hid:1<=id/\id<=2147483647)(hn:n<=1000):∀ j,(B7Q id n xs j).length<=1009*j
  | 0=>by simp [B7Q]
  | j+1=>by
    have h1:=C6e id n xs hid hn j;have h2:=A9M _ (D5r id n xs hid hn j);simp only [B7Q,A4];omega
theorem E3I(id:Int)(n:Nat)(xs o:List Int)(hid:1<=id/\id<=2147483647)(hn:1<=n/\n<=1000)(hx:xs.length<=100000000)(ho:o.length<=1000000000000) :
    H6 (A1U W6 xs ((n:Int),()) id) (0,o,())=some (o++B7Q id n xs (ceN n xs.length),()):=by
  have hn0:0<n:=by omega
  have hC:=D0F (n:=n) (L:=xs.length) hn0;refine (R5 (A1U W6 xs ((n:Int),()) id) (fun j=>(((j*n:Nat):Int),o++B7Q id n xs j,())) (ceN n xs.length) _ (fun j hj=>?_) ?_ |> fun h=>by
    rw [show ((0:Int),o,())=(fun j:Nat=>(((j*n:Nat):Int),o++B7Q id n xs j,())) 0 by simp [B7Q]];exact h)
  · have hlt:=(C6c (n:=n) (L:=xs.length) (j:=j) hn0).1 hj
    have hpl:=B56 n xs j;have hok:=D5r id n xs hid hn.2 j;have hbl:=C6e id n xs hid hn.2 j;have hfl:=A9M _ hok;have hol:(o++B7Q id n xs j).length<=1000000000000+1009*j:=by rw [A4];omega
    have e1:(B7Q id n xs (j+1))=B7Q id n xs j++A4M (0,(if xs.length<=j*n+n then 1 else 0),id,A3B n xs j):=rfl;simp only [A1U];rw [A0 (p:=((j*n:Nat):Int)<(xs.length:Int)) (by omega),B2,w64 (n:=((j*n:Nat):Int)+(n:Int)) (by omega) (by omega)];by_cases hL:xs.length<=j*n+n
    · have hp:(xs.take xs.length).drop (j*n)=A3B n xs j:=by
        unfold A3B;rw [F6 (C0 _),F6 hL]
      rw [A0 (by omega),B2,bO];simp only [E6,hp];rw [A0 (by omega),A0 (by omega),A0 (by omega)];simp only [B2,G5];rw [gA (by simp only [J7];omega)];rw [A6 hL] at hok e1 hfl;rw [A6L _ (by simp only [];omega),A6 hok,bO,gA (by simp only [];omega),e1,I8,B3];rfl
    · have hp:(xs.take (((j*n:Nat):Int)+(n:Int)).toNat).drop (j*n)=A3B n xs j:=by
        unfold A3B;rw [show (((j*n:Nat):Int)+(n:Int)).toNat=j*n+n by omega]
      rw [A8 (by omega),A7,bO];simp only [E6,hp];rw [A0 (by omega),A0 (by omega),A0 (by omega)];simp only [B2,G5];rw [gA (by simp only [J7];omega)];rw [A5 hL] at hok e1 hfl;rw [A6L _ (by simp only [];omega),A6 hok,bO,gA (by simp only [];omega),e1,I8,B3];rfl
  · have h:=E09 (n:=n) (L:=xs.length) hn0
    have h1:¬ ((ceN n xs.length*n:Nat):Int)<(xs.length:Int):=by omega
    simp only [A1U,A8 h1,A7]
theorem C99{id:Int}{n:Nat}{xs:List Int}(h:Byt xs):∀ j,Byt (B7Q id n xs j)
  | 0=>fun x hx=>by cases hx
  | j+1=>A10 (C99 h j) (B2a (C33 h n j))
set_option maxRecDepth 100000
def PfS(n f M:Int):Prop:=∀ (v:Int) (b:List Int),0<=v->v<=16777216->b.length+16<=140737488355328->A4E b n f v=some (b++pfx M f v,())
theorem pS7:PfS 7 128 127:=fun v b h0 h1 hb=>D5j 7 128 127 128 v b (by decide) (by rfl) (by rfl) (by omega) (by omega) (by omega) ⟨h0,h1⟩ hb
theorem pS0:PfS 7 0 127:=fun v b h0 h1 hb=>D5j 7 0 127 0 v b (by decide) (by rfl) (by rfl) (by omega) (by omega) (by omega) ⟨h0,h1⟩ hb
theorem pS6:PfS 6 64 63:=fun v b h0 h1 hb=>D5j 6 64 63 64 v b (by decide) (by rfl) (by rfl) (by omega) (by omega) (by omega) ⟨h0,h1⟩ hb
theorem pS4:PfS 4 16 15:=fun v b h0 h1 hb=>D5j 4 16 15 16 v b (by decide) (by rfl) (by rfl) (by omega) (by omega) (by omega) ⟨h0,h1⟩ hb
theorem D5s(s:X0)(a:List Int)(ha:a.length<=100000000000)(hs:s.size<=16777216):A6J a s=some (a++C7p s,()):=by
  simp only [A6J,B4F,D7H s (by omega),B0];by_cases h:(A7Q s).length<s.size
  · have hp:=B9Q 127 128 ((A7Q s).length:Int)
    rw [A0 (show ((A7Q s).length:Int)<(s.size:Int) by omega),B2,pS7 ((A7Q s).length:Int) a (by omega) (by omega) (by omega)];simp only [];rw [gA (by simp only [A4];omega),C7p,A6 h,B3]
  · have hp:=B9Q 127 0 (s.size:Int)
    rw [A8 (show ¬ ((A7Q s).length:Int)<(s.size:Int) by omega),A7,pS0 (s.size:Int) a (by omega) (by omega) (by omega)];simp only [];rw [A0 (by simp only [A4];omega),B2,C7p,A5 h,B3]
theorem E3o(t:E3)(f:C2)(q:Int)(hq:q=1\/q=3)(ht:A1V t)(h1:f.1.size<=10000)(h2:f.2.size<=10000) :
    ∃ r T,T3 t f q=some (r,(t.1,T),())/\A1V (t.1,T)/\r.length<=30000/\Byt r:=by
  have hl:=B6b ht;have hr:=D7M (firstT++t.2) f;have hF:=B6V;rw [A4] at hr;obtain ⟨ht0,ht1,ht2⟩:=ht;have hok:=E3G ⟨ht0,ht1,ht2⟩;have hfs:=C6W t f (by omega);generalize C1s (firstT++t.2) f=w at *
  obtain ⟨j,found⟩:=w;simp only at hr hfs;simp only [T3,A75,C32 t (by omega),hok,hfs,A4U,A0 (show 1<=q/\q<=3 by omega),bO,bSl,bSr,E0,A7];cases hc:(found&&!decide (q=3)) with
  | true=>
    simp only [B7] at hc;rw [hc.1,hc.2];simp only [B2];rw [pS7 j [] (by omega) (by omega) (by simp)];have:=B9Q 127 128 j;exact ⟨pfx 127 128 j,t.2,rfl,⟨ht0,ht1,ht2⟩,by omega,C5G _ _ _⟩
  | false=>
    have e1:(bif found then some ((!decide (q=3)),()) else some (false,()))=some (false,()):=by
      cases found
      · rfl
      · rw [show (!decide (q=3))=false from hc];rfl
    rw [e1];simp only [A7,bO,bSl,bSr];obtain ⟨n,fl,M,hP,hM1⟩:∃ n fl M,PfS n fl M/\C0W q=some (n,fl,()):=by
      rcases hq with rfl | rfl
      · exact ⟨6,64,63,pS6,rfl⟩
      · exact ⟨4,16,15,pS4,rfl⟩
    rw [hM1];simp only [bO];rw [hP j [] (by omega) (by omega) (by simp)];have hpl:=B9Q M fl j;have hpb:=C5G M fl j;generalize pfx M fl j=p at *
    simp only [G5,bO];obtain ⟨p',hp1,hp3,hp4⟩:∃ p',(bif (decide (j=0)) then (B0 (A6J p f.1) fun c56=>some (c56.1,())) else some (p,()))=some (p',())/\p'.length<=10020/\Byt p':=by
      by_cases hj:j=0
      · refine ⟨p++C7p f.1,?_,?_,A10 hpb (C6V _)⟩
        · rw [A0 hj,B2,D5s _ _ (by omega) (by omega),bO]
        · have:=D1s f.1
          simp only [A4];omega
      · exact ⟨p,by rw [A8 hj,A7],by omega,hpb⟩
    rw [hp1];simp only [bO];rw [D5s _ _ (by omega) (by omega)];have hsl:=D1s f.2;simp only [bO];rcases hq with rfl | rfl
    · obtain ⟨T,_,a2,a3⟩:=E3F t f ht0 (by omega) (by unfold ofF;omega)
      rw [a2];exact ⟨p'++C7p f.2,T,rfl,⟨ht0,ht1,a3⟩,by simp only [A4];omega,A10 hp4 (C6V _)⟩
    · exact ⟨p'++C7p f.2,t.2,rfl,⟨ht0,ht1,ht2⟩,by simp only [A4];omega,A10 hp4 (C6V _)⟩
theorem E29(r:B5o)(h:C2t r=true):∃ fs,B1l r=some (fs,())/\fs.length<=4/\∀ f∈fs,f.1.size<=10000/\f.2.size<=10000:=by
  obtain ⟨hr,hs,hn0,hn1⟩:=D20 h;obtain ⟨me,nm,e1,e3,hme,hnm⟩:∃ me nm,B4G r.1=some (me,())/\B8G r.1=some (nm,())/\me.size<=10/\nm.size<=20:=by
    have:r.1=1\/r.1=2\/r.1=3\/r.1=4\/r.1=5\/r.1=6:=by omega
    rcases this with e | e | e | e | e | e<;>rw [e]<;>exact ⟨_,_,rfl,rfl,by decide,by decide⟩
  obtain ⟨t1,t2⟩:=E27 r.2.2 hn0 hn1;have hpl:(⟨#[47,117,112,47]⟩:X0).size=4:=rfl;have hmax:¬ ((((⟨#[47,117,112,47]⟩:X0).size+r.2.1.size:Nat):Int)>i64.max):=by
    simp only [IntKind.max,IntKind.signed,IntKind.bits,hpl];simp;omega
  have p1:(⟨#[58,109,101,116,104,111,100]⟩:X0).size=7:=rfl;have p2:(⟨#[58,115,99,104,101,109,101]⟩:X0).size=7:=rfl;have p3:(⟨#[58,112,97,116,104]⟩:X0).size=5:=rfl;have p4:(⟨#[104,116,116,112,115]⟩:X0).size=5:=rfl;simp only [B1l,B6N,C6R r (show r.2.1.size<=maxLen by simp only [maxLen];omega),h,bO,E0,A7,e1,e3,A8 hmax];cases hb:(!(nm.toList == (⟨#[]⟩:X0).toList)) with
  | true=>
    simp only [B2,t1,bO];rw [D7F (by simp)];refine ⟨_,rfl,by simp,fun f hf=>?_⟩;simp only [D8,G5,B9,J1,A1A] at hf;rcases hf with rfl | rfl | rfl | rfl<;>exact ⟨by simp only [p1,p2,p3];omega,by simp only [p4,A8g,hpl];omega⟩
  | false=>
    simp only [A7];refine ⟨_,rfl,by simp,fun f hf=>?_⟩;simp only [B9,J1,A1A] at hf;rcases hf with rfl | rfl | rfl<;>exact ⟨by simp only [p1,p2,p3];omega,by simp only [p4,A8g,hpl];omega⟩
theorem E3p(t:E3)(fs:List C2)(ht:A1V t)(hl:fs.length<=1000)(hf:∀ f∈fs,f.1.size<=10000/\f.2.size<=10000) :
    ∃ r T,A34 t fs=some (r,(t.1,T),())/\A1V (t.1,T)/\r.length<=30000*fs.length/\Byt r:=by
  have htl:=B6b ht;have key:∀ k,k<=fs.length->∃ T r,A1V (t.1,T)/\(r.length<=30000*k/\Byt r)/\H6 (R8 T3 fs) (0,t.1,t.2,[],())=H6 (R8 T3 fs) ((k:Int),t.1,T,r,()):=by
    intro k
    induction k with
    | zero=>intro _;exact ⟨t.2,[],ht,⟨by simp,fun x hx=>by cases hx⟩,rfl⟩
    | succ k ih=>
      intro hk;obtain ⟨T,r,h1,⟨h2,h5⟩,h3⟩:=ih (by omega);have hlt:k<fs.length:=by omega
      have a1:(k:Int)<(fs.length:Int):=by omega
      have a2:(0:Int)<=(k:Int):=by omega
      have a3:rd D9 fs (k:Int)=fs[k]:=A81 (k:=D9) hlt;have a4:=hf fs[k] (G3 hlt);have both:∀ q,q=1\/q=3->(bif (fs[k].1.toList == (⟨#[97,117,116,104,111,114,105,122,97,116,105,111,110]⟩:X0).toList) then (3:Int) else 1)=q->∃ T r,A1V (t.1,T)/\(r.length<=30000*(k+1)/\Byt r)/\H6 (R8 T3 fs) (0,t.1,t.2,[],())=H6 (R8 T3 fs) (((k+1:Nat):Int),t.1,T,r,()):=fun q hq e=>by
        obtain ⟨r',T',b1,b3,b4,b5⟩:=E3o (t.1,T) fs[k] q hq h1 a4.1 a4.2;refine ⟨T',r++r',b3,⟨by simp only [A4];omega,A10 h5 b5⟩,?_⟩;rw [h3];refine B55 ?_;cases hc:(fs[k].1.toList == (⟨#[97,117,116,104,111,114,105,122,97,116,105,111,110]⟩:X0).toList) <;>
        · rw [hc] at e
          simp only [B2,A7] at e;subst e;simp only [R8,A0 a1,A0 a2,B2,A7,a3,hc,bO,b1];rw [gA (by omega),w64 (by omega) (by omega)];rfl
      exact both _ (by cases (fs[k].1.toList == (⟨#[97,117,116,104,111,114,105,122,97,116,105,111,110]⟩:X0).toList)<;>simp) rfl
  obtain ⟨T,r,h1,⟨h2,h5⟩,h3⟩:=key fs.length (C0 _);have e1:¬ ((fs.length:Nat):Int)<(fs.length:Int):=by omega
  refine ⟨r,T,?_,h1,h2,h5⟩;simp only [A34,A65,C32 t (by omega),bO];rw [h3,I3];simp only [R8,A8 e1,A7];rfl
theorem E4O(t:E3)(id:Int)(r:B5o)(xs:List Int)(a4:Int)(ht:szT t.2<=1000000000)(hr:r.2.1.size<=1000000000)(hx:xs.length<=100000000) :
    ∃ o T,A2d t id r xs a4=some (o,(t.1,T),())/\o.length<=1009*(120001+xs.length)/\szT T<=1000000000/\(Byt xs->Byt o):=by
  have htl:=A3i t.2;obtain ⟨b,hb⟩:=D05 t (by simp only [maxLen];omega);simp only [A2d,A80,hb,C6R r (show r.2.1.size<=maxLen by simp only [maxLen];omega),A4U,bO,C32 t (by omega)];have hno:∀ {c:Prop},c->∃ o T,(some (([]:List Int),t,()):Option (List Int×E3×Unit))=some (o,(t.1,T),())/\o.length<=1009*(120001+xs.length)/\szT T<=1000000000/\(Byt xs->Byt o):=fun _=>⟨[],t.2,rfl,by simp,ht,fun _ x hx=>by cases hx⟩
  cases b with
  | false=>exact hno trivial
  | true=>
  cases h2:C2t r with
  | false=>exact hno trivial
  | true=>
  by_cases h3:1<=id/\id<=2147483647
  case neg=>
    rw [A8 h3];exact hno trivial
  simp only [A0 h3,E0,A7,bO,bSl];obtain ⟨fs,f1,f3,f4⟩:=E29 r h2;obtain ⟨h,T,g1,g3,g4,g5⟩:=E3p t fs (E3H (by omega) hb) (by omega) f4;have hn:=D5p a4;have hpo:=E0C id (decide ((xs.length:Int)=0)) (czN a4) h h3 hn.2;have hpl:=D7O id (if decide ((xs.length:Int)=0)=true then 1 else 0) (czN a4) h (by omega);have e0:=E3n a4;simp only [f1,g1,bO,D7N id (decide ((xs.length:Int)=0)) h a4 h3 (by omega)];rw [D24 _ hpo (by omega)];have hcl:=C6d _ hpo _ (C0 _);have hcb:=D22 (D7P (id:=id) (fl:=(if decide ((xs.length:Int)=0)=true then 1 else 0)) (n:=czN a4) g5);generalize C4F id (if decide ((xs.length:Int)=0)=true then 1 else 0) (czN a4) h=F at *
  have e1:∀ (K:Int×Unit->Option (List Int×E3×Unit)),(B0 (bif (decide (a4<1)) then some ((1:Int),()) else some (a4,())) fun (m0:Int×Unit)=>B0 (bif (decide (m0.1>1000)) then some ((1000:Int),()) else some (m0.1,())) K)=K ((czN a4:Int),()):=by
    intro K;rw [show K ((czN a4:Int),())=B0 (some ((czN a4:Int),())) K from rfl,<- e0];cases (bif (decide (a4<1)) then some ((1:Int),()) else some (a4,()))<;>rfl
  have hbl:=C6e id (czN a4) xs h3 hn.2 (ceN (czN a4) xs.length);have hC:=D0F (n:=czN a4) (L:=xs.length) (by omega);simp only [bO];rw [e1,E3I id (czN a4) xs _ h3 hn hx (by omega)];obtain ⟨k1,k2,k3⟩:=g3;exact ⟨_,T,rfl,by rw [A4];omega,by simp only at k1 k2 k3;omega,fun hxb=>A10 (hcb _) (C99 hxb _)⟩
set_option maxRecDepth 100000
set_option maxRecDepth 100000
theorem D3v{R:Type}{n:Nat}{X:Option R}(h:n<=1000000000000):(bif decide (n<=9223372036854775807) then bif decide (n*72<=140737488355328) then X else none else none)=X:=by
  rw [A0 (by omega),A0 (by omega)];rfl
def E3q(c:A1S):Prop:=c.2.1.length<=2000000/\c.2.2.1.2.2.length<=2000000/\c.2.2.2.1.2.length<=2000000/\c.2.2.2.2.1.2.length<=2000000/\c.2.2.2.2.2.1.length<=2000000/\∀ x∈c.2.2.2.2.2.1,x.2.2.2.length<=2000000
theorem B9u(g:S1)(h:g.2.2.length<=2000000):A4g g=some (g,()):=by
  simp only [A4g,B2J,A9L g.2.2 (by omega),B0]
theorem D25(c:A1S)(h:E3q c):B1a c=some (c,()):=by
  obtain ⟨h1,h2,h3,h4,h5,h6⟩:=h;simp only [B1a,B5v,A9L c.2.1 (by omega),B9u _ h2,B1m c.2.2.2.1 (by omega),B1m c.2.2.2.2.1 (by omega),bO];refine R5 (A7k G7 c) (fun k=>((k:Int),c.1,c.2.2.1.1,c.2.2.1.2.1,c.2.2.2.1.1,c.2.2.2.2.1.1,c.2.2.2.2.2.2.1,c.2.2.2.2.2.2.2,c.2.1,c.2.2.1.2.2,c.2.2.2.1.2,c.2.2.2.2.1.2,c.2.2.2.2.2.1.take k,())) c.2.2.2.2.2.1.length (c,()) (fun k hk=>?_) ?_
  · have a1:(k:Int)<(c.2.2.2.2.2.1.length:Int):=by omega
    have a2:(0:Int)<=(k:Int):=by omega
    have a3:rd N8 c.2.2.2.2.2.1 (k:Int)=c.2.2.2.2.2.1[k]:=A81 (k:=N8) hk;have a4:=h6 _ (G3 hk);simp only [A7k,A0 a1,A0 a2,B2,a3,A9L _ (show (c.2.2.2.2.2.1[k]).2.2.2.length<=1000000000 by omega),bO];rw [D3v (by simp;omega),w64 (by omega) (by omega),N7 hk];rfl
  · have a1:¬ ((c.2.2.2.2.2.1.length:Nat):Int)<(c.2.2.2.2.2.1.length:Int):=by omega
    simp only [A7k,A8 a1,A7];rw [F6 (C0 _)]
def E0D(c:A1S)(j:Nat):Int:=(rd N8 c.2.2.2.2.2.1 (j:Int)).1
theorem str_eq(c:A1S)(id:Int)(h:c.2.2.2.2.2.1.length<=2000000):∃ i,i<=c.2.2.2.2.2.1.length/\(∀ j,j<i->E0D c j<id)/\(i<c.2.2.2.2.2.1.length->¬ E0D c i<id)/\
    A3d c id=some ((i:Int),(decide (i<c.2.2.2.2.2.1.length)&&decide (E0D c i=id)),c,()):=by
  obtain ⟨i,h1,h2,h3,h4⟩:=A9J (A7n c id) (fun j=>((j:Int),())) c.2.2.2.2.2.1.length (fun j=>((j:Int),())) (fun j=>decide (E0D c j<id)) (fun j hj=>by
    have a1:(j:Int)<(c.2.2.2.2.2.1.length:Int):=by omega
    have a2:(0:Int)<=(j:Int):=by omega
    simp only [A7n,A0 a1,A0 a2,B2];rw [w64 (by omega) (by omega)];unfold E0D;cases decide ((rd N8 c.2.2.2.2.2.1 (j:Int)).1<id)<;>rfl) (by
    have a1:¬ ((c.2.2.2.2.2.1.length:Nat):Int)<(c.2.2.2.2.2.1.length:Int):=by omega
    simp only [A7n,A8 a1,A7])
  refine ⟨i,h1,fun j hj=>by simpa using h2 j hj,fun hi=>by simpa using h3 hi,?_⟩;simp only [A3d,B67];rw [show ((0:Int),())=(fun j:Nat=>((j:Int),())) 0 from rfl,h4];simp only [bO];by_cases hi:i<c.2.2.2.2.2.1.length
  · rw [A0 (p:=(i:Int)<(c.2.2.2.2.2.1.length:Int)) (by omega),A0 (p:=(0:Int)<=(i:Int)) (by omega),A0 hi]
    rfl
  · rw [A8 (p:=(i:Int)<(c.2.2.2.2.2.1.length:Int)) (by omega),A8 hi]
    rfl
set_option maxRecDepth 100000
def S4:Nat->Nat->List Bool
  | 0,_=> []
  | n+1,v=>v.testBit n::S4 n v
theorem A5T:∀ n v,(S4 n v).length=n
  | 0,_=>rfl
  | n+1,v=>by simp only [S4,G0,A5T n v]
theorem A7R(m:Nat):∀ (n v:Nat),n<=m->S4 n (v % 2 ^ m)=S4 n v
  | 0,_,_=>rfl
  | n+1,v,h=>by
    simp only [S4];rw [A7R m n v (by omega),Nat.testBit_mod_two_pow,A0 (show n<m by omega),J9]
theorem B57:∀ a b v,S4 (a+b) v=S4 a (v / 2 ^ b)++S4 b v
  | 0,b,v=>by simp [S4]
  | a+1,b,v=>by
    rw [show a+1+b=(a+b)+1 by omega];simp only [S4,D8];rw [B57 a b v,B5R]
theorem C34:∀ n v w,v<2 ^ n->w<2 ^ n->S4 n v=S4 n w->v=w
  | 0,v,w,hv,hw,_=>by simp at hv hw;omega
  | n+1,v,w,hv,hw,h=>by
    simp only [S4,List.cons.injEq] at h;obtain ⟨h1,h2⟩:=h;rw [<- A7R n n v (C0 _),<- A7R n n w (C0 _)] at h2;have h3:=C34 n _ _ (A3q _ (A0g n)) (A3q _ (A0g n)) h2;rw [A8U,A8U] at h1;rw [B24] at hv hw;have h0:=A0g n;generalize 2 ^ n=p at *
    have h4:=A43 v p;have h5:=A43 w p;have h6:v / p<2:=A4u hv;have h7:w / p<2:=A4u hw;have h8:v / p=w / p:=by
      clear h4 h5
      generalize v / p=a at *
      generalize w / p=b at *
      have q1:a=0\/a=1:=by omega
      have q2:b=0\/b=1:=by omega
      rcases q1 with rfl | rfl<;>rcases q2 with rfl | rfl<;>simp_all
    rw [h8] at h4;omega
theorem B6c:∀ n m,n<=m->S4 n (2 ^ m-1)=List.replicate n true
  | 0,_,_=>rfl
  | n+1,m,h=>by
    simp only [S4,A38];rw [B6c n m (by omega),Nat.testBit_two_pow_sub_one,A0 (show n<m by omega)]
def N2(l:List Int):List Bool:=l.flatMap fun x=>S4 8 x.toNat
theorem C1t(a b:List Int):N2 (a++b)=N2 a++N2 b:=by simp [N2]
theorem A6O(x:Int)(b:List Int):N2 (x::b)=S4 8 x.toNat++N2 b:=by simp [N2]
theorem D0H(x:Int):N2 [x]=S4 8 x.toNat:=by simp [N2]
theorem A2e:∀ l:List Int,(N2 l).length=8*l.length
  | []=>rfl
  | x::l=>by
    have:=A2e l;rw [A6O,A4,A5T,G0];omega
theorem C1u:∀ {a b:List Int},Byt a->Byt b->N2 a=N2 b->a=b
  | [],[],_,_,_=>rfl
  | [],y::b,_,_,h=>by have:=M0 List.length h;rw [A2e,A2e] at this;simp at this
  | x::a,[],_,_,h=>by have:=M0 List.length h;rw [A2e,A2e] at this;simp at this
  | x::a,y::b,ha,hb,h=>by
    rw [A6O,A6O] at h;have h1:=List.append_inj h (by rw [A5T,A5T]);have hx:=ha x A9;have hy:=hb y A9;have h2:=C34 8 _ _ (by omega) (by omega) h1.1;have h3:=C1u (fun z hz=>ha z (B8 _ hz)) (fun z hz=>hb z (B8 _ hz)) h1.2;rw [h3,show x=y by omega]
def coN(x:Nat):Nat:=(codesT.getD x 0).toNat
def leN(x:Nat):Nat:=(lensT.getD x 0).toNat
def cod(x:Nat):List Bool:=S4 (leN x) (coN x)
theorem E0E:(List.range 257).all (fun x=>decide (0<=codesT.getD x 0)&&decide ((codesT.getD x 0).toNat<2 ^ (lensT.getD x 0).toNat))=true:=by kernel_rfl
theorem D5t{x:Nat}(h:x<257):0<=codesT.getD x 0/\coN x<2 ^ leN x:=by
  have:=C4.1 E0E x (A1C.2 h);simpa [coN,leN] using this
theorem D26{x:Nat}(h:x<257):5<=lensT.getD x 0/\lensT.getD x 0<=30:=by
  have h:=C4.1 C96 (lensT.getD x 0) (by
    rw [C9,C3 (by rw [A0r];exact h)];exact G3 _)
  simpa using h
def A1h(l:List Nat):List Bool:=l.flatMap cod
theorem C4G(a b:List Nat):A1h (a++b)=A1h a++A1h b:=by simp [A1h]
theorem C1v{x y:Nat}(hx:x<9223372036854775808)(hy:y<9223372036854775808):A14 .i64 (x:Int) (y:Int)=((x &&& y:Nat):Int):=by
  have h:x &&& y<9223372036854775808:=C1B Nat.and_le_left hx;unfold A14;rw [BitVec.toNat_and,bits_nat (by simp only [IntKind.bits];omega),bits_nat (by simp only [IntKind.bits];omega)];exact D3p h
theorem D0I{x y:Nat}(hx:x<9223372036854775808)(hy:y<9223372036854775808):bOr .i64 (x:Int) (y:Int)=((x ||| y:Nat):Int):=D5d hx hy
theorem D0J{m:Nat}(h:m<64):(min (u64.wrap (m:Int)).toNat i64.bits)=m:=by
  have:u64.wrap (m:Int)=m:=by
    simp only [IntKind.wrap,IntKind.bits,IntKind.signed,A4t];simp;omega
  rw [this];simp only [IntKind.bits];omega
theorem C1w(m:Nat):((2:Int) ^ m)=((2 ^ m:Nat):Int):=by simp
theorem C6f{m n:Nat}(h:m<=n):2 ^ m<=2 ^ n:=A2m (by omega) h
theorem p62{m:Nat}(h:m<=62):2 ^ m<=4611686018427387904:=A5u (C6f h) (by decide)
theorem D5u{v m:Nat}(hm:m<62)(h:v*2 ^ m<9223372036854775808):i64.wrap ((v:Int)*2 ^ (min (u64.wrap (m:Int)).toNat i64.bits))=((v*2 ^ m:Nat):Int):=by
  rw [D0J (by omega),C1w,<- Int.natCast_mul,w64 (by omega) (by omega)]
theorem D0K{m:Nat}(hm:m<62):i64.wrap (i64.wrap (1*2 ^ (min (u64.wrap (m:Int)).toNat i64.bits))-1)=((2 ^ m-1:Nat):Int):=by
  have h1:=p62 (show m<=62 by omega);have h2:=A0g m;have:=D5u (v:=1) hm (by omega);rw [show ((1:Nat):Int)=1 from rfl] at this;rw [this,w64 (by omega) (by omega)];omega
theorem D5v{x:Nat}(h:x<256):u8.wrap (x:Int)=x:=by
  simp only [IntKind.wrap,IntKind.bits,IntKind.signed,A4t];simp;omega
theorem D5w:∀ (k v n:Nat),v<2 ^ n->n<8*(k+1)->n<=60->∃ v' n':Nat,(dr k (v:Int) (n:Int)).1=v'/\(dr k (v:Int) (n:Int)).2.1=n'/\v'<2 ^ n'/\Byt (dr k (v:Int) (n:Int)).2.2/\N2 (dr k (v:Int) (n:Int)).2.2++S4 n' v' = S4 n v
  | 0,v,n,hv,h1,h2=>⟨v,n,rfl,rfl,hv,(fun x hx=>by cases hx),rfl⟩
  | k+1,v,n,hv,h1,h2=>by
    by_cases h:8<=n
    · have e:((n:Int)-8)=((n-8:Nat):Int):=by omega
      have hp:=p62 (show n<=62 by omega);have hq:=C6f (show n-8<=n by omega);have h0:=A0g (n-8);have e1:A14 .i64 (v:Int) (i64.wrap (i64.wrap (1*2 ^ (min (u64.wrap ((n:Int)-8)).toNat i64.bits))-1))=((v % 2 ^ (n-8):Nat):Int):=by
        rw [e,D0K (by omega),C1v (by omega) (by omega),A3N]
      have e2:u8.wrap ((v:Int).fdiv (2 ^ (min (u64.wrap ((n:Int)-8)).toNat i64.bits)))=((v / 2 ^ (n-8):Nat):Int):=by
        rw [e,D0J (by omega),A2G _ (by rw [C1w];omega),C1w,<- Int.natCast_ediv,D5v];refine A4u ?_;rw [show n=(n-8)+8 by omega,B3s] at hv;exact hv
      have e3:v / 2 ^ (n-8)<256:=by
        refine A4u ?_;rw [show n=(n-8)+8 by omega,B3s] at hv;exact hv
      obtain ⟨v',n',i1,i2,i3,i4,i5⟩:=D5w k (v % 2 ^ (n-8)) (n-8) (A3q _ h0) (by omega) (by omega);have hge:(n:Int)>=8:=by omega
      have hd:dr (k+1) (v:Int) (n:Int)=((dr k ((v % 2 ^ (n-8):Nat):Int) ((n-8:Nat):Int)).1,(dr k ((v % 2 ^ (n-8):Nat):Int) ((n-8:Nat):Int)).2.1,((v / 2 ^ (n-8):Nat):Int)::(dr k ((v % 2 ^ (n-8):Nat):Int) ((n-8:Nat):Int)).2.2):=by
        simp only [dr,A6 hge];rw [e1,e2,e]
      rw [hd];refine ⟨v',n',i1,i2,i3,?_,?_⟩
      · intro x hx
        rcases B9.1 hx with rfl | hx
        · generalize v / 2 ^ (n-8)=y at e3
          omega
        · exact i4 x hx
      · simp only []
        rw [A6O,B3,i5,E6,A7R (n-8) (n-8) v (C0 _),<- B57 8 (n-8) v]
        congr 1
        omega
    · have hge:¬ (n:Int)>=8:=by omega
      refine ⟨v,n,?_,?_,hv,?_,?_⟩
      · simp only [dr,A5 hge]
      · simp only [dr,A5 hge]
      · simp only [dr,A5 hge]
        intro x hx;cases hx
      · simp only [dr,A5 hge]
        rfl
def D27(s:X0):Nat->List Nat
  | 0=> []
  | k+1=>D27 s k ++ [(bt s k).toNat]
theorem D0L(s:X0)(k:Nat):leA s k=((leN (bt s k).toNat:Nat):Int):=by
  have:=D26 (C2w s k);simp only [leA,leN];omega
theorem E2A(s:X0)(k:Nat):coA s k=((coN (bt s k).toNat:Nat):Int):=by
  have:=D5t (C2w s k);simp only [coA,coN];omega
theorem D28(s:X0):∀ k:Nat,∃ v n:Nat,(hst s k).1=v/\(hst s k).2.1=n/\v<2 ^ n/\n<8/\Byt (hst s k).2.2/\N2 (hst s k).2.2++S4 n v=A1h (D27 s k)
  | 0=>⟨0,0,rfl,rfl,by decide,by omega,(fun x hx=>by cases hx),rfl⟩
  | k+1=>by
    obtain ⟨v,n,h1,h2,h3,h4,h5,h6⟩:=D28 s k;have hl:=C5H s k;have hf:=(D5t (C2w s k)).2;rw [D0L] at hl;have hle:leN (bt s k).toNat<=30:=by omega
    generalize hL:leN (bt s k).toNat=L at *
    generalize hC:coN (bt s k).toNat=C at *
    have hp:v*2 ^ L+C<2 ^ (n+L):=by
      rw [B3s];have:v*2 ^ L+2 ^ L<=2 ^ n*2 ^ L:=by rw [<- I8];exact E8 _ h3
      omega
    have hq:2 ^ (n+L)<=2 ^ 38:=C6f (by omega);have hq':(2:Nat) ^ 38=274877906944:=by decide
    have e1:bOr .i64 (i64.wrap ((hst s k).1*2 ^ (min (u64.wrap (leA s k)).toNat i64.bits))) (coA s k)=((v*2 ^ L+C:Nat):Int):=by
      rw [h1,D0L,E2A,hL,hC,D5u (by omega) (by omega),D0I (by omega) (by omega),A01 v,A4a hf]
    obtain ⟨v',n',i1,i2,i3,i4,i5⟩:=D5w 5 (v*2 ^ L+C) (n+L) hp (by omega) (by omega);have e2:(hst s k).2.1+leA s k=((n+L:Nat):Int):=by rw [h2,D0L,hL];omega
    have h7:=D5l s (k+1);simp only [hst,e1,e2] at h7;refine ⟨v',n',?_,?_,i3,?_,?_,?_⟩
    · simp only [hst,e1,e2];exact i1
    · simp only [hst,e1,e2];exact i2
    · omega
    · simp only [hst,e1,e2]
      intro x hx;rcases C8.1 hx with q | q
      · exact h5 x q
      · exact i4 x q
    · simp only [hst,e1,e2]
      rw [C1t,B3,i5,B57 n L];have a1:(v*2 ^ L+C) / 2 ^ L=v:=by
        rw [A01,Nat.mul_add_div (A0g L),Nat.div_eq_of_lt hf,K1]
      have a2:S4 L (v*2 ^ L+C)=S4 L C:=by
        rw [<- A7R L L (v*2 ^ L+C) (C0 _),A01,B7b,A7R L L C (C0 _)]
      rw [a1,a2,<- B3,h6];simp only [D27,C4G]
      congr 1
      simp only [A1h,B3r,List.flatMap_nil,F8,cod,hL,hC]
theorem C6g(s:X0):Byt (A7Q s)/\∃ p,p<8/\N2 (A7Q s)=A1h (D27 s s.size)++List.replicate p true:=by
  obtain ⟨v,n,h1,h2,h3,h4,h5,h6⟩:=D28 s s.size;unfold A7Q;by_cases h:(hst s s.size).2.1>0
  · rw [A6 h]
    have hn:0<n:=by omega
    have e1:i64.wrap (8-(hst s s.size).2.1)=((8-n:Nat):Int):=by rw [h2,w64 (by omega) (by omega)];omega
    have hp:v*2 ^ (8-n)+(2 ^ (8-n)-1)<2 ^ (n+(8-n)):=by
      rw [B3s];have:v*2 ^ (8-n)+2 ^ (8-n)<=2 ^ n*2 ^ (8-n):=by rw [<- I8];exact E8 _ h3
      have:=A0g (8-n);omega
    rw [show n+(8-n)=8 by omega] at hp;have hq:2 ^ (8-n)<=2 ^ 8:=C6f (by omega);have h0:=A0g (8-n);have hm:v*2 ^ (8-n)<256:=by omega
    rw [e1,h1,D0K (by omega),D5u (by omega) (by omega),D0I (by omega) (by omega),A01 v,<- A4a (show 2 ^ (8-n)-1<2 ^ (8-n) by omega),A01 _ v,D5v hp];refine ⟨fun x hx=>?_,8-n,by omega,?_⟩
    · rcases C8.1 hx with q | q
      · exact h5 x q
      · rcases B1.1 q with rfl
        omega
    · rw [C1t,D0H,E6,show (8:Nat)=n+(8-n) by omega,B57 n (8-n)]
      rw [show n+(8-n)-n=8-n by omega];have a1:(v*2 ^ (8-n)+(2 ^ (8-n)-1)) / 2 ^ (8-n)=v:=by
        rw [A01,Nat.mul_add_div h0,Nat.div_eq_of_lt (by omega),K1]
      have a2:S4 (8-n) (v*2 ^ (8-n)+(2 ^ (8-n)-1))=List.replicate (8-n) true:=by
        rw [<- A7R (8-n) (8-n) _ (C0 _),A01,B7b,A7R (8-n) (8-n) _ (C0 _),B6c _ _ (C0 _)]
      rw [a1,a2,<- B3,h6]
  · rw [A5 h]
    refine ⟨h5,0,by omega,?_⟩;have:n=0:=by omega
    subst this;simpa [S4] using h6
set_option maxRecDepth 100000
def fdC:Nat->Nat->Int->Int->Option Nat
  | 0,_,_,_=>none
  | k+1,i,c,n=>if codesT.getD i 0=c/\lensT.getD i 0=n then some i else fdC k (i+1) c n
theorem C6h:∀ (k i:Nat) (c n:Int) (j:Nat),fdC k i c n=some j->i<=j/\j<i+k/\codesT.getD j 0=c/\lensT.getD j 0=n
  | 0,_,_,_,_,h=>by cases h
  | k+1,i,c,n,j,h=>by
    unfold fdC at h;by_cases hc:codesT.getD i 0=c/\lensT.getD i 0=n
    · rw [A6 hc] at h
      injection h with h
      subst h;exact ⟨C0 _,by omega,hc⟩
    · rw [A5 hc] at h
      have:=C6h k (i+1) c n j h;omega
def B3a(c n:Nat):Option Nat:=fdC 257 0 (c:Int) (n:Int)
theorem B6d{c n j:Nat}(h:B3a c n=some j):j<257/\coN j=c/\leN j=n:=by
  obtain ⟨h1,h2,h3,h4⟩:=C6h _ _ _ _ _ h;refine ⟨by omega,?_,?_⟩
  · simp only [coN,h3];omega
  · simp only [leN,h4];omega
theorem D7Q{c n:Nat}(h:B3a c n=some 256):n=30:=by
  have:=(B6d h).2.2;have e:leN 256=30:=by kernel_rfl
  omega
abbrev RdS:=Nat×Nat×List Int
def B1M(st:RdS)(x:Bool):Option RdS:=
  if st.2.1+1>30 then none else match B3a (2*st.1+x.toNat) (st.2.1+1) with
  | some j=>if j<256 then some (0,0,st.2.2 ++ [(j:Int)]) else some (2*st.1+x.toNat,st.2.1+1,st.2.2)
  | none=>some (2*st.1+x.toNat,st.2.1+1,st.2.2)
def A07(st:RdS)(x:Bool):Option RdS:=
  match B3a (2*st.1+x.toNat) (st.2.1+1) with
  | some j=>if j=256 then none else if st.2.1+1>30 then none else some (0,0,st.2.2 ++ [(j:Int)])
  | none=>if st.2.1+1>30 then none else some (2*st.1+x.toNat,st.2.1+1,st.2.2)
def A2I(f:RdS->Bool->Option RdS):List Bool->RdS->RdS×Bool
  | [],st=>(st,false)
  | x::xs,st=>match f st x with
    | some st'=>A2I f xs st'
    | none=>(st,true)
theorem D29(f:RdS->Bool->Option RdS):∀ (xs ys:List Bool) (st:RdS),A2I f (xs++ys) st=bif (A2I f xs st).2 then A2I f xs st else A2I f ys (A2I f xs st).1
  | [],ys,st=>by simp [A2I]
  | x::xs,ys,st=>by
    simp only [D8,A2I];cases f st x with
    | none=>rfl
    | some st'=>exact D29 f xs ys st'
def B8N(l:List Int):List Nat:=l.map Int.toNat
theorem C6i(n v:Nat)(x:Bool):S4 (n+1) (2*v+x.toNat)=S4 n v ++ [x]:=by
  rw [B57 n 1];cases x<;>simp [S4,Nat.testBit_zero]<;>(try (congr 1;omega))<;>omega
def RdI(done:List Bool)(st:RdS):Prop:=st.1<2 ^ st.2.1/\st.2.1<=30/\Byt st.2.2/\A1h (B8N st.2.2)++S4 st.2.1 st.1=done
theorem E0F{done:List Bool}{st:RdS}(h:RdI done st)(x:Bool)(h30:st.2.1+1<=30):RdI (done ++ [x]) (2*st.1+x.toNat,st.2.1+1,st.2.2):=by
  obtain ⟨h1,h2,h3,h4⟩:=h;refine ⟨?_,h30,h3,?_⟩
  · simp only [B24]
    have:x.toNat<=1:=by cases x<;>simp
    omega
  · simp only [C6i]
    rw [<- B3,h4]
theorem E2B{done:List Bool}{st:RdS}(h:RdI done st)(x:Bool){j:Nat}(hj:B3a (2*st.1+x.toNat) (st.2.1+1)=some j)(h2:j<256):RdI (done ++ [x]) (0,0,st.2.2 ++ [(j:Int)]):=by
  obtain ⟨h1,h30,h3,h4⟩:=h;obtain ⟨e1,e2,e3⟩:=B6d hj;refine ⟨by simp,by simp,?_,?_⟩
  · intro y hy
    rcases C8.1 hy with q | q
    · exact h3 y q
    · rcases B1.1 q with rfl
      omega
  · simp only [B8N,A6t,C4G,S4,F8]
    rw [show A1h (List.map Int.toNat [(j:Int)])=S4 (st.2.1+1) (2*st.1+x.toNat) by simp [A1h,cod,e2,e3],C6i,<- B3];exact M0 (· ++ [x]) h4
theorem C20:∀ (xs done:List Bool) (st:RdS),RdI done st->
    ((A2I A07 xs st).2=false/\A2I B1M xs st=A2I A07 xs st/\RdI (done++xs) (A2I A07 xs st).1)\/
    ((A2I A07 xs st).2=true/\((A2I B1M xs st).2=true\/(A2I B1M xs st).1.2.1>=30)/\(A1h (B8N (A2I A07 xs st).1.2.2)).length+30<=(done++xs).length/\Byt (A2I A07 xs st).1.2.2)
  | [],done,st,h=>.inl ⟨rfl,rfl,by simpa [A2I] using h⟩
  | x::xs,done,st,h=>by
    have hd:done++x::xs=(done ++ [x])++xs:=by simp
    have hlen:(A1h (B8N st.2.2)).length+st.2.1=done.length:=by
      have:=M0 List.length h.2.2.2;rw [A4,A5T] at this;exact this
    have hlost:∀ (ys:List Bool) (s:RdS),s.2.1>=30->(A2I B1M ys s).2=true\/(A2I B1M ys s).1.2.1>=30:=fun ys s hs=>by
      cases ys with
      | nil=>exact .inr hs
      | cons y ys=>
        left;simp only [A2I];have:B1M s y=none:=by unfold B1M;rw [A6 (by omega)]
        rw [this]
    rw [hd];by_cases h30:st.2.1+1>30
    · right
      have e1:B1M st x=none:=by unfold B1M;rw [A6 h30]
      have e2:A07 st x=none:=by
        unfold A07;cases B3a (2*st.1+x.toNat) (st.2.1+1) with
        | none=>simp only [];rw [A6 h30]
        | some j=>simp only [A6 h30];split<;>rfl
      simp only [A2I,e1,e2];exact ⟨trivial,.inl trivial,by simp only [A4,H7];omega,h.2.2.1⟩
    · cases hj:B3a (2*st.1+x.toNat) (st.2.1+1) with
      | none=>
        have e1:B1M st x=some (2*st.1+x.toNat,st.2.1+1,st.2.2):=by simp only [B1M,A5 h30,hj]
        have e2:A07 st x=some (2*st.1+x.toNat,st.2.1+1,st.2.2):=by simp only [A07,A5 h30,hj]
        simp only [A2I,e1,e2];exact C20 xs _ _ (E0F h x (by omega))
      | some j=>
        by_cases h256:j<256
        · have e1:B1M st x=some (0,0,st.2.2 ++ [(j:Int)]):=by simp only [B1M,A5 h30,hj,A6 h256]
          have e2:A07 st x=some (0,0,st.2.2 ++ [(j:Int)]):=by simp only [A07,A5 h30,hj,A5 (show ¬ j=256 by omega)]
          simp only [A2I,e1,e2];exact C20 xs _ _ (E2B h x hj h256)
        · have hj':j=256:=by have:=(B6d hj).1;omega
          subst hj';have e0:=D7Q hj;right;have e1:B1M st x=some (2*st.1+x.toNat,st.2.1+1,st.2.2):=by simp only [B1M,A5 h30,hj,A5 h256]
          have e2:A07 st x=none:=by simp only [A07,hj,M7]
          simp only [A2I,e1,e2];exact ⟨trivial,hlost xs _ (by simp only;omega),by simp only [A4,H7];omega,h.2.2.1⟩
theorem E0G{l:List Int}(hl:Byt l){k:Nat}(hk:k<l.length):bt (strOf l) (k:Int)=l[k]:=by
  have hb:=hl _ (G3 hk);unfold bt strOf strOfNums;simp [List.getD,hk];omega
theorem C6j{l:List Int}(hl:Byt l):∀ k,k<=l.length->D27 (strOf l) k=(B8N l).take k
  | 0,_=>by simp [D27]
  | k+1,h=>by
    rw [D27,C6j hl k (by omega),E0G hl (by omega),N7 (show k<(B8N l).length by simp [B8N];omega)];simp [B8N]
theorem E0H{l:List Int}(hl:Byt l):D27 (strOf l) (strOf l).size=B8N l:=by
  rw [B2V,C6j hl _ (C0 _),F6 (by simp [B8N])]
def unH(b:List Int):List Int:=(A2I A07 (N2 b) (0,0,[])).1.2.2
def C7q(b:List Int):RdS×Bool:=A2I B1M (N2 b) (0,0,[])
def D2A(b:List Int):Bool:=!(C7q b).2&&decide ((C7q b).1.2.1<=7)&&decide ((C7q b).1.1=2 ^ (C7q b).1.2.1-1)
theorem D60(b:List Int):Byt (unH b):=by
  rcases C20 (N2 b) [] (0,0,[]) ⟨by simp,by simp,(fun x hx=>by cases hx),by simp [B8N,A1h,S4]⟩ with ⟨_,_,h⟩ | ⟨_,_,_,h⟩
  · exact h.2.2.1
  · exact h
theorem D61(b:List Int):5*(unH b).length<=8*b.length:=by
  have hs:∀ l:List Int,Byt l->5*l.length<=(A1h (B8N l)).length:=by
    intro l
    induction l with
    | nil=>intro _;simp
    | cons x l ih=>
      intro hb;have h1:=ih fun y hy=>hb y (B8 _ hy)
      have h2:=hb x A9;have h3:=D26 (show x.toNat<257 by omega);simp only [B8N,H3,A1h,B3r,A4,G0,cod,A5T,leN] at h1 ⊢;omega
  have hb:=D60 b;have h1:=hs _ hb;have h2:=A2e b;rcases C20 (N2 b) [] (0,0,[]) ⟨by simp,by simp,(fun x hx=>by cases hx),by simp [B8N,A1h,S4]⟩ with ⟨_,_,h⟩ | ⟨_,_,h,_⟩
  · have:=M0 List.length h.2.2.2
    rw [A4] at this;simp only [G5] at this;unfold unH at h1 ⊢;omega
  · simp only [G5] at h
    unfold unH at h1 ⊢;omega
theorem E3J(b:List Int)(hb:Byt b):(A7Q (strOf (unH b))=b↔D2A b=true)/\(D2A b=true->(C7q b).1.2.2=unH b):=by
  have hu:=D60 b;obtain ⟨c1,p,c2,c3⟩:=C6g (strOf (unH b));rw [E0H hu] at c3;have hl:=A2e b;rcases C20 (N2 b) [] (0,0,[]) ⟨by simp,by simp,(fun x hx=>by cases hx),by simp [B8N,A1h,S4]⟩ with ⟨h1,h2,h3⟩ | ⟨h1,h2,h3,h4⟩
  · obtain ⟨i1,i2,i3,i4⟩:=h3
    simp only [G5] at i4;have e:C7q b=A2I A07 (N2 b) (0,0,[]):=h2;have e2:(C7q b).2=false:=by rw [e];exact h1
    refine ⟨⟨fun hq=>?_,fun hq=>?_⟩,fun _=>by rw [e];rfl⟩
    · rw [hq,<- i4] at c3
      have c4:S4 _ _=List.replicate p true:=A3M (show A1h (B8N (unH b))++_=A1h (B8N (unH b))++_ from c3);have c5:=M0 List.length c4;rw [A5T,R9] at c5;unfold D2A;rw [e2,e,c5];have c6:S4 p (A2I A07 (N2 b) (0,0,[])).1.1=S4 p (2 ^ p-1):=by
        rw [B6c p p (C0 _),<- c4,c5]
      have c7:=C34 p _ _ (by rw [<- c5];exact i1) (by have:=A0g p;omega) c6;simp only [M1,J9,B7,N6];exact ⟨by omega,c7⟩
    · unfold D2A at hq
      rw [e2,e] at hq;simp only [M1,J9,B7,N6] at hq;obtain ⟨q1,q2⟩:=hq;refine C1u c1 hb ?_;rw [c3,<- i4];have hn:(A2I A07 (N2 b) (0,0,[])).1.2.1=p:=by
        have d1:=M0 List.length c3;have d2:=M0 List.length i4;rw [A2e,A4,R9] at d1;rw [A4,A5T,hl] at d2;unfold unH at d1;omega
      rw [q2,hn,B6c p p (C0 _)];rfl
  · have hno:D2A b=false:=by
      unfold D2A;rcases h2 with h2 | h2
      · rw [show (C7q b).2=true from h2];rfl
      · rw [show decide ((C7q b).1.2.1<=7)=false from A8 (by have:(C7q b).1.2.1>=30:=h2;omega)];simp
    refine ⟨⟨fun hq=>?_,fun hq=>by rw [hno] at hq;cases hq⟩,fun hq=>by rw [hno] at hq;cases hq⟩;exfalso;have d1:=M0 List.length c3;rw [hq,hl,A4,R9] at d1;simp only [G5] at h3;unfold unH at d1;omega
set_option maxRecDepth 100000
def E2a:List ((Int×Int)×Int):=(List.range 257).map fun k=>((codesT.getD k 0,lensT.getD k 0),(k:Int))
theorem D7R:mkM (codesT.zip lensT) 257=E2a:=by kernel_rfl
theorem C9A(c n:Int):∀ (k i j:Nat),fdM ((List.range' i k).map fun q=>((codesT.getD q 0,lensT.getD q 0),(q:Int))) (c,n) j=(fdC k i c n).map fun (q:Nat)=>(j+(q-i),(q:Int))
  | 0,i,j=>rfl
  | k+1,i,j=>by
    rw [B5N,H3,fdM,fdC];by_cases h:codesT.getD i 0=c/\lensT.getD i 0=n
    · rw [A6 ⟨h.1.symm,h.2.symm⟩,A6 h]
      simp
    · rw [A5 (fun e=>h ⟨e.1.symm,e.2.symm⟩),A5 h,C9A c n k (i+1) (j+1)]
      cases hq:fdC k (i+1) c n with
      | none=>rfl
      | some q=>
        have:=(C6h k (i+1) c n q hq).1;simp only [L7,G9,B0T,and_true];omega
theorem C9B(c n:Nat):fdM (mkM (codesT.zip lensT) 257) ((c:Int),(n:Int)) 0=(B3a c n).map fun (q:Nat)=>(q,(q:Int)):=by
  rw [D7R,E2a,B0o,C9A];unfold B3a;cases fdC 257 0 (c:Int) (n:Int)<;>simp
theorem D7S(c n:Nat):lkO (mkM (codesT.zip lensT) 257) ((c:Int),(n:Int))=(B3a c n).isSome:=by
  unfold lkO;rw [C9B];cases B3a c n<;>rfl
theorem D7T{c n j:Nat}(h:B3a c n=some j):lkV (mkM (codesT.zip lensT) 257) ((c:Int),(n:Int))=(j:Int):=by
  unfold lkV;rw [C9B,h];rfl
theorem E0I{x:Nat}(h:x<9223372036854775808):A14 .i64 (x:Int) 1=(((x.testBit 0).toNat:Nat):Int):=by
  rw [show (1:Int)=((1:Nat):Int) from rfl,C1v h (by omega)]
  congr 1
  rw [Nat.and_one_is_mod,Nat.testBit_zero];rcases Nat.mod_two_eq_zero_or_one x with e | e<;>simp [e]
theorem E0J{x k:Nat}(h:x<256):((x:Int).fdiv (2 ^ k))=((x / 2 ^ k:Nat):Int):=by
  rw [A2G _ (by rw [C1w];exact Int.natCast_nonneg _),C1w,<- Int.natCast_ediv]
theorem E3K{x k:Nat}(h:x<256)(hk:k<8):A14 .i64 (((x:Int).fdiv (2 ^ (min (u64.wrap (k:Int)).toNat i64.bits)))) 1=(((x.testBit k).toNat:Nat):Int):=by
  rw [D0J (by omega),E0J h,E0I (C1B (Nat.div_le_self _ _) (by omega)),B5R,E5]
theorem E3L{v n:Nat}(hv:v<2 ^ n)(hn:n<=30)(x:Bool):bOr .i64 (i64.wrap ((v:Int)*2)) ((x.toNat:Nat):Int)=((2*v+x.toNat:Nat):Int):=by
  have h1:=p62 (show n<=62 by omega);have h2:2 ^ n<=2 ^ 30:=C6f hn;have h3:(2:Nat) ^ 30=1073741824:=by decide
  have h4:x.toNat<2 ^ 1:=by cases x<;>simp
  rw [show (v:Int)*2=((v*2:Nat):Int) by omega,w64 (by omega) (by omega),D0I (by omega) (by cases x<;>simp),A01 v]
  congr 1
  have:=A4a h4 v;simpa using this.symm
def RdG(st:RdS):Prop:=st.1<2 ^ st.2.1/\st.2.1<=30
theorem C6k{st st':RdS}{x:Bool}(h:RdG st)(e:A07 st x=some st'):RdG st'/\st'.2.2.length<=st.2.2.length+1:=by
  unfold A07 at e;have hx:x.toNat<=1:=by cases x<;>simp
  have hp:2*st.1+x.toNat<2 ^ (st.2.1+1):=by have:=h.1;rw [B24];omega
  cases hj:B3a (2*st.1+x.toNat) (st.2.1+1) with
  | none=>
    rw [hj] at e;by_cases h30:st.2.1+1>30
    · simp only [A6 h30] at e;cases e
    · simp only [A5 h30,G9] at e
      subst e;exact ⟨⟨hp,by simp only;omega⟩,by simp⟩
  | some j=>
    rw [hj] at e;by_cases h256:j=256
    · simp only [A6 h256] at e;cases e
    · by_cases h30:st.2.1+1>30
      · simp only [A5 h256,A6 h30] at e;cases e
      · simp only [A5 h256,A5 h30,G9] at e
        subst e;exact ⟨⟨by simp,by simp⟩,by simp⟩
theorem C35(a:List Int)(j:Nat)(x:Nat)(hx:x<256)(hj:rd (.int .u8) a (j:Int)=(x:Int))(q1 q2:Int)(q3:List Int):∀ (k:Nat) (st:RdS),k<=8->RdG st->st.2.2.length+k<=1000000000000->j<1000000000000->
    H6 (B1b (codesT.zip lensT) a ((j:Int),q1,q2,q3,())) ((k:Int)-1,(st.1:Int),(st.2.1:Int),st.2.2,()) =
      (if (A2I A07 (S4 k x) st).2 then some (.inr (.inr (strOf (A2I A07 (S4 k x) st).1.2.2,()))) else some (.inl (((j+1:Nat):Int),((A2I A07 (S4 k x) st).1.1:Int),((A2I A07 (S4 k x) st).1.2.1:Int),(A2I A07 (S4 k x) st).1.2.2,())))
  | 0,st,_,_,_,hj2=>by
    rw [I3];have h:¬ ((0:Nat):Int)-1>=0:=by omega
    simp only [B1b,A8 h,A7,S4,A2I];rw [w64 (n:=(j:Int)+1) (by omega) (by omega),show (j:Int)+1=((j+1:Nat):Int) by omega];rfl
  | k+1,st,h8,hg,hl,hj2=>by
    rw [I3];have e0:((k+1:Nat):Int)-1=(k:Int):=by omega
    have h0:(k:Int)>=0:=by omega
    have e1:i64.wrap (x:Int)=(x:Int):=w64 (by omega) (by omega);have e2:=E3K hx (show k<8 by omega);have e3:=E3L hg.1 hg.2 (x.testBit k);have e4:i64.wrap ((st.2.1:Int)+1)=((st.2.1+1:Nat):Int):=by have:=hg.2;rw [w64 (by omega) (by omega)];omega
    have e5:i64.wrap ((k:Int)-1)=(k:Int)-1:=w64 (by omega) (by omega);rw [e0];simp only [B1b,A0 h0,B2,A8 (u64_nonneg _),A7,hj,e1,e2,e3,e4,e5,D7S];simp only [S4,A2I];cases hs:B3a (2*st.1+(x.testBit k).toNat) (st.2.1+1) with
    | none=>
      simp only [Option.isSome_none,A7];by_cases h30:st.2.1+1>30
      · have d1:((st.2.1+1:Nat):Int)>30:=by omega
        have e6:A07 st (x.testBit k)=none:=by unfold A07;rw [hs];simp only [A6 h30]
        rw [e6];simp only [A0 d1,B2,K3,M7]
      · have d1:¬ ((st.2.1+1:Nat):Int)>30:=by omega
        have e6:A07 st (x.testBit k)=some (2*st.1+(x.testBit k).toNat,st.2.1+1,st.2.2):=by unfold A07;rw [hs];simp only [A5 h30]
        have hg2:=C6k hg e6;rw [e6];simp only [A8 d1,A7,K3];exact C35 a j x hx hj q1 q2 q3 k _ (by omega) hg2.1 (by simp only;omega) hj2
    | some s=>
      have e7:=D7T hs;have hlt:=(B6d hs).1;simp only [Option.isSome_some,B2,e7];by_cases h256:s=256
      · have d1:(s:Int)=256:=by omega
        have e6:A07 st (x.testBit k)=none:=by unfold A07;rw [hs];simp only [A6 h256]
        rw [e6];simp only [A0 d1,B2,K3,M7]
      · have d1:¬ (s:Int)=256:=by omega
        by_cases h30:st.2.1+1>30
        · have d2:((st.2.1+1:Nat):Int)>30:=by omega
          have e6:A07 st (x.testBit k)=none:=by unfold A07;rw [hs];simp only [A5 h256,A6 h30]
          rw [e6];simp only [A8 d1,A0 d2,B2,A7,K3,M7]
        · have d2:¬ ((st.2.1+1:Nat):Int)>30:=by omega
          have e6:A07 st (x.testBit k)=some (0,0,st.2.2 ++ [(s:Int)]):=by unfold A07;rw [hs];simp only [A5 h256,A5 h30]
          have hg2:=C6k hg e6;rw [e6];simp only [A8 d1,A8 d2,A7,K3,D5v (show s<256 by omega)];rw [gA (by simp;omega)];exact C35 a j x hx hj q1 q2 q3 k _ (by omega) hg2.1 (by simp only [A4,H7];omega) hj2
theorem D2B(f:RdS->Bool->Option RdS)(hf:∀ st x st',RdG st->f st x=some st'->RdG st'/\st'.2.2.length<=st.2.2.length+1):∀ (xs:List Bool) (st:RdS),RdG st->RdG (A2I f xs st).1/\(A2I f xs st).1.2.2.length<=st.2.2.length+xs.length
  | [],st,h=>⟨h,by simp [A2I]⟩
  | x::xs,st,h=>by
    simp only [A2I];cases e:f st x with
    | none=>exact ⟨h,by simp only [G0];omega⟩
    | some st'=>
      have h1:=hf _ _ _ h e;have h2:=D2B f hf xs st' h1.1;exact ⟨h2.1,by simp only [G0];omega⟩
theorem C6l(a:List Int)(ha:Byt a)(hl:a.length<=1000000000):∀ (k j:Nat) (st:RdS),j+k=a.length->RdG st->st.2.2.length+8*k<=100000000000->
    H6 (A7m a (codesT.zip lensT)) ((j:Int),(st.1:Int),(st.2.1:Int),st.2.2,()) =
      (if (A2I A07 (N2 (a.drop j)) st).2 then some (.inr (strOf (A2I A07 (N2 (a.drop j)) st).1.2.2,())) else some (.inl ((A2I A07 (N2 (a.drop j)) st).1.2.2,())))
  | 0,j,st,hj,hg,hlen=>by
    rw [I3];have h:¬ (j:Int)<(a.length:Int):=by omega
    simp only [A7m,A8 h,A7];rw [A0b (by omega)];rfl
  | k+1,j,st,hj,hg,hlen=>by
    rw [I3];have h:(j:Int)<(a.length:Int):=by omega
    have h0:(0:Int)<=(j:Int):=by omega
    have hx:=ha _ (G3 (show j<a.length by omega));have hr:rd (.int .u8) a (j:Int)=((a[j].toNat:Nat):Int):=by rw [D02 (show j<a.length by omega)];exact (A1a hx.1).symm
    simp only [A7m,A0 h,A0 h0,B2];have e:=C35 a j a[j].toNat (by omega) hr (st.1:Int) (st.2.1:Int) st.2.2 8 st (by omega) hg (by omega) (by omega);rw [show ((8:Nat):Int)-1=7 from rfl] at e;rw [e];have hd:N2 (a.drop j)=S4 8 a[j].toNat++N2 (a.drop (j+1)):=by rw [K2 (show j<a.length by omega),A6O]
    rw [hd,D29];have hg2:=D2B A07 (fun st x st' h e=>C6k h e) (S4 8 a[j].toNat) st hg;rw [A5T] at hg2;cases hs:(A2I A07 (S4 8 a[j].toNat) st).2 with
    | true=>simp only [M7,hs,B2]
    | false=>
      simp only [J2,O7,A7];exact C6l a ha hl k (j+1) _ (by omega) hg2.1 (by omega)
theorem D2C(a:List Int)(ha:Byt a)(hl:a.length<=1000000000):B62 (codesT.zip lensT) a=some (strOf (unH a),()):=by
  have h257:(codesT.zip lensT).length=257:=by rw [A6u,A9K,A0r];rfl
  simp only [B62,C0N,A0 h257,B2];have e:=C6l a ha hl a.length 0 (0,0,[]) (by omega) ⟨by simp,by simp⟩ (by simp;omega);have e':H6 (A7m a (codesT.zip lensT)) (0,0,0,[],())=_:=e;rw [e',A0c];cases hs:(A2I A07 (N2 a) (0,0,[])).2 with
  | true=>simp only [M7,K3];rfl
  | false=>simp only [J2,O7,K3];rfl
theorem D7U{a b:List Int}(ha:Byt a)(hb:Byt b):((strOf a).toList == (strOf b).toList)=decide (a=b):=by
  by_cases h:a=b
  · subst h;simp
  · rw [A8 h]
    cases hq:((strOf a).toList == (strOf b).toList) with
    | false=>rfl
    | true=>exact absurd (D7A ha hb (by simpa using hq)) h
def B0D(a:List Int):X0×Bool×Unit:=if D2A a=true then (strOf (unH a),true,()) else (⟨#[]⟩,false,())
theorem D2D(a:List Int)(ha:Byt a)(hl:a.length<=500000000):B64 a=some (B0D a):=by
  have hz:(strOf (unH a)).size<=1000000000000:=by rw [B2V];have:=D61 a;omega
  have hu:=D61 a;simp only [B64,C0O,D0B,D2C a ha (by omega),bO];rw [D7I _ [] (by simp) (by rw [B2V];omega)];simp only [bO,G5,B46,B45];rw [D7U (C6g _).1 ha];have h:=(E3J a ha).1;unfold B0D;by_cases hq:D2A a=true
  · rw [A6 hq,A0 (h.2 hq)];rfl
  · rw [A5 hq,A8 (fun e=>hq (h.1 e))];rfl
set_option maxRecDepth 100000
def byN(b:List Int)(p:Nat):Nat:=(b.getD p 0).toNat
def gpN(b:List Int)(p n i:Nat):Nat:=n+byN b p % 128*2 ^ (7*i)
def gpL(b:List Int):Nat->Nat->Nat->Nat->Int×Int×Bool×Unit
  | 0,_,_,_=>(0,0,false,())
  | k+1,p,n,i=>if p<b.length then (if byN b p<128 then (if gpN b p n i>16777216 then (0,0,false,()) else ((gpN b p n i:Int),((p+1:Nat):Int),true,())) else gpL b k (p+1) (gpN b p n i) (i+1)) else (0,0,false,())
def E4(b:List Int)(p m:Nat):Int×Int×Bool×Unit:=
  if p<b.length then (if byN b p % 2 ^ m<2 ^ m-1 then (((byN b p % 2 ^ m:Nat):Int),((p+1:Nat):Int),true,()) else gpL b 4 (p+1) (byN b p % 2 ^ m) 0) else (0,0,false,())
theorem C0f{b:List Int}(hb:Byt b){p:Nat}(h:p<b.length):rd (.int .u8) b (p:Int)=(byN b p:Int)/\byN b p<256:=by
  have h1:=C6Q hb p;have e:rd (.int .u8) b (p:Int)=b.getD p 0:=by simp [rd,zd]
  refine ⟨e.trans (show b.getD p 0=(((b.getD p 0).toNat:Nat):Int) by omega),?_⟩;unfold byN;omega
theorem D62(b:List Int):∀ k p n i,(gpL b k p n i).2.2.1=true->0<=(gpL b k p n i).1/\(gpL b k p n i).1<=16777216/\(p:Int)<(gpL b k p n i).2.1/\(gpL b k p n i).2.1<=b.length
  | 0,_,_,_,h=>by cases h
  | k+1,p,n,i,h=>by
    unfold gpL at h ⊢;by_cases h1:p<b.length
    · rw [A6 h1] at h ⊢
      by_cases h2:byN b p<128
      · rw [A6 h2] at h ⊢
        by_cases h3:gpN b p n i>16777216
        · rw [A6 h3] at h;cases h
        · rw [A5 h3]
          simp only [];omega
      · rw [A5 h2] at h ⊢
        have:=D62 b k _ _ _ h;omega
    · rw [A5 h1] at h;cases h
theorem A4m(b:List Int)(p m:Nat)(hm:m<=8)(h:(E4 b p m).2.2.1=true):0<=(E4 b p m).1/\(E4 b p m).1<=16777216/\(p:Int)<(E4 b p m).2.1/\(E4 b p m).2.1<=b.length:=by
  unfold E4 at h ⊢;by_cases h1:p<b.length
  · rw [A6 h1] at h ⊢
    by_cases h2:byN b p % 2 ^ m<2 ^ m-1
    · rw [A6 h2]
      have:2 ^ m<=2 ^ 8:=C6f hm;simp only [];omega
    · rw [A5 h2] at h ⊢
      have:=D62 b _ _ _ _ h;omega
  · rw [A5 h1] at h;cases h
theorem D63{x m:Nat}(hx:x<256)(hm:m<=8):A14 .i64 (x:Int) ((2 ^ m-1:Nat):Int)=((x % 2 ^ m:Nat):Int):=by
  have:2 ^ m<=2 ^ 8:=C6f hm;rw [C1v (by omega) (by omega),A3N]
theorem E3r{x:Nat}(hx:x<256):A14 .i64 (x:Int) 127=((x % 128:Nat):Int):=D63 (m:=7) hx (by omega)
theorem E3M{b:List Int}{p n i:Nat}(hi:i<4)(hn:n<=255+128 ^ i):gpN b p n i<=255+128 ^ (i+1)/\byN b p % 128*2 ^ (7*i)<=268435456:=by
  have e:2 ^ (7*i)=128 ^ i:=by rw [Nat.pow_mul]
  have h1:byN b p % 128<128:=A3q _ (by omega);have h2:byN b p % 128*128 ^ i<=127*128 ^ i:=E8 _ (by omega);have h3:128 ^ (i+1)=128 ^ i*128:=B24 ..;have h4:128 ^ i<=128 ^ 3:=A2m (by omega) (by omega);unfold gpN;rw [e];omega
theorem E2b{b:List Int}(hb:Byt b)(hl:b.length<=500000000):∀ (k p n i:Nat),k+i=4->n<=255+128 ^ i->p<=2000000000->
    (K3 (H6 (A3t b) ((p:Int),(n:Int),(i:Int),())) fun (m3:Unit)=>some (0,0,false,()))=some (gpL b k p n i)
  | 0,p,n,i,hk,hn,hp=>by
    have h:¬ (i:Int)<4:=by omega
    rw [I3];simp only [A3t,A8 h,A7,K3,gpL]
  | k+1,p,n,i,hk,hn,hp=>by
    have h:(i:Int)<4:=by omega
    rw [I3];by_cases h1:p<b.length
    · have d1:(p:Int)<(b.length:Int):=by omega
      have d2:(0:Int)<=(p:Int):=by omega
      obtain ⟨e1,e2⟩:=C0f hb h1;have hg:=E3M (b:=b) (p:=p) (show i<4 by omega) hn;have h5:128 ^ (i+1)<=128 ^ 4:=A2m (by omega) (by omega);have e3:i64.wrap (byN b p:Int)=(byN b p:Int):=w64 (by omega) (by omega);have e4:i64.wrap (7*(i:Int))=((7*i:Nat):Int):=by rw [w64 (by omega) (by omega)];omega
      have e5:=D5u (v:=byN b p % 128) (m:=7*i) (by omega) (by omega);have e6:i64.wrap ((n:Int)+((byN b p % 128*2 ^ (7*i):Nat):Int))=(gpN b p n i:Int):=by
        have e0:(n:Int)+((byN b p % 128*2 ^ (7*i):Nat):Int)=((gpN b p n i:Nat):Int):=by unfold gpN;omega
        rw [e0];exact D3p (by omega)
      have e7:i64.wrap ((p:Int)+1)=((p+1:Nat):Int):=by rw [w64 (by omega) (by omega)];omega
      have e8:i64.wrap ((i:Int)+1)=((i+1:Nat):Int):=by rw [w64 (by omega) (by omega)];omega
      simp only [A3t,A0 h,A0 d1,A0 d2,B2,bSl,A8 (u64_nonneg _),A7,e1,e3,E3r e2,e4,e5,e6,e7,e8,gpL,A6 h1];by_cases h2:byN b p<128
      · rw [A0 (show (byN b p:Int)<128 by omega),A6 h2]
        by_cases h3:gpN b p n i>16777216
        · rw [A0 (show (gpN b p n i:Int)>16777216 by omega),A6 h3];rfl
        · rw [A8 (show ¬ (gpN b p n i:Int)>16777216 by omega),A5 h3];rfl
      · rw [A8 (show ¬ (byN b p:Int)<128 by omega),A5 h2]
        exact E2b hb hl k (p+1) _ (i+1) (by omega) hg.1 (by omega)
    · have d1:¬ (p:Int)<(b.length:Int):=by omega
      simp only [A3t,A0 h,A8 d1,B2,A7,K3,gpL,A5 h1]
theorem B8O{b:List Int}(hb:Byt b)(hl:b.length<=500000000)(p m:Nat)(hp:p<=1000000000)(hm:1<=m/\m<=8):A6E b (p:Int) (m:Int)=some (E4 b p m):=by
  have d1:decide ((1:Int)<=(m:Int)/\(m:Int)<=8)=true:=A0 (by omega);have e1:i64.wrap ((b.length:Int)-1)=(b.length:Int)-1:=w64 (by omega) (by omega);simp only [A6E,B44,V1,bO,d1,E0,A7,e1];unfold E4;by_cases h1:p<b.length
  · have d2:decide ((0:Int)<=(p:Int)/\(p:Int)<=(b.length:Int)-1)=true:=A0 (by omega)
    have d3:(p:Int)<(b.length:Int):=by omega
    obtain ⟨q1,q2⟩:=C0f hb h1;have e2:=D0K (m:=m) (by omega);have e3:i64.wrap (byN b p:Int)=(byN b p:Int):=w64 (by omega) (by omega);have e7:i64.wrap ((p:Int)+1)=((p+1:Nat):Int):=by rw [w64 (by omega) (by omega)];omega
    have h8:byN b p % 2 ^ m<=255:=by have:=Nat.mod_le (byN b p) (2 ^ m);omega
    simp only [d2,E0,A7,bSl,A8 (u64_nonneg _),A0 (show (0:Int)<=(p:Int) by omega),A0 d3,B2,q1,e2,e3,e7,D63 q2 hm.2,A6 h1];by_cases h2:byN b p % 2 ^ m<2 ^ m-1
    · rw [A0 (show ((byN b p % 2 ^ m:Nat):Int)<((2 ^ m-1:Nat):Int) by omega),A6 h2];rfl
    · rw [A8 (show ¬ ((byN b p % 2 ^ m:Nat):Int)<((2 ^ m-1:Nat):Int) by omega),A5 h2]
      exact E2b hb hl 4 (p+1) _ 0 (by omega) (by omega) (by omega)
  · have d2:decide ((0:Int)<=(p:Int)/\(p:Int)<=(b.length:Int)-1)=false:=A8 (by omega)
    simp only [d2,M1,B2,bSr,A5 h1]
def B3b(b:List Int)(p n:Nat):List Int:=(b.take (p+n)).drop p
def T4(b:List Int)(p:Nat):X0×Int×Bool×Unit:=
  if (E4 b p 7).2.2.1=false then (⟨#[]⟩,0,false,()) else if (E4 b p 7).1>4000 then (⟨#[]⟩,0,false,()) else if (E4 b p 7).1>(b.length:Int)-(E4 b p 7).2.1 then (⟨#[]⟩,0,false,())
  else if byN b p<128 then (strOf (B3b b (E4 b p 7).2.1.toNat (E4 b p 7).1.toNat),(E4 b p 7).2.1+(E4 b p 7).1,true,())
  else if (B0D (B3b b (E4 b p 7).2.1.toNat (E4 b p 7).1.toNat)).2.1=false then (⟨#[]⟩,0,false,())
  else if (((B0D (B3b b (E4 b p 7).2.1.toNat (E4 b p 7).1.toNat)).1.size:Int)>4000) then (⟨#[]⟩,0,false,())
  else ((B0D (B3b b (E4 b p 7).2.1.toNat (E4 b p 7).1.toNat)).1,(E4 b p 7).2.1+(E4 b p 7).1,true,())
theorem D7V{b:List Int}(hb:Byt b)(p n:Nat):Byt (B3b b p n):=B2W (B8K hb _) _
theorem D7W(b:List Int)(p n:Nat):(B3b b p n).length<=b.length:=by simp [B3b];omega
theorem B2A{b:List Int}(p:Nat)(h:(T4 b p).2.2.1=true):(T4 b p).1.size<=4000/\(p:Int)<(T4 b p).2.1/\(T4 b p).2.1<=b.length:=by
  unfold T4 at h ⊢;by_cases h1:(E4 b p 7).2.2.1=false
  · rw [A6 h1] at h;cases h
  have hr:=A4m b p 7 (by omega) (by simpa using h1);rw [A5 h1] at h ⊢;by_cases h2:(E4 b p 7).1>4000
  · rw [A6 h2] at h;cases h
  rw [A5 h2] at h ⊢;by_cases h3:(E4 b p 7).1>(b.length:Int)-(E4 b p 7).2.1
  · rw [A6 h3] at h;cases h
  rw [A5 h3] at h ⊢;by_cases h4:byN b p<128
  · rw [A6 h4]
    refine ⟨?_,by simp only;omega,by simp only;omega⟩;rw [B2V];simp only [B3b,D5,B4];omega
  rw [A5 h4] at h ⊢;by_cases h5:(B0D (B3b b (E4 b p 7).2.1.toNat (E4 b p 7).1.toNat)).2.1=false
  · rw [A6 h5] at h;cases h
  rw [A5 h5] at h ⊢;by_cases h6:(((B0D (B3b b (E4 b p 7).2.1.toNat (E4 b p 7).1.toNat)).1.size:Int)>4000)
  · rw [A6 h6] at h;cases h
  rw [A5 h6];refine ⟨by simp only;omega,by simp only;omega,by simp only;omega⟩
theorem B8P{b:List Int}(hb:Byt b)(hl:b.length<=500000000)(p:Nat)(hp:p<=1000000000):A9u b (p:Int)=some (T4 b p):=by
  have e0:=B8O hb hl p 7 hp (by omega);rw [show ((7:Nat):Int)=7 from rfl] at e0;simp only [A9u,B47,e0,bO];unfold T4;by_cases h1:(E4 b p 7).2.2.1=false
  · rw [A6 h1,h1];rfl
  have h1':(E4 b p 7).2.2.1=true:=by simpa using h1
  obtain ⟨r1,r2,r3,r4⟩:=A4m b p 7 (by omega) h1';rw [A5 h1,h1',w64 (n:=(b.length:Int)-(E4 b p 7).2.1) (by omega) (by omega),w64 (n:=(E4 b p 7).2.1+(E4 b p 7).1) (by omega) (by omega)];simp only [E0,A7];by_cases h2:(E4 b p 7).1>4000
  · rw [A6 h2,A0 h2];rfl
  rw [A5 h2,A8 h2];by_cases h3:(E4 b p 7).1>(b.length:Int)-(E4 b p 7).2.1
  · rw [A6 h3,A0 h3];rfl
  obtain ⟨q1,q2⟩:=C0f hb (show p<b.length by omega);have e3:((E4 b p 7).2.1+(E4 b p 7).1).toNat=(E4 b p 7).2.1.toNat+(E4 b p 7).1.toNat:=by omega
  rw [A5 h3,A8 h3];simp only [A7,bSl];rw [A0 (show (0:Int)<=(E4 b p 7).2.1 by omega),A0 (show (E4 b p 7).2.1<=(E4 b p 7).2.1+(E4 b p 7).1 by omega),A0 (show (E4 b p 7).2.1+(E4 b p 7).1<=(b.length:Int) by omega),A0 (show (0:Int)<=(p:Int) by omega),A0 (show (p:Int)<(b.length:Int) by omega),q1,e3];simp only [B2];rw [show ((b.take ((E4 b p 7).2.1.toNat+(E4 b p 7).1.toNat)).drop (E4 b p 7).2.1.toNat)=B3b b (E4 b p 7).2.1.toNat (E4 b p 7).1.toNat from rfl,D2D _ (D7V hb _ _) (A5u (D7W _ _ _) hl)];simp only [bO];by_cases h4:byN b p<128
  · rw [A6 h4,A0 (show (byN b p:Int)<128 by omega)];rfl
  rw [A5 h4,A8 (show ¬ (byN b p:Int)<128 by omega)];simp only [A7];by_cases h5:(B0D (B3b b (E4 b p 7).2.1.toNat (E4 b p 7).1.toNat)).2.1=false
  · rw [A6 h5,h5];rfl
  rw [A5 h5,show (B0D (B3b b (E4 b p 7).2.1.toNat (E4 b p 7).1.toNat)).2.1=true by simpa using h5];by_cases h6:(((B0D (B3b b (E4 b p 7).2.1.toNat (E4 b p 7).1.toNat)).1.size:Int)>4000)
  · rw [A6 h6,A0 h6];rfl
  · rw [A5 h6,A8 h6];rfl
set_option maxRecDepth 100000
abbrev noF:C2:=(⟨#[]⟩,⟨#[]⟩)
noncomputable def A2f(t:E3)(i:Int):C2×Bool×Unit:=
  if i<=61 then (if 1<=i then (rd D9 firstT (i-1),true,()) else (noF,false,())) else if i-61>(t.2.length:Int) then (noF,false,()) else (rd D9 t.2 (i-62),true,())
theorem D64:∀ {fs:List C2} {f:C2},f∈fs->ofF f<=szT fs
  | [],_,h=>by cases h
  | x::fs,f,h=>by
    have h2:=A3i fs;have h3:=B6W x;simp only [szT];rcases B9.1 h with rfl | h
    · omega
    · have:=D64 h;omega
theorem E0K(xs:List C2)(i:Int):rd D9 xs i∈xs\/rd D9 xs i=noF:=by
  unfold rd;rw [C9];by_cases h:i.toNat<xs.length
  · rw [C3 h];exact .inl (G3 h)
  · rw [A8f (by omega)];exact .inr rfl
theorem D2E{t:E3}(ht:A1V t)(i:Int):(A2f t i).1.1.size<=10000/\(A2f t i).1.2.size<=10000:=by
  unfold A2f;have h0:noF.1.size<=10000/\noF.2.size<=10000:=⟨by decide,by decide⟩;split
  · split
    · rcases E0K firstT (i-1) with h | h
      · have:=D4 (C4.1 D7K _ h)
        simp only;omega
      · simp only [h];exact h0
    · exact h0
  · split
    · exact h0
    · rcases E0K t.2 (i-62) with h | h
      · have h1:=D64 h
        obtain ⟨_,h2,h3⟩:=ht;unfold ofF at h1;simp only;omega
      · simp only [h];exact h0
theorem D0M(t:E3)(i:Int)(hi:0<=i/\i<=100000000)(ht:t.2.length<=1000000):B3I t i=some (A2f t i):=by
  simp only [B3I,B8A,B2L,B2K,V1,C30,bO];unfold A2f;by_cases h1:i<=61
  · rw [A0 h1,A6 h1]
    by_cases h2:1<=i
    · rw [A0 ⟨h2,h1⟩,A6 h2,w64 (n:=i-1) (by omega) (by omega),A0 (show 0<=i-1 by omega),A0 (show i-1<(firstT.length:Int) by rw [B6V];omega)]
      rfl
    · rw [A8 (show ¬ (1<=i/\i<=61) by omega),A5 h2]
      rfl
  · rw [A8 h1,A5 h1,w64 (n:=i-61) (by omega) (by omega),w64 (n:=i-61-1) (by omega) (by omega)]
    by_cases h2:i-61>(t.2.length:Int)
    · rw [A0 h2,A6 h2];rfl
    · rw [A8 h2,A5 h2,A0 (show 0<=i-61-1 by omega),A0 (show i-61-1<(t.2.length:Int) by omega),show i-61-1=i-62 by omega]
      rfl
noncomputable def D7a(t:E3)(f:C2):E3:=match A1s t f with
  | some x=>x.1
  | none=>t
noncomputable def D7b(t:E3)(n:Int):E3:=match A15 (n,t.2) with
  | some x=>x.1
  | none=>t
theorem D65{t:E3}(ht:A1V t){f:C2}(h1:f.1.size<=10000)(h2:f.2.size<=10000):A1s t f=some (D7a t f,())/\A1V (D7a t f):=by
  obtain ⟨q0,q1,q2⟩:=ht;obtain ⟨T,e,hT⟩:=E3m t f q0 (by omega) (by unfold ofF;omega);have hv:D7a t f=(t.1,T):=by unfold D7a;rw [e]
  rw [hv];exact ⟨e,q0,q1,hT⟩
theorem D66{t:E3}(ht:A1V t){n:Int}(h1:0<=n)(h2:n<=4096):A15 (n,t.2)=some (D7b t n,())/\A1V (D7b t n):=by
  obtain ⟨q0,q1,q2⟩:=ht;obtain ⟨k,_,_,e,hT⟩:=E08 n t.2 h1 (by omega) (by omega);have hv:D7b t n=(n,t.2.take k):=by unfold D7b;rw [e]
  rw [hv];exact ⟨e,h1,h2,hT⟩
theorem D67{t:E3}(h:A1V t):A7L t=some (true,()):=by
  obtain ⟨h0,h1,h2⟩:=h;obtain ⟨m,fs⟩:=t;simp only at h0 h1 h2;have e:B5q (m,fs)=some (szT fs,()):=by
    have hl:=A3i fs;have:=R5 (B1U A8o (m,fs)) (fun k=>(szT (fs.take k),(k:Int),())) fs.length (szT fs,()) (fun k hk=>by
      have h3:(k:Int)<(fs.length:Int):=by omega
      have h4:(0:Int)<=(k:Int):=by omega
      have h5:=C6b fs hk;have h6:=C6a fs (k+1);have h7:=B6W fs[k];have h8:=A3i (fs.take k);have e1:rd D9 fs (k:Int)=fs[k]:=A81 (k:=D9) hk;simp only [B1U,A0 h3,A0 h4,B2,e1];rw [C4E _ (by omega)];simp only [B0];rw [w64 (n:=szT (fs.take k)+ofF fs[k]) (by omega) (by omega),w64 (n:=(k:Int)+1) (by omega) (by omega),h5];rfl) (by
      have h3:¬ ((fs.length:Nat):Int)<(fs.length:Int):=by omega
      simp only [B1U,A8 h3,A7];rw [F6 (by omega)])
    simp only [B5q,C0J];rw [show ((0:Int),(0:Int),())=(fun k:Nat=>(szT (fs.take k),(k:Int),())) 0 by simp [szT]];rw [this]
    try rfl
  simp only [A7L,B89,V1,B0,e];rw [A0 ⟨h0,h1⟩,A0 h2];rfl
noncomputable def A79(t:E3)(b:List Int)(p m:Nat):Int×C2×Nat:=
  if (E4 b p m).2.2.1=false then (1,noF,0)
  else if (E4 b p m).1=0 then
    (if (T4 b (E4 b p m).2.1.toNat).2.2.1=false then (1,noF,0)
     else if (T4 b (T4 b (E4 b p m).2.1.toNat).2.1.toNat).2.2.1=false then (1,noF,0)
     else (0,((T4 b (E4 b p m).2.1.toNat).1,(T4 b (T4 b (E4 b p m).2.1.toNat).2.1.toNat).1),(T4 b (T4 b (E4 b p m).2.1.toNat).2.1.toNat).2.1.toNat))
  else if (A2f t (E4 b p m).1).2.1=false then (2,noF,0)
  else if (T4 b (E4 b p m).2.1.toNat).2.2.1=false then (1,noF,0)
  else (0,((A2f t (E4 b p m).1).1.1,(T4 b (E4 b p m).2.1.toNat).1),(T4 b (E4 b p m).2.1.toNat).2.1.toNat)
theorem D0N{t:E3}(ht:A1V t){b:List Int}{p m:Nat}(hm:m<=8)(h:(A79 t b p m).1=0):(A79 t b p m).2.1.1.size<=10000/\(A79 t b p m).2.1.2.size<=10000/\p<(A79 t b p m).2.2/\(A79 t b p m).2.2<=b.length:=by
  unfold A79 at h ⊢;by_cases h1:(E4 b p m).2.2.1=false
  · rw [A6 h1] at h;cases h
  have r1:=A4m b p m hm (by simpa using h1);rw [A5 h1] at h ⊢;by_cases h2:(E4 b p m).1=0
  · rw [A6 h2] at h ⊢
    by_cases h3:(T4 b (E4 b p m).2.1.toNat).2.2.1=false
    · rw [A6 h3] at h;cases h
    rw [A5 h3] at h ⊢;have r2:=B2A (E4 b p m).2.1.toNat (by simpa using h3);by_cases h4:(T4 b (T4 b (E4 b p m).2.1.toNat).2.1.toNat).2.2.1=false
    · rw [A6 h4] at h;cases h
    rw [A5 h4];have r3:=B2A (T4 b (E4 b p m).2.1.toNat).2.1.toNat (by simpa using h4);simp only;omega
  · rw [A5 h2] at h ⊢
    by_cases h5:(A2f t (E4 b p m).1).2.1=false
    · rw [A6 h5] at h;cases h
    rw [A5 h5] at h ⊢;by_cases h3:(T4 b (E4 b p m).2.1.toNat).2.2.1=false
    · rw [A6 h3] at h;cases h
    rw [A5 h3];have r2:=B2A (E4 b p m).2.1.toNat (by simpa using h3);have r4:=D2E ht (E4 b p m).1;simp only;omega
section
variable {b:List Int} (hb:Byt b) (hl:b.length<=500000000)
include hb hl
end
end Go.Proofs.YthnfghmjipikhaaGreatDoor.Ev
