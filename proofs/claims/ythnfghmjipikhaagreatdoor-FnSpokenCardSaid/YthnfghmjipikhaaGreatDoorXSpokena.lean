/- What the plain functions of the program and of the reference answer: laws of plain data. -/
import Derived.Test.YthnfghmjipikhaaGreatDoorPu
import Derived.Laws.Strings
import Derived.Lib.Split
import Derived.Lib.Atoi
import Derived.Lib.ItoaNum
set_option linter.unusedVariables false
set_option linter.unusedSimpArgs false
set_option linter.unusedSectionVars false
namespace Go.Proofs.YthnfghmjipikhaaGreatDoor.Ev
theorem w64{n:Int}(h0:-9223372036854775808<=n)(h1:n<9223372036854775808):IntKind.i64.wrap n=n:=by
  simp only [IntKind.wrap,IntKind.bits,IntKind.signed,Bool.true_and];simp;split<;>omega
theorem B0h{α β:Type}(f:α->Option (α⊕β))(μ:α->Nat)(I:α->Prop)(Q:β->Prop)
    (h:∀ x,I x->(∃ y,f x=some (.inl y)/\I y/\μ y<μ x)\/∃ z,f x=some (.inr z)/\Q z):∀ x,I x->∃ z,B9 f x=some z/\Q z:=by
  intro x;generalize hn:μ x=n
  induction n using Nat.strongRecOn generalizing x with
  | ind n ih=>
    intro hx;rw [C1];rcases h x hx with ⟨y,e,hy,hl⟩ | ⟨z,e,hz⟩
    · rw [e];exact ih (μ y) (by omega) y rfl hy
    · rw [e];exact ⟨z,rfl,hz⟩
theorem D9H{α β:Type}(f:α->Option (α⊕β))(μ:α->Nat)(I:α->Prop)(z:β)
    (h:∀ x,I x->(∃ y,f x=some (.inl y)/\I y/\μ y<μ x)\/f x=some (.inr z)) (x:α) (hx:I x):B9 f x=some z:=by
  obtain ⟨z',h1,rfl⟩:=B0h f μ I (·=z) (fun x hx=>(h x hx).imp id fun h=>⟨_,h,rfl⟩) x hx;exact h1
theorem F4{α β:Type}(f:α->Option (α⊕β))(s:Nat->α)(n:Nat)(z:β)(h:∀ i,i<n->f (s i)=some (.inl (s (i+1))))(he:f (s n)=some (.inr z)):B9 f (s 0)=some z:=by
  have key:∀ k i,i+k=n->B9 f (s i)=some z:=by
    intro k
    induction k with
    | zero=>intro i hi;rw [C1,show i=n by omega,he]
    | succ k ih=>intro i hi;rw [C1,h i (by omega)];exact ih (i+1) (by omega)
  exact key n 0 (by omega)
theorem A5m{α β:Type}(f:α->Option (α⊕β))(s:Nat->α)(n:Nat)(z:Nat->β)(go:Nat->Bool)(h:∀ i,i<n->f (s i)=if go i then some (.inl (s (i+1))) else some (.inr (z i)))(he:f (s n)=some (.inr (z n))) :
    ∃ i,i<=n/\(∀ j,j<i->go j=true)/\(i<n->go i=false)/\B9 f (s 0)=some (z i):=by
  have key:∀ k i,i+k=n->(∀ j,j<i->go j=true)->∃ i',i'<=n/\(∀ j,j<i'->go j=true)/\(i'<n->go i' = false)/\B9 f (s i)=some (z i'):=by
    intro k
    induction k with
    | zero=>
      intro i hi hg;obtain rfl:i=n:=by omega
      exact ⟨i,Nat.le_refl _,hg,fun h=>absurd h (by omega),by rw [C1,he]⟩
    | succ k ih=>
      intro i hi hg;cases hgo:go i with
      | true=>
        obtain ⟨i',h1,h2,h3,h4⟩:=ih (i+1) (by omega) (fun j hj=>by
          by_cases h:j<i
          · exact hg j h
          · rw [show j=i by omega];exact hgo)
        refine ⟨i',h1,h2,h3,?_⟩;rw [C1,h i (by omega),if_pos hgo];exact h4
      | false=>
        refine ⟨i,by omega,hg,fun _=>hgo,?_⟩;rw [C1,h i (by omega),hgo];rfl
  exact key n 0 (by omega) (fun j hj=>by omega)
theorem C9L(s:X0)(i:Int):0<=bt s i:=by unfold bt;omega
theorem B6D(s:X0)(i:Int):bt s i<256:=by
  have:=(s.data.toList.getD i.toNat 0).toNat_lt;unfold bt;omega
theorem E5d(s:X0)(i:Int):IntKind.i64.wrap (bt s i)=bt s i:=w64 (by have:=C9L s i;omega) (by have:=B6D s i;omega)
theorem A49{k:K}{xs:List k.T}{i:Nat}(h:i<xs.length):rd k xs (i:Int)=xs[i]:=by
  unfold rd;rw [Int.toNat_natCast];simp [List.getD,h]
theorem D0R{U:IntKind}{xs:List Int}{i:Nat}(h:i<xs.length):rd (.int U) xs (i:Int)=xs[i]:=A49 (k:=.int U) h
theorem E5e{xs:List X0}{i:Nat}(h:i<xs.length):rd .str xs (i:Int)=xs[i]:=A49 (k:=.str) h
def Byt(a:List Int):Prop:=∀ x∈a,0<=x/\x<256
theorem pe{α β:Type}(p:α×β):(p.1,p.2)=p:=rfl
theorem A0{p:Prop} [Decidable p] (h:p):decide p=true:=decide_eq_true h
theorem A3{p:Prop} [Decidable p] (h:¬ p):decide p=false:=decide_eq_false h
def L6(go:Nat->Bool):Nat->Nat->Nat
  | i,0=>i
  | i,k+1=>if go i then L6 go (i+1) k else i
theorem C9M(go:Nat->Bool):∀ k i,L6 go i k<=i+k
  | 0,i=>Nat.le_refl _
  | k+1,i=>by
    simp only [L6];split
    · have:=C9M go k (i+1);omega
    · omega
theorem B8o(go:Nat->Bool):∀ k i,L6 go i k<i+k->go (L6 go i k)=false
  | 0,i,h=>by simp [L6] at h
  | k+1,i,h=>by
    simp only [L6] at h ⊢;split
    · rename_i hg
      rw [if_pos hg] at h;exact B8o go k (i+1) (by omega)
    · rename_i hg
      simpa using hg
theorem A9C{α β:Type}(f:α->Option (α⊕β))(s:Nat->α)(n:Nat)(z:Nat->β)(go:Nat->Bool)(h:∀ i,i<n->f (s i)=if go i then some (.inl (s (i+1))) else some (.inr (z i)))(he:f (s n)=some (.inr (z n))) :
    B9 f (s 0)=some (z (L6 go 0 n)):=by
  have key:∀ k i,i+k=n->B9 f (s i)=some (z (L6 go i k)):=by
    intro k
    induction k with
    | zero=>
      intro i hi;obtain rfl:i=n:=by omega
      rw [C1,he];rfl
    | succ k ih=>
      intro i hi;rw [C1,h i (by omega)];simp only [L6];cases go i with
      | true=>simp only [if_true];exact ih (i+1) (by omega)
      | false=>rfl
  exact key n 0 (by omega)
theorem E4v(L:Int×Unit->Option ((Int×Unit)⊕(Bool×Unit)))(n:Nat)(hn:n<=maxLen)(go:Nat->Bool)(hs:∀ i:Nat,i<n->L ((i:Int),())=bif go i then some (.inl (IntKind.i64.wrap ((i:Int)+1),())) else some (.inr (false,())))
    (he:L ((n:Int),())=some (.inr (true,()))):B9 L (0,())=some ((List.range n).all go,()):=by
  have h:=A9C L (fun i=>((i:Int),())) n (fun i=>(decide (i=n),())) go (fun i hi=>by
    rw [hs i hi,w64 (by omega) (by simp only [maxLen] at hn;omega)];cases go i with
    | true=>rfl
    | false=>simp only [Bool.false_eq_true,if_false,cond_false];rw [A3 (by omega)]) (by rw [he];simp)
  have h':B9 L (0,())=some (decide (L6 go 0 n=n),()):=h;rw [h'];have key:∀ k i,decide (L6 go i k=i+k)=((List.range k).all fun j=>go (i+j)):=by
    intro k
    induction k with
    | zero=>intro i;simp [L6]
    | succ k ih=>
      intro i;have e:((List.range (k+1)).all fun j=>go (i+j))=(go i&&(List.range k).all fun j=>go (i+1+j)):=by
        rw [List.range_succ_eq_map,List.all_cons,List.all_map];simp only [Nat.add_zero]
        congr 2
        funext j
        simp only [Function.comp]
        congr 1
        omega
      rw [e,<- ih (i+1)];by_cases hg:go i=true
      · have e1:L6 go i (k+1)=L6 go (i+1) k:=by simp only [L6];rw [if_pos hg]
        rw [Bool.eq_iff_iff,hg];simp only [decide_eq_true_eq,Bool.true_and,e1];omega
      · have e1:L6 go i (k+1)=i:=by simp only [L6];rw [if_neg hg]
        rw [Bool.eq_iff_iff];simp only [decide_eq_true_eq,Bool.and_eq_true,e1];constructor
        · intro h;omega
        · intro h;exact absurd h.1 hg
  have k0:=key n 0;simp only [Nat.zero_add] at k0;rw [k0]
abbrev E21:=X0×List Int×Int×Int
theorem A1f(a b c:Int):I7 a b c=some (decide (b<=a/\a<=c),()):=by
  simp only [I7,C5E];by_cases h:b<=a<;>by_cases h2:a<=c<;>simp [h,h2]
theorem H1(a b c:Int):C4 a b c=some (decide (b<=a/\a<=c),()):=A1f a b c
def D0S(s:X0)(i:Nat):Bool:=decide (97<=bt s i/\bt s i<=122)||decide (48<=bt s i/\bt s i<=57)
def idB(s:X0):Bool:=(List.range s.size).all (D0S s)&&decide (1<=(s.size:Int)/\(s.size:Int)<=8)
theorem D5O(s:X0)(h:s.size<=maxLen)(i:Nat)(hi:i<s.size):A94 I7 s ((i:Int),())=if D0S s i then some (.inl (((i+1:Nat):Int),())) else some (.inr (.inr (false,()))):=by
  have h1:((i:Int)<(s.size:Int)):=by omega
  have h2:(0:Int)<=(i:Int):=by omega
  simp only [A94,A0 h1,A0 h2,cond_true,E5d,A1f,A4];rw [w64 (by omega) (by simp only [maxLen] at h;omega)];unfold D0S;cases decide (97<=bt s i/\bt s i<=122)<;>cases decide (48<=bt s i/\bt s i<=57)<;>simp
theorem D9I(s:X0)(h:s.size<=maxLen)(i:Nat)(hi:i<s.size):B2N s ((i:Int),())=if D0S s i then some (.inl (((i+1:Nat):Int),())) else some (.inr (.inr (false,()))):=by
  have h1:((i:Int)<(s.size:Int)):=by omega
  have h2:(0:Int)<=(i:Int):=by omega
  simp only [B2N,A0 h1,A0 h2,cond_true];rw [w64 (by omega) (by simp only [maxLen] at h;omega)];unfold D0S;by_cases a:bt s i>=97<;>by_cases b:bt s i<=122<;>by_cases c:bt s i>=48<;>by_cases d:bt s i<=57<;>simp [a,b,c,d]
theorem E4w{s:X0}{f:Int×Unit->Option ((Int×Unit)⊕(Unit⊕(Bool×Unit)))}(hs:∀ i:Nat,i<s.size->f ((i:Int),())=if D0S s i then some (.inl (((i+1:Nat):Int),())) else some (.inr (.inr (false,()))))
    (he:f ((s.size:Int),())=some (.inr (.inl ()))) (g:Unit->Option (Bool×Unit)) (hg:g ()=some (decide (1<=(s.size:Int)/\(s.size:Int)<=8),())):D4 (B9 f (0,())) g=some (idB s,()):=by
  obtain ⟨i,h1,h2,h3,h4⟩:=A5m f (fun i=>((i:Int),())) s.size (fun i=>if i<s.size then .inr (false,()) else .inl ()) (D0S s) (fun i hi=>by
    simp only [if_pos hi];exact hs i hi) (by simp only [Nat.lt_irrefl,if_false];exact he)
  have h4':B9 f (0,())=some (if i<s.size then .inr (false,()) else .inl ()):=h4;rw [h4'];unfold idB;by_cases hi:i<s.size
  · rw [if_pos hi]
    have:(List.range s.size).all (D0S s)=false:=by
      rw [List.all_eq_false];exact ⟨i,List.mem_range.2 hi,by simp [h3 hi]⟩
    simp [D4,this]
  · rw [if_neg hi]
    have:(List.range s.size).all (D0S s)=true:=by
      rw [List.all_eq_true];intro j hj;exact h2 j (by have:=List.mem_range.1 hj;omega)
    simp only [D4,this,hg,Bool.true_and]
theorem E22(s:X0)(h:s.size<=maxLen):B0U s=some (idB s,()):=by
  simp only [B0U,C0L];exact E4w (D5O s h) (by simp [A94]) _ (by simp only [A1f,A4])
theorem D7m(s:X0)(h:s.size<=maxLen):B0R s=some (idB s,()):=by
  simp only [B0R,C5C];exact E4w (D9I s h) (by simp [B2N]) _ (by simp only [H1,A4])
theorem E23{R:Type}(a:Option R):eqO a a=a:=by
  unfold eqO;rw [if_pos rfl]
theorem C7d(a:List Int)(h:a.length<=140737488355328):B2 a=some (a,()):=by
  simp only [B2,Q0];have e:(bif decide (([]:List Int).length+a.length<=9223372036854775807) then bif decide ((([]:List Int).length+a.length)*1<=140737488355328) then some (([]++a),()) else none else none)=some (a,()):=by
    rw [A0 (by simp;omega),A0 (by simp;omega)];simp
  rw [e];cases a with
  | nil=>simp [E23]
  | cons x xs=>simp
def E24(n:Int)(k j:Nat):Int:=IntKind.u8.wrap (n.fdiv (2 ^ (8*(k-1-j))))
def big(n:Int)(k:Nat):List Int:=(List.range k).map (E24 n k)
theorem A6C(n:Int)(k:Nat):(big n k).length=k:=by simp [big]
theorem E7B{n:Int}(h0:0<=n)(h1:n<18446744073709551616):IntKind.u64.wrap n=n:=by
  simp only [IntKind.wrap,IntKind.bits,IntKind.signed];simp;omega
theorem D7n(v:Int)(b:List Int)(k:Nat)(hk:k<=8)(hb:b.length+8<=140737488355328):B9 (A0u (v,())) ((k:Int)-1,b,())=some (b++big v k,()):=by
  have key:=F4 (A0u (v,())) (fun j=>((k:Int)-1-(j:Int),b++(List.range j).map (E24 v k),())) k (b++big v k,()) (fun j hj=>?_) ?_
  · simpa using key
  · have h1:(k:Int)-1-(j:Int)>=0:=by omega
    have e1:(k:Int)-1-(j:Int)=((k-1-j:Nat):Int):=by omega
    have hs:IntKind.u64.wrap (IntKind.i64.wrap (8*((k:Int)-1-(j:Int))))=((8*(k-1-j):Nat):Int):=by
      rw [w64 (by omega) (by omega),E7B (by omega) (by omega)];omega
    have hm:min (8*(k-1-j)) IntKind.i64.bits=8*(k-1-j):=Nat.min_eq_left (by simp only [IntKind.bits];omega);simp only [A0u,A0 h1,cond_true,hs,Int.toNat_natCast,hm];rw [A3 (by omega)];simp only [cond_false];have hl:(b++(List.range j).map (E24 v k)).length=b.length+j:=by simp
    rw [A0 (by rw [hl];simp;omega),A0 (by rw [hl];simp;omega)];simp only [cond_true];rw [w64 (by omega) (by omega),List.range_succ,List.map_append,List.append_assoc];have e2:(k:Int)-1-(j:Int)-1=(k:Int)-1-((j+1:Nat):Int):=by omega
    rw [e2];rfl
  · have h1:¬ ((k:Int)-1-(k:Int)>=0):=by omega
    simp only [A0u,A3 h1,cond_false];rfl
def A6b(n:Int):Int:=if n<0 then 0 else n
theorem C2A(b:List Int)(n:Int)(k:Nat)(h1:1<=k)(hk:k<=8)(hb:b.length+8<=140737488355328):A85 b n (k:Int)=some (b++big (A6b n) k,()):=by
  simp only [A85,B7j];rw [A0 (by simp;omega),A0 (by simp;omega)];have e:(bif decide (n<0) then some ((0:Int),()) else some (n,()))=some (A6b n,()):=by
    unfold A6b;by_cases h:n<0<;>simp [h]
  simp only [cond_true,e,A4,A1f];rw [A0 (by omega)];simp only [Bool.not_true,cond_false,List.nil_append];rw [w64 (by omega) (by omega)];exact D7n _ b k hk hb
theorem A9D(b:List Int)(n:Int)(k:Nat)(hk:k<=8)(hb:b.length+8<=140737488355328):A42 b n (k:Int)=some (b++big (A6b n) k,()):=by
  simp only [A42,B7f];have e:B2R n=A0u (A6b n,()):=by
    funext l
    have:(bif decide (0>n) then (0:Int) else n)=A6b n:=by
      unfold A6b;by_cases h:n<0<;>simp [h]
    simp only [B2R,A0u,this]
  rw [e,w64 (by omega) (by omega)];exact D7n _ b k hk hb
abbrev Frame:=Int×Int×Int×List Int
def N1(f:Frame):Bool:=decide (0<=f.1/\f.1<=255)&&decide (0<=f.2.1/\f.2.1<=255)&&decide (0<=f.2.2.1/\f.2.2.1<=2147483647)&&decide ((f.2.2.2.length:Int)<=1000)
theorem D0T(f:Frame):A6W f=some (N1 f,()):=by
  simp only [A6W,B4P,A1f,A4,N1];cases decide (0<=f.1/\f.1<=255)<;>cases decide (0<=f.2.1/\f.2.1<=255)<;>cases decide (0<=f.2.2.1/\f.2.2.1<=2147483647)<;>simp
def A10(f:Frame):List Int:=big (f.2.2.2.length:Int) 3 ++ [IntKind.u8.wrap f.1,IntKind.u8.wrap f.2.1]++big (A6b f.2.2.1) 4++f.2.2.2
theorem A6D(b:List Int)(f:Frame)(h:b.length+f.2.2.2.length+24<=140737488355328):H0 b f=some (b++A10 f,()):=by
  simp only [H0,B2S];rw [show (3:Int)=((3:Nat):Int) from rfl,A9D b _ 3 (by omega) (by omega)];have hc:A6b (f.2.2.2.length:Int)=(f.2.2.2.length:Int):=by unfold A6b;rw [if_neg (by omega)]
  simp only [A4,hc];have hl:=A6C (f.2.2.2.length:Int) 3;rw [A0 (by simp [hl];omega),A0 (by simp [hl];omega)];simp only [cond_true];rw [show (4:Int)=((4:Nat):Int) from rfl,A9D _ _ 4 (by omega) (by simp [hl];omega)];simp only [A4];have hl4:=A6C (A6b f.2.2.1) 4;rw [A0 (by simp [hl,hl4];omega),A0 (by simp [hl,hl4];omega)];simp [A10]
theorem A3S(f:Frame)(h:f.2.2.2.length+24<=140737488355328):G3 f=some (if N1 f then A10 f else [],()):=by
  simp only [G3,B2d,pe,D0T,A4];cases N1 f with
  | false=>rfl
  | true=>
    simp only [Bool.not_true,cond_false];rw [show (3:Int)=((3:Nat):Int) from rfl,C2A [] _ 3 (by omega) (by omega) (by simp)];have hc:A6b (f.2.2.2.length:Int)=(f.2.2.2.length:Int):=by unfold A6b;rw [if_neg (by omega)]
    simp only [hc];have hl:=A6C (f.2.2.2.length:Int) 3;rw [A0 (by simp [hl]),A0 (by simp [hl])];simp only [cond_true];rw [show (4:Int)=((4:Nat):Int) from rfl,C2A _ _ 4 (by omega) (by omega) (by simp [hl])];have hl4:=A6C (A6b f.2.2.1) 4;simp only;rw [A0 (by simp [hl,hl4];omega),A0 (by simp [hl,hl4];omega)];simp [A10]
theorem D5P{n:Nat}(h:n<9223372036854775808):IntKind.i64.wrap (n:Int)=(n:Int):=w64 (by omega) (by omega)
theorem bits_nat{w x:Nat}(h:x<2 ^ w):(BitVec.ofInt w (x:Int)).toNat=x:=by
  rw [BitVec.ofInt_natCast,BitVec.toNat_ofNat];exact Nat.mod_eq_of_lt h
theorem half(c:Nat):((c:Int)).fdiv 2=((c / 2:Nat):Int):=by
  rw [Int.fdiv_eq_ediv_of_nonneg _ (by omega)];omega
theorem B4T{a:List Int}(h:Byt a)(i:Nat):Byt (a.take i):=fun x hx=>h x (List.mem_of_mem_take hx)
def far(c:E21)(off:Int):E21:=if 0<=off/\off<=(c.2.1.length:Int) then (if off=(c.2.1.length:Int) then (c.1,c.2.1,4,off) else (c.1,c.2.1,3,off)) else (c.1,c.2.1,6,c.2.2.2)
theorem E5f{x y:Int}(hx:0<=x/\x<256)(hy:0<=y/\y<256)(h:UInt8.ofNat x.toNat=UInt8.ofNat y.toNat):x=y:=by
  have:=congrArg UInt8.toNat h;simp only [UInt8.toNat_ofNat'] at this;omega
theorem D2O(t:A9)(h:t.2.length<=maxLen):∃ b,A0s t=some (b,()):=by
  obtain ⟨z,e,_⟩:=B0h (A2L A6S t) (fun l=>((t.2.length:Int)-l.2.1).toNat) (fun l=>0<=l.2.1) (fun _=>True) (fun l hl=>by
    simp only [A2L];by_cases hi:l.2.1<(t.2.length:Int)
    · simp only [A0 hi,A0 hl,cond_true,A6S,B8i,A4]
      rw [w64 (n:=l.2.1+1) (by omega) (by simp only [maxLen] at h;omega)];exact .inl ⟨_,rfl,by simp only;omega,by simp only;omega⟩
    · simp only [A3 hi,cond_false]
      exact .inr ⟨_,rfl,trivial⟩) (0,0,()) (by simp)
  exact ⟨z.1,e⟩
theorem D0U(t:A9)(h:t.2.length<=maxLen):∃ b,Q4 t=some (b,()):=by
  obtain ⟨b,hb⟩:=D2O t h;simp only [Q4,A6T,A1f,A4,hb];cases decide (0<=t.1/\t.1<=4096)<;>exact ⟨_,rfl⟩
def C0Q(c:S1)(i:Nat):Bool:=
  decide ((rd F8 c.2.2.2.2.2.1 (i:Int)).1.tmod 2=1)&&decide (1<=(rd F8 c.2.2.2.2.2.1 (i:Int)).1/\(rd F8 c.2.2.2.2.2.1 (i:Int)).1<=c.2.2.2.2.2.2.1) &&
  (decide (i=0)||!decide ((rd F8 c.2.2.2.2.2.1 (i:Int)).1<=(rd F8 c.2.2.2.2.2.1 ((i:Int)-1)).1)) &&
  (decide ((rd F8 c.2.2.2.2.2.1 (i:Int)).2.1=1)||decide ((rd F8 c.2.2.2.2.2.1 (i:Int)).2.1=2))&&!decide ((List.length (rd F8 c.2.2.2.2.2.1 (i:Int)).2.2.2:Int)>2000)
theorem E4K{L:Int×Unit->Option ((Int×Unit)⊕(Unit⊕(Bool×Unit)))}{n:Nat}{go:Nat->Bool}(hs:∀ i:Nat,i<n->L ((i:Int),())=bif go i then some (.inl (((i+1:Nat):Int),())) else some (.inr (.inr (false,()))))
    (he:L ((n:Int),())=some (.inr (.inl ()))) (g:Unit->Option (Bool×Unit)) (b:Bool) (hg:g ()=some (b,())):D4 (B9 L (0,())) g=some (decide (L6 go 0 n=n)&&b,()):=by
  have h:=A9C L (fun i=>((i:Int),())) n (fun i=>if i=n then .inl () else .inr (false,())) go (fun i hi=>by
    rw [hs i hi];cases go i with
    | true=>rfl
    | false=>simp only [Bool.false_eq_true,if_false,cond_false];rw [if_neg (by omega)]) (by rw [he,if_pos rfl])
  have h':B9 L (0,())=_:=h;rw [h'];by_cases hn:L6 go 0 n=n
  · rw [if_pos hn,A0 hn];simp [D4,hg]
  · rw [if_neg hn,A3 hn];simp [D4]
theorem D2P(c:S1)(h:c.2.2.2.2.2.1.length<=maxLen)(i:Nat)(hi:i<c.2.2.2.2.2.1.length):A7H C4 c ((i:Int),())=bif C0Q c i then some (.inl (((i+1:Nat):Int),())) else some (.inr (.inr (false,()))):=by
  have h1:((i:Int)<(c.2.2.2.2.2.1.length:Int)):=by omega
  have h2:(0:Int)<=(i:Int):=by omega
  simp only [maxLen] at h;simp only [A7H,A0 h1,A0 h2,cond_true,H1,A4,C0Q];rw [w64 (n:=(i:Int)+1) (by omega) (by omega),w64 (n:=(i:Int)-1) (by omega) (by omega)];have e1:((i+1:Nat):Int)=(i:Int)+1:=by omega
  rw [e1];by_cases hz:i=0
  · have g1:¬ (i:Int)>0:=by omega
    simp only [A3 g1,A0 hz,cond_false,Bool.true_or,Bool.and_true];generalize decide ((rd F8 c.2.2.2.2.2.1 (i:Int)).1.tmod 2=1)=x1;generalize decide (1<=(rd F8 c.2.2.2.2.2.1 (i:Int)).1/\(rd F8 c.2.2.2.2.2.1 (i:Int)).1<=c.2.2.2.2.2.2.1)=x2;generalize decide ((rd F8 c.2.2.2.2.2.1 (i:Int)).2.1=1)=x4;generalize decide ((rd F8 c.2.2.2.2.2.1 (i:Int)).2.1=2)=x5;generalize decide ((List.length (rd F8 c.2.2.2.2.2.1 (i:Int)).2.2.2:Int)>2000)=x6;cases x1<;>cases x2<;>cases x4<;>cases x5<;>cases x6<;>rfl
  · have g1:(i:Int)>0:=by omega
    have g2:(0:Int)<=(i:Int)-1:=by omega
    have g3:(i:Int)-1<(c.2.2.2.2.2.1.length:Int):=by omega
    simp only [A0 g1,A0 g2,A0 g3,A3 hz,cond_true,Bool.false_or];generalize decide ((rd F8 c.2.2.2.2.2.1 (i:Int)).1.tmod 2=1)=x1;generalize decide (1<=(rd F8 c.2.2.2.2.2.1 (i:Int)).1/\(rd F8 c.2.2.2.2.2.1 (i:Int)).1<=c.2.2.2.2.2.2.1)=x2;generalize decide ((rd F8 c.2.2.2.2.2.1 (i:Int)).1<=(rd F8 c.2.2.2.2.2.1 ((i:Int)-1)).1)=x3;generalize decide ((rd F8 c.2.2.2.2.2.1 (i:Int)).2.1=1)=x4;generalize decide ((rd F8 c.2.2.2.2.2.1 (i:Int)).2.1=2)=x5;generalize decide ((List.length (rd F8 c.2.2.2.2.2.1 (i:Int)).2.2.2:Int)>2000)=x6;cases x1<;>cases x2<;>cases x3<;>cases x4<;>cases x5<;>cases x6<;>rfl
def E25(c:S1):Bool:=decide (L6 (C0Q c) 0 c.2.2.2.2.2.1.length=c.2.2.2.2.2.1.length)&&decide ((c.2.2.2.2.2.1.length:Int)<=100)
theorem D9J(c:S1)(h:c.2.2.2.2.2.1.length<=maxLen):A7q c=some (E25 c,()):=by
  simp only [A7q,B7V];exact E4K (D2P c h) (by simp [A7H]) _ _ rfl
theorem D7o{x y:Nat}(hx:x<9223372036854775808)(hy:y<9223372036854775808):bOr .i64 (x:Int) (y:Int)=((x ||| y:Nat):Int):=by
  have h:x ||| y<2 ^ 63:=Nat.or_lt_two_pow (by omega) (by omega);unfold bOr;rw [BitVec.toNat_or,bits_nat (by simp only [IntKind.bits];omega),bits_nat (by simp only [IntKind.bits];omega)];exact D5P (by omega)
def H8(b:List Int)(at_:Nat):Nat->Nat
  | 0=>0
  | j+1=>(H8 b at_ j*256) ||| (b.getD (at_+j) 0).toNat
theorem C5N{b:List Int}(hb:Byt b)(i:Nat):0<=b.getD i 0/\b.getD i 0<256:=by
  by_cases h:i<b.length
  · simp only [List.getD,List.getElem?_eq_getElem h,Option.getD_some]
    exact hb _ (List.getElem_mem h)
  · simp only [List.getD,List.getElem?_eq_none (show b.length<=i by omega),Option.getD_none]
    omega
theorem C49{b:List Int}(hb:Byt b)(at_:Nat):∀ j,H8 b at_ j<2 ^ (8*j)
  | 0=>by simp [H8]
  | j+1=>by
    have h1:=C49 hb at_ j;have h2:=C5N hb (at_+j);have e:2 ^ (8*(j+1))=2 ^ (8*j)*256:=by rw [show 8*(j+1)=8*j+8 by omega,Nat.pow_add]
    refine Nat.or_lt_two_pow ?_ ?_
    · rw [e];exact Nat.mul_lt_mul_of_pos_right h1 (by omega)
    · have:1<=2 ^ (8*j):=Nat.one_le_two_pow
      rw [e];omega
theorem E26{b:List Int}(hb:Byt b)(at_ j:Nat)(hj:j<7)(x:Int)(hx:x=b.getD (at_+j) 0):bOr .i64 (IntKind.i64.wrap (((H8 b at_ j:Nat):Int)*256)) (IntKind.i64.wrap x)=((H8 b at_ (j+1):Nat):Int):=by
  have h1:=C49 hb at_ j;have h2:=C5N hb (at_+j);have h3:2 ^ (8*j)<=2 ^ 48:=Nat.pow_le_pow_right (by omega) (by omega);subst hx;rw [show ((H8 b at_ j:Nat):Int)*256=((H8 b at_ j*256:Nat):Int) by omega,D5P (by omega),show b.getD (at_+j) 0=(((b.getD (at_+j) 0).toNat:Nat):Int) by omega,D5P (by omega),D7o (by omega) (by omega)];simp only [H8,Int.toNat_natCast]
def A87(b:List Int)(a:Int)(k:Nat):Int×Bool×Unit:=if 0<=a/\a<=(b.length:Int)-k then ((H8 b a.toNat k:Int),true,()) else (0,false,())
theorem B2j(b:List Int)(hb:Byt b)(h:b.length<=2000000000)(a:Int)(k:Nat)(hk:1<=k/\k<=7):A1s b a (k:Int)=some (A87 b a k):=by
  simp only [A1s,B7U,H1,A4,A87];rw [A0 (show (1:Int)<=(k:Int)/\(k:Int)<=7 by omega),w64 (n:=(b.length:Int)-(k:Int)) (by omega) (by omega)];simp only [Bool.not_true,cond_false];by_cases h1:a<0
  · rw [A0 h1,if_neg (by omega)];rfl
  rw [A3 h1];by_cases h2:a>(b.length:Int)-k
  · rw [A0 h2,if_neg (by omega)];rfl
  rw [A3 h2,if_pos (by omega)];simp only [cond_false,D4];rw [w64 (n:=a+(k:Int)) (by omega) (by omega),A0 (show 0<=a by omega),A0 (show a<=a+(k:Int) by omega),A0 (show a+(k:Int)<=(b.length:Int) by omega)];simp only [cond_true];have hlen:((b.take (a+(k:Int)).toNat).drop a.toNat).length=k:=by simp;omega
  have key:=F4 (A4g b a (k:Int)) (fun j=>((H8 b a.toNat j:Int),(j:Int),())) k ((H8 b a.toNat k:Int),()) (fun j hj=>?_) ?_
  · have e:B9 (A4g b a (k:Int)) (0,0,())=_:=key
    rw [e]
  · have g1:(j:Int)<(k:Int):=by omega
    have g2:(0:Int)<=(j:Int):=by omega
    simp only [A4g];rw [w64 (n:=a+(k:Int)) (by omega) (by omega)];simp only [hlen,A0 g1,A0 g2,cond_true];rw [E26 hb a.toNat j (by omega) _ (by
      rw [D0R (by rw [hlen];exact hj)];simp [List.getD,show a.toNat+j<b.length by omega]),show (j:Int)+1=((j+1:Nat):Int) by omega,D5P (by omega)]
  · simp only [A4g]
    rw [w64 (n:=a+(k:Int)) (by omega) (by omega)];simp [hlen]
def A51(b:List Int)(a:Int):B1×Int×Int×Unit:=
  if 0<=a/\a<=(b.length:Int)-9 then
    (if (H8 b a.toNat 3:Int)>1000 then ((0,0,0,[]),a,2,())
      else if (H8 b a.toNat 3:Int)>(b.length:Int)-a-9 then ((0,0,0,[]),a,1,())
      else ((rd (.int .u8) b (a+3),rd (.int .u8) b (a+4),M4 .i64 (H8 b (a+5).toNat 4:Int) 2147483647,(b.take (a+9+(H8 b a.toNat 3:Int)).toNat).drop (a+9).toNat),a+9+(H8 b a.toNat 3:Int),0,()))
  else ((0,0,0,[]),a,1,())
theorem D7p{b:List Int}(hb:Byt b){i:Int}(h0:0<=i)(h1:i<(b.length:Int)):IntKind.i64.wrap (rd (.int .u8) b i)=rd (.int .u8) b i:=by
  obtain ⟨n,rfl⟩:∃ n:Nat,i=(n:Int):=⟨i.toNat,by omega⟩;rw [D0R (by omega)];have:=hb b[n] (List.getElem_mem (by omega));exact w64 (by omega) (by omega)
theorem B4U(b:List Int)(hb:Byt b)(h:b.length<=2000000000)(a:Int)(ha:-9223372036854775808<=a/\a<9223372036854775808):V9 b a=some (A51 b a):=by
  simp only [V9,B2A];rw [w64 (n:=(b.length:Int)-9) (by omega) (by omega)];simp only [A51];by_cases h1:a<0
  · rw [A0 h1,if_neg (by omega)];rfl
  rw [A3 h1];by_cases h2:a>(b.length:Int)-9
  · rw [A0 h2,if_neg (by omega)];rfl
  rw [A3 h2,if_pos (by omega)];have hn:=C49 hb a.toNat 3;simp only [cond_false,D4];rw [show (3:Int)=((3:Nat):Int) from rfl,B2j b hb h a 3 (by omega),show (4:Int)=((4:Nat):Int) from rfl,B2j b hb h _ 4 (by omega)];have e3:A87 b a 3=((H8 b a.toNat 3:Int),true,()):=by unfold A87;rw [if_pos (by omega)]
  have e5:IntKind.i64.wrap (a+5)=a+5:=w64 (by omega) (by omega);have e4:A87 b (a+5) 4=((H8 b (a+5).toNat 4:Int),true,()):=by unfold A87;rw [if_pos (by omega)]
  have w9:IntKind.i64.wrap (a+9)=a+9:=w64 (by omega) (by omega);simp only [A4,e5,e3,e4,w9];by_cases h3:(H8 b a.toNat 3:Int)>1000
  · rw [A0 h3,if_pos h3];rfl
  rw [A3 h3,if_neg h3,w64 (n:=(b.length:Int)-(a+9)) (by omega) (by omega)];by_cases h4:(H8 b a.toNat 3:Int)>(b.length:Int)-a-9
  · rw [A0 (show (H8 b a.toNat 3:Int)>(b.length:Int)-(a+9) by omega),if_pos h4];rfl
  rw [A3 (show ¬ (H8 b a.toNat 3:Int)>(b.length:Int)-(a+9) by omega),if_neg h4];simp only [cond_false];have w3:IntKind.i64.wrap (a+((3:Nat):Int))=a+3:=w64 (by omega) (by omega);have w4:IntKind.i64.wrap (a+((4:Nat):Int))=a+4:=w64 (by omega) (by omega);have wn:IntKind.i64.wrap (a+9+(H8 b a.toNat 3:Int))=a+9+(H8 b a.toNat 3:Int):=w64 (by omega) (by omega);simp only [w3,w4,wn];rw [A0 (show 0<=a+3 by omega),A0 (show a+3<(b.length:Int) by omega),A0 (show 0<=a+4 by omega),A0 (show a+4<(b.length:Int) by omega),A0 (show 0<=a+9 by omega),A0 (show a+9<=a+9+(H8 b a.toNat 3:Int) by omega),A0 (show a+9+(H8 b a.toNat 3:Int)<=(b.length:Int) by omega)];simp only [cond_true];rw [C7d _ (by simp;omega),D7p hb (show 0<=a+3 by omega) (by omega),D7p hb (show 0<=a+4 by omega) (by omega)];rfl
theorem D2Q(b:List Int)(hb:Byt b)(h:b.length<=1048576)(a:Int)(k:Nat)(hk:1<=k/\k<=7):A1s b a (k:Int)=some (A87 b a k):=B2j b hb (by omega) a k hk
theorem A88(xs:List Int):(strOf xs).size=xs.length:=strOfNums_size xs
theorem D2R(x:Int):0<=M4 .i64 x 255/\M4 .i64 x 255<=255:=by
  unfold M4;have h:(BitVec.ofInt IntKind.i64.bits x &&& BitVec.ofInt IntKind.i64.bits 255).toNat<=255:=by
    rw [BitVec.toNat_and];have:(BitVec.ofInt IntKind.i64.bits (255:Int)).toNat=255:=bits_nat (w:=64) (x:=255) (by omega);rw [this];exact Nat.and_le_right
  rw [D5P (by omega)];omega
def Cur(c:D7):Prop:=List.length c.1<=1048576/\0<=c.2.1/\c.2.1<=1048576
theorem A7e(c:D7)(h:Cur c):∃ r c',U2 c=some (r,c',())/\Cur c'/\0<=r/\r<=255:=by
  obtain ⟨h1,h2,h3⟩:=h;simp only [U2,B7g];by_cases hi:c.2.1<(List.length c.1:Int)
  · simp only [A0 hi,A0 h2,cond_true]
    refine ⟨_,_,rfl,⟨h1,?_,?_⟩,D2R _⟩
    · simp only;rw [w64 (by omega) (by omega)];omega
    · simp only;rw [w64 (by omega) (by omega)];omega
  · simp only [A3 hi,cond_false]
    exact ⟨_,_,rfl,⟨h1,h2,h3⟩,D2R _⟩
theorem A0C(c:D7)(n:Int)(h:Cur c)(hn:0<n/\n<9223372036854775808):∃ r c',F3 c n=some (r,c',())/\Cur c'/\0<=r/\r<n:=by
  simp only [F3,B4L];rw [A3 (show ¬ n<=0 by omega)];have hz:(n == 0)=false:=by simp;omega
  simp only [cond_false,hz];by_cases h1:n<=256
  · rw [A0 h1]
    obtain ⟨r,c',e,hc,hr⟩:=A7e c h;simp only [cond_true,e,A4];refine ⟨_,_,rfl,hc,?_⟩;rw [Int.tmod_eq_emod_of_nonneg hr.1];exact ⟨Int.emod_nonneg _ (by omega),Int.emod_lt_of_pos _ (by omega)⟩
  · rw [A3 h1]
    obtain ⟨r1,c1,e1,hc1,hr1⟩:=A7e c h;obtain ⟨r2,c2,e2,hc2,hr2⟩:=A7e c1 hc1;obtain ⟨r3,c3,e3,hc3,hr3⟩:=A7e c2 hc2;simp only [cond_false,e1,e2,e3,A4];refine ⟨_,_,rfl,hc3,?_⟩;rw [w64 (n:=r1*65536) (by omega) (by omega),w64 (n:=r2*256) (by omega) (by omega),w64 (n:=r1*65536+r2*256) (by omega) (by omega),w64 (n:=r1*65536+r2*256+r3) (by omega) (by omega)];rw [Int.tmod_eq_emod_of_nonneg (by omega)];exact ⟨Int.emod_nonneg _ (by omega),Int.emod_lt_of_pos _ (by omega)⟩
theorem E27(c:D7)(xs:List X0)(h:Cur c)(hx:0<xs.length/\xs.length<=1048576):∃ s c',B0g c xs=some (s,c',())/\Cur c'/\s∈xs:=by
  obtain ⟨r,c',e,hc,h0,h1⟩:=A0C c (xs.length:Int) h (by omega);simp only [B0g,C0O,e,A4,A0 h0,A0 h1,cond_true];refine ⟨_,_,rfl,hc,?_⟩;obtain ⟨n,rfl⟩:∃ n:Nat,r=(n:Int):=⟨r.toNat,by omega⟩;rw [E5e (by omega)];exact List.getElem_mem _
theorem A3T(c:D7)(xs:List Int)(h:Cur c)(hx:0<xs.length/\xs.length<=1048576):∃ s c',V5 c xs=some (s,c',())/\Cur c'/\s∈xs:=by
  obtain ⟨r,c',e,hc,h0,h1⟩:=A0C c (xs.length:Int) h (by omega);simp only [V5,C0N,e,A4,A0 h0,A0 h1,cond_true];refine ⟨_,_,rfl,hc,?_⟩;obtain ⟨n,rfl⟩:∃ n:Nat,r=(n:Int):=⟨r.toNat,by omega⟩;rw [D0R (by omega)];exact List.getElem_mem _
theorem wrap_u8(x:Int):0<=IntKind.u8.wrap x/\IntKind.u8.wrap x<256:=by
  simp only [IntKind.wrap,IntKind.bits,IntKind.signed];simp;omega
theorem B7m(c:D7)(n:Int)(h:Cur c)(hn:0<=n/\n<=1048576):∃ b c',N0 c n=some (b,c',())/\Cur c'/\(List.length b:Int)=n/\Byt b:=by
  simp only [N0,A5j];obtain ⟨z,e,hz⟩:=B0h (A46 U2 n) (fun l=>(n-l.1).toNat) (fun l=>0<=l.1/\l.1<=n/\Cur (l.2.1,l.2.2.1,l.2.2.2.1)/\(List.length l.2.2.2.2.1:Int)=l.1/\Byt l.2.2.2.2.1)
    (fun z=>Cur z.2.1/\(List.length z.1:Int)=n/\Byt z.1) (fun l hl=>by
      obtain ⟨h0,h1,hc,hlen,hb⟩:=hl;simp only [A46];by_cases hi:l.1<n
      · obtain ⟨r,c',e,hc',hr⟩:=A7e _ hc
        refine .inl ⟨(l.1+1,c'.1,c'.2.1,c'.2.2,l.2.2.2.2.1 ++ [IntKind.u8.wrap r],()),?_,⟨by simp only;omega,by simp only;omega,hc',by simp;omega,?_⟩,by simp only;omega⟩
        · rw [A0 hi,e]
          simp only [cond_true,A4];rw [A0 (by simp;omega),A0 (by simp;omega),w64 (by omega) (by omega)];rfl
        · intro x hx
          rcases List.mem_append.1 hx with hx | hx
          · exact hb x hx
          · rw [List.mem_singleton.1 hx];exact wrap_u8 _
      · rw [A3 hi]
        exact .inr ⟨_,rfl,hc,by simp only;omega,hb⟩) (0,c.1,c.2.1,c.2.2,[],()) ⟨by simp,hn.1,h,by simp,fun x hx=>by cases hx⟩
  exact ⟨z.1,z.2.1,e,hz⟩
theorem E28(a:List Int)(h:a.length<=1048576):∃ c,B0T a=some (c,())/\Cur c:=by
  simp only [B0T,C0K];obtain ⟨z,e,_⟩:=B0h (B4K a) (fun l=>((a.length:Int)-l.2.1).toNat) (fun l=>0<=l.2.1) (fun _=>True) (fun l hl=>by
    simp only [B4K];by_cases hi:l.2.1<(a.length:Int)
    · by_cases h4:l.2.1<4000
      · rw [A0 hi,A0 h4]
        simp only [cond_true,D4];rw [A0 hl,w64 (n:=l.2.1+1) (by omega) (by omega)];exact .inl ⟨_,rfl,by simp only;omega,by simp only;omega⟩
      · rw [A0 hi,A3 h4]
        exact .inr ⟨_,rfl,trivial⟩
    · rw [A3 hi]
      exact .inr ⟨_,rfl,trivial⟩) (IntKind.i64.wrap (369369+(a.length:Int)),0,()) (by simp)
  rw [e];exact ⟨_,rfl,h,by simp,by simp⟩
theorem P2{a b:List Int}(ha:Byt a)(hb:Byt b):Byt (a++b):=fun x hx=>(List.mem_append.1 hx).elim (ha x) (hb x)
theorem D7q(n:Int)(k:Nat):Byt (big n k):=by
  intro x hx;obtain ⟨j,_,rfl⟩:=List.mem_map.1 hx;exact wrap_u8 _
theorem D2S(s:X0):Byt (bytesOf s):=by
  intro x hx;obtain ⟨b,_,rfl⟩:=List.mem_map.1 hx;have:=b.toNat_lt;omega
theorem A89{a:List Int}(h:Byt a)(i:Nat):Byt (a.drop i):=fun x hx=>h x (List.mem_of_mem_drop hx)
theorem C2B(go:Nat->Bool):∀ k i j,i<=j->j<L6 go i k->go j=true
  | 0,i,j,h1,h2=>by simp only [L6] at h2;omega
  | k+1,i,j,h1,h2=>by
    simp only [L6] at h2;split at h2
    · rename_i hg
      by_cases e:j=i
      · rw [e];exact hg
      · exact C2B go k (i+1) j (by omega) h2
    · omega
theorem C2C(go:Nat->Bool)(n p:Nat)(hp:p<=n)(h1:∀ j,j<p->go j=true)(h2:p<n->go p=false):L6 go 0 n=p:=by
  have hl:=C9M go n 0;rcases Nat.lt_trichotomy (L6 go 0 n) p with h | h | h
  · have:=B8o go n 0 (by omega)
    rw [h1 _ h] at this;cases this
  · exact h
  · have:=C2B go n 0 p (by omega) h
    rw [h2 (by omega)] at this;cases this
def C4A(op:Int):Int:=if op=1 then 1000000000 else if op=3 then 1000000000 else if op=4 then 4294967295 else 0
def B03(r:A6P):Bool:=decide (1<=r.1/\r.1<=6)&&idB r.2.1&&decide (0<=r.2.2/\r.2.2<=C4A r.1)
theorem C5O(r:A6P)(h:r.2.1.size<=maxLen):A5e r=some (B03 r,()):=by
  simp only [A5e,C0M,A1f,E22 _ h,A4,B03,A0h,A95,C4A];cases decide (1<=r.1/\r.1<=6)
  · rfl
  cases idB r.2.1
  · rfl
  simp only [Bool.not_true,cond_false,D4,Bool.true_and];have hz:decide (0<=r.2.2/\r.2.2<=0)=decide (r.2.2=0):=by
    by_cases h0:r.2.2=0
    · rw [A0 h0,A0 (by omega)]
    · rw [A3 h0,A3 (by omega)]
  by_cases h1:r.1=1
  · simp [h1]
  by_cases h3:r.1=3
  · simp [h3]
  by_cases h4:r.1=4
  · simp [h4]
  simp [h1,h3,h4];rw [Bool.eq_iff_iff];simp;omega
theorem C5P(r:A6P)(h:r.2.1.size<=maxLen):B5f r=some (B03 r,()):=by
  simp only [B5f,C9K,H1,D7m _ h,A4,B03,L9,A3j,C4A];by_cases h1:r.1=1
  · simp [h1];cases idB r.2.1<;>simp
  by_cases h3:r.1=3
  · simp [h3];cases idB r.2.1<;>simp
  by_cases h4:r.1=4
  · simp [h4];cases idB r.2.1<;>simp
  simp only [A3 h1,A3 h3,A3 h4,if_neg h1,if_neg h3,if_neg h4,cond_false];cases decide (1<=r.1/\r.1<=6)<;>cases idB r.2.1<;>simp
theorem D9K{a b:List Int}(ha:Byt a)(hb:Byt b)(h:(strOf a).toList=(strOf b).toList):a=b:=by
  rw [ByteArray.toList_eq,ByteArray.toList_eq] at h;have h2:(a.map fun n=>UInt8.ofNat n.toNat)=b.map fun n=>UInt8.ofNat n.toNat:=h
  have hl:a.length=b.length:=by simpa using congrArg List.length h2
  refine List.ext_getElem hl fun i h1 h3=>?_
  have h4:=congrArg (fun l=>l[i]?) h2;simp only [List.getElem?_map,List.getElem?_eq_getElem h1,List.getElem?_eq_getElem h3,Option.map_some,Option.some.injEq] at h4;exact E5f (ha _ (List.getElem_mem h1)) (hb _ (List.getElem_mem h3)) h4
def pri:List Int:= [80,82,73,32,42,32,72,84,84,80,47,50,46,48,13,10,13,10,83,77,13,10,13,10]
def prefaceB:List Int:=pri++A10 (4,0,0,[])
theorem D2T:prefaceB.length=33:=by simp [prefaceB,A10,pri,A6C]
theorem D0V:A6a=some (prefaceB,()):=by
  simp only [A6a,B4R];rw [A3S _ (by simp)];have:N1 (4,0,0,[])=true:=by decide
  rw [this];have hl:(A10 (4,0,0,[])).length=9:=by simp [A10,A6C]
  simp only [A4,if_true];rw [A0 (by rw [hl];simp),A0 (by rw [hl];simp)];rfl
set_option maxRecDepth 100000
def lensT:List Int:= [13,23,28,28,28,28,28,28,28,24,30,28,28,30,28,28,28,28,28,28,28,28,30,28,28,28,28,28,28,28,28,28,6,10,10,12,13,6,8,11,10,10,8,11,8,6,6,6,5,5,5,6,6,6,6,6,6,6,7,8,15,6,12,10,13,6,7,7,7,7,7,7,7,7,7,7,7,7,7,7,7,7,7,7,7,7,7,7,8,7,8,13,19,13,14,6,15,5,6,5,6,5,6,6,6,5,7,7,6,6,6,5,6,7,6,5,5,6,7,7,7,7,7,15,11,14,13,28,20,22,20,20,22,22,22,23,22,23,23,23,23,23,24,23,24,24,22,23,24,23,23,23,23,21,22,23,22,23,23,24,22,21,20,22,22,23,23,21,23,22,22,24,21,22,23,23,21,21,22,21,23,22,23,23,20,22,22,22,23,22,22,23,26,26,20,19,22,23,22,25,26,26,26,27,27,26,24,25,19,21,26,27,27,26,27,24,21,21,26,26,28,27,27,27,20,24,20,21,22,21,21,23,22,22,25,25,24,24,26,23,26,27,26,26,27,27,27,27,27,28,27,27,27,27,27,26,30]
theorem C2D:A5g=some (lensT,()):=rfl
theorem T9:lensT.length=257:=by kernel_rfl
theorem C9N:(lensT.all fun x=>decide (5<=x)&&decide (x<=30))=true:=by kernel_rfl
theorem u64_nonneg(x:Int):¬ (IntKind.u64.wrap x<0):=by
  simp only [IntKind.wrap,IntKind.bits,IntKind.signed,Bool.false_and];simp;omega
def cst(n:Int)(st:Int×Int×List Int)(sym:Nat):Int×Int×List Int:=
  if (lensT.getD sym 0)=n then
    (let code:=if st.2.1>0 then IntKind.i64.wrap ((IntKind.i64.wrap (st.1+1))*2 ^ (min (IntKind.u64.wrap (IntKind.i64.wrap (n-st.2.1))).toNat IntKind.i64.bits)) else st.1
     (code,n,st.2.2.set sym code)) else st
def B7n(n:Int)(st:Int×Int×List Int):Nat->Int×Int×List Int
  | 0=>st
  | k+1=>cst n (B7n n st k) k
def lvl(st:Int×Int×List Int):Nat->Int×Int×List Int
  | 0=>st
  | k+1=>B7n ((k:Int)+1) (lvl st k) 257
def codesT:List Int:=(lvl (0,0,List.replicate 257 0) 30).2.2
theorem E4L(n:Int)(st:Int×Int×List Int)(sym:Nat):(cst n st sym).2.2.length=st.2.2.length:=by
  unfold cst;split<;>simp
theorem C5Q(n:Int)(st:Int×Int×List Int):∀ k,(B7n n st k).2.2.length=st.2.2.length
  | 0=>rfl
  | k+1=>by rw [B7n,E4L,C5Q n st k]
theorem D0W(st:Int×Int×List Int):∀ k,(lvl st k).2.2.length=st.2.2.length
  | 0=>rfl
  | k+1=>by rw [lvl,C5Q,D0W st k]
theorem E4M{xs:List Int}{i:Nat}:rd (.int .i64) xs (i:Int)=xs.getD i 0:=by
  simp [rd,zd]
theorem D5Q(c l s n:Int)(o:List Int)(ho:o.length=257)(hn:n<1000)(hn0:0<=n)(a b d:Int)(e:List Int) :
    B9 (A3O (lensT,()) (a,b,n,e,())) (c,l,0,o,())=some (.inl ((B7n n (c,l,o) 257).1,(B7n n (c,l,o) 257).2.1,n+1,(B7n n (c,l,o) 257).2.2,())):=by
  have hl:∀ k,(B7n n (c,l,o) k).2.2.length=257:=fun k=>by rw [C5Q];exact ho
  refine F4 (A3O (lensT,()) (a,b,n,e,())) (fun k=>((B7n n (c,l,o) k).1,(B7n n (c,l,o) k).2.1,(k:Int),(B7n n (c,l,o) k).2.2,())) 257 _ (fun k hk=>?_) ?_
  · have h1:(k:Int)<=256:=by omega
    have h2:(0:Int)<=(k:Int):=by omega
    have h3:(k:Int)<(lensT.length:Int):=by rw [T9];omega
    have h4:(k:Int)<((B7n n (c,l,o) k).2.2.length:Int):=by rw [hl];omega
    have h5:IntKind.i64.wrap ((k:Int)+1)=((k+1:Nat):Int):=by rw [w64 (by omega) (by omega)];omega
    simp only [A3O,A0 h1,A0 h2,A0 h3,A0 h4,cond_true,E4M,h5,A3 (u64_nonneg _),cond_false,Int.toNat_natCast,A4];have e1:B7n n (c,l,o) (k+1)=cst n (B7n n (c,l,o) k) k:=rfl;rw [e1];unfold cst;by_cases hq:lensT.getD k 0=n
    · simp only [hq,decide_true,Bool.not_true,cond_false,if_true]
      by_cases hg:(B7n n (c,l,o) k).2.1>0
      · simp only [A0 hg,cond_true,if_pos hg]
      · simp only [A3 hg,cond_false,if_neg hg]
    · simp only [A3 hq,Bool.not_false,cond_true,if_neg hq]
  · have h1:¬ ((257:Nat):Int)<=256:=by omega
    simp only [A3O,A3 h1,cond_false];rw [w64 (by omega) (by omega)]
theorem D0a:A6V=some (codesT,()):=by
  simp only [A6V,B4N,C2D,A4];have hl:∀ k,(lvl (0,0,List.replicate 257 0) k).2.2.length=257:=fun k=>by rw [D0W];simp
  refine F4 (A65 (lensT,())) (fun k=>((lvl (0,0,List.replicate 257 0) k).1,(lvl (0,0,List.replicate 257 0) k).2.1,((k:Int)+1),(lvl (0,0,List.replicate 257 0) k).2.2,())) 30 _ (fun k hk=>?_) ?_
  · have h1:(k:Int)+1<=30:=by omega
    simp only [A65,A0 h1,cond_true];rw [D5Q _ _ 0 _ _ (hl k) (by omega) (by omega) _ _ 0 _];simp only [lvl]
    congr 4
  · have h1:¬ ((30:Nat):Int)+1<=30:=by omega
    simp only [A65,A3 h1,cond_false];rfl
theorem A22:codesT.length=257:=by unfold codesT;rw [D0W];simp
set_option maxRecDepth 100000
def lensS:X0:=⟨#[49,51,32,50,51,32,50,56,32,50,56,32,50,56,32,50,56,32,50,56,32,50,56,32,50,56,32,50,52,32,51,48,32,50,56,32,50,56,32,51,48,32,50,56,32,50,56,32,50,56,32,50,56,32,50,56,32,50,56,32,50,56,32,50,56,32,51,48,32,50,56,32,50,56,32,50,56,32,50,56,32,50,56,32,50,56,32,50,56,32,50,56,32,50,56,32,54,32,49,48,32,49,48,32,49,50,32,49,51,32,54,32,56,32,49,49,32,49,48,32,49,48,32,56,32,49,49,32,56,32,54,32,54,32,54,32,53,32,53,32,53,32,54,32,54,32,54,32,54,32,54,32,54,32,54,32,55,32,56,32,49,53,32,54,32,49,50,32,49,48,32,49,51,32,54,32,55,32,55,32,55,32,55,32,55,32,55,32,55,32,55,32,55,32,55,32,55,32,55,32,55,32,55,32,55,32,55,32,55,32,55,32,55,32,55,32,55,32,55,32,56,32,55,32,56,32,49,51,32,49,57,32,49,51,32,49,52,32,54,32,49,53,32,53,32,54,32,53,32,54,32,53,32,54,32,54,32,54,32,53,32,55,32,55,32,54,32,54,32,54,32,53,32,54,32,55,32,54,32,53,32,53,32,54,32,55,32,55,32,55,32,55,32,55,32,49,53,32,49,49,32,49,52,32,49,51,32,50,56,32,50,48,32,50,50,32,50,48,32,50,48,32,50,50,32,50,50,32,50,50,32,50,51,32,50,50,32,50,51,32,50,51,32,50,51,32,50,51,32,50,51,32,50,52,32,50,51,32,50,52,32,50,52,32,50,50,32,50,51,32,50,52,32,50,51,32,50,51,32,50,51,32,50,51,32,50,49,32,50,50,32,50,51,32,50,50,32,50,51,32,50,51,32,50,52,32,50,50,32,50,49,32,50,48,32,50,50,32,50,50,32,50,51,32,50,51,32,50,49,32,50,51,32,50,50,32,50,50,32,50,52,32,50,49,32,50,50,32,50,51,32,50,51,32,50,49,32,50,49,32,50,50,32,50,49,32,50,51,32,50,50,32,50,51,32,50,51,32,50,48,32,50,50,32,50,50,32,50,50,32,50,51,32,50,50,32,50,50,32,50,51,32,50,54,32,50,54,32,50,48,32,49,57,32,50,50,32,50,51,32,50,50,32,50,53,32,50,54,32,50,54,32,50,54,32,50,55,32,50,55,32,50,54,32,50,52,32,50,53,32,49,57,32,50,49,32,50,54,32,50,55,32,50,55,32,50,54,32,50,55,32,50,52,32,50,49,32,50,49,32,50,54,32,50,54,32,50,56,32,50,55,32,50,55,32,50,55,32,50,48,32,50,52,32,50,48,32,50,49,32,50,50,32,50,49,32,50,49,32,50,51,32,50,50,32,50,50,32,50,53,32,50,53,32,50,52,32,50,52,32,50,54,32,50,51,32,50,54,32,50,55,32,50,54,32,50,54,32,50,55,32,50,55,32,50,55,32,50,55,32,50,55,32,50,56,32,50,55,32,50,55,32,50,55,32,50,55,32,50,55,32,50,54,32,51,48]⟩
def lensP:List (List UInt8):=Lib.splitK [32] 0 (Lib.count lensS.data.toList [32]) lensS.data.toList
theorem E29:(lensP.map Lib.atoi)=lensT.map some:=by kernel_rfl
theorem E2A:(lensP.all fun x=>Nat.ble x.length 18)=true:=by kernel_rfl
theorem D2U:(Lib.splitB ⟨#[32]⟩ 0 (Lib.countB lensS ⟨#[32]⟩) lensS).map (·.data.toList)=lensP:=by
  rw [Lib.splitB_data];rfl
theorem D9L(s:X0)(P:List (List UInt8))(hs:s.size<4294967281)(h0:(Lib.splitB ⟨#[32]⟩ 0 (Lib.countB s ⟨#[32]⟩) s).map (·.data.toList)=P)(hP:(P.map Lib.atoi)=lensT.map some)(hz:(P.all fun x=>Nat.ble x.length 18)=true) :
    ∃ c:List X0,A5q s ⟨#[32]⟩=some (c,())/\c.length=257/\∀ k (h:k<c.length),B1q c[k]=some (lensT.getD k 0,(),()):=by
  have h1:(decide (s.size<4294967281)&&decide (1<=(⟨#[32]⟩:X0).size))=true:=by
    rw [A0 hs];rfl
  refine ⟨_,by simp only [A5q,h1,cond_true];rfl,?_,fun k hk=>?_⟩
  · have:=congrArg List.length h0
    rw [List.length_map] at this;rw [this];have h2:=congrArg List.length hP;rw [List.length_map,List.length_map,T9] at h2;exact h2
  · generalize hc:Lib.splitB ⟨#[32]⟩ 0 (Lib.countB s ⟨#[32]⟩) s=c at *
    have e:=h0;have hk2:k<P.length:=by rw [<- e,List.length_map];exact hk
    have e1:(c[k]).data.toList=P[k]:=by
      have:(c.map (·.data.toList))[k]? = P[k]?:=by rw [e]
      rw [List.getElem?_map,List.getElem?_eq_getElem hk,List.getElem?_eq_getElem hk2] at this;simpa using this
    have e2:Lib.atoi P[k]=some (lensT.getD k 0):=by
      have:(P.map Lib.atoi)[k]? = (lensT.map some)[k]?:=by rw [hP]
      rw [List.getElem?_map,List.getElem?_eq_getElem hk2,List.getElem?_map] at this;cases hq:lensT[k]? with
      | none=>rw [hq] at this;cases this
      | some v=>
        rw [hq] at this;simp only [Option.map_some,Option.some.injEq] at this;rw [this,List.getD_eq_getElem?_getD,hq];rfl
    have e3:(c[k]).size<=18:=by
      have h4:=List.all_eq_true.1 hz P[k] (List.getElem_mem hk2);have h5:=Nat.le_of_ble_eq_true h4;rw [<- e1] at h5;exact h5
    simp only [B1q,A0 e3,cond_true,e1,e2]
theorem E2B:lensS.size<4294967281:=by
  have:Nat.ble (lensS.size+1) 4294967281=true:=by kernel_rfl
  exact Nat.le_of_ble_eq_true this
theorem E2C:∃ c:List X0,A5q lensS ⟨#[32]⟩=some (c,())/\c.length=257/\∀ k (h:k<c.length),B1q c[k]=some (lensT.getD k 0,(),()):=
  D9L lensS lensP E2B D2U E29 E2A
set_option maxRecDepth 100000
def szs(r:List (Int×Int)):Nat->List (Int×Int)
  | 0=>r
  | k+1=>(szs r k).set k (((szs r k).getD k (0,0)).1,lensT.getD k 0)
theorem D7r(r:List (Int×Int)):∀ k,(szs r k).length=r.length
  | 0=>rfl
  | k+1=>by rw [szs,List.length_set,D7r r k]
theorem E4N:szs (List.replicate 257 (0,0)) 257=lensT.map fun n=>(0,n):=by kernel_rfl
def ist(n:Int)(st:Int×List (Int×Int))(sym:Nat):Int×List (Int×Int):=
  if (st.2.getD sym (0,0)).2=n then (IntKind.i64.wrap (st.1+1),st.2.set sym (st.1,(st.2.getD sym (0,0)).2)) else st
def C38(n:Int)(st:Int×List (Int×Int)):Nat->Int×List (Int×Int)
  | 0=>st
  | k+1=>ist n (C38 n st k) k
def D0b(st:Int×List (Int×Int)):Nat->Int×List (Int×Int)
  | 0=>st
  | k+1=>C38 ((k:Int)+1) (IntKind.i64.wrap ((D0b st k).1*2),(D0b st k).2) 257
theorem E4O(n:Int)(st:Int×List (Int×Int))(sym:Nat):(ist n st sym).2.length=st.2.length:=by
  unfold ist;split<;>simp
theorem C5R(n:Int)(st:Int×List (Int×Int)):∀ k,(C38 n st k).2.length=st.2.length
  | 0=>rfl
  | k+1=>by rw [C38,E4O,C5R n st k]
theorem D2V(st:Int×List (Int×Int)):∀ k,(D0b st k).2.length=st.2.length
  | 0=>rfl
  | k+1=>by rw [D0b,C5R,D2V st k]
def E5g:List (Int×Int):=(D0b (0,lensT.map fun n=>(0,n)) 30).2
theorem D9M:E5g=codesT.zip lensT:=by kernel_rfl
theorem D2W{xs:List (Int×Int)}{i:Nat}:rd E9 xs (i:Int)=xs.getD i (0,0):=by
  simp [rd,zd]
theorem D5R(c n:Int)(o:List (Int×Int))(ho:o.length=257)(hn:n<1000)(hn0:0<=n)(a:Int)(e:List (Int×Int)) :
    B9 (A3G (a,n,e,())) (c,0,o,())=some (.inl ((C38 n (c,o) 257).1,n+1,(C38 n (c,o) 257).2,())):=by
  have hl:∀ k,(C38 n (c,o) k).2.length=257:=fun k=>by rw [C5R];exact ho
  refine F4 (A3G (a,n,e,())) (fun k=>((C38 n (c,o) k).1,(k:Int),(C38 n (c,o) k).2,())) 257 _ (fun k hk=>?_) ?_
  · have h1:(k:Int)<257:=by omega
    have h2:(0:Int)<=(k:Int):=by omega
    have h5:IntKind.i64.wrap ((k:Int)+1)=((k+1:Nat):Int):=by rw [w64 (by omega) (by omega)];omega
    simp only [A3G,A0 h1,A0 h2,cond_true,D2W,h5,Int.toNat_natCast];have e1:C38 n (c,o) (k+1)=ist n (C38 n (c,o) k) k:=rfl;rw [e1];unfold ist;by_cases hq:((C38 n (c,o) k).2.getD k (0,0)).2=n
    · simp only [A0 hq,cond_true,if_pos hq]
    · simp only [A3 hq,cond_false,if_neg hq]
  · have h1:¬ ((257:Nat):Int)<257:=by omega
    simp only [A3G,A3 h1,cond_false];rw [w64 (by omega) (by omega)]
theorem B8p:A4M=some (codesT.zip lensT,()):=by
  obtain ⟨c,hc,hcl,hca⟩:=E2C;rw [<- D9M];have e0:A4M=A4 (A4 (A5q lensS ⟨#[32]⟩) fun c7=>B9 (A1O B1q c7) (0,(List.replicate 257 (0,0)),())) fun (m1:List A14×Unit)=>B9 (A3H) (0,1,m1.1,()):=rfl
  rw [e0,hc];have f1:B9 (A1O B1q (c,())) (0,(List.replicate 257 (0,0)),())=some (lensT.map fun n=>(0,n),()):=by
    have hl:∀ k,(szs (List.replicate 257 (0,0)) k).length=257:=fun k=>by rw [D7r];simp
    refine F4 (A1O B1q (c,())) (fun k=>((k:Int),szs (List.replicate 257 (0,0)) k,())) 257 _ (fun k hk=>?_) ?_
    · have h1:(k:Int)<257:=by omega
      have h2:(0:Int)<=(k:Int):=by omega
      have h3:(k:Int)<(c.length:Int):=by rw [hcl];omega
      have h5:IntKind.i64.wrap ((k:Int)+1)=((k+1:Nat):Int):=by rw [w64 (by omega) (by omega)];omega
      have h6:rd .str c (k:Int)=c[k]'(by omega):=A49 (k:=.str) (by omega);simp only [A1O,A0 h1,A0 h2,A0 h3,cond_true,h6,hca k (by omega),A4,D2W,h5,Int.toNat_natCast];rfl
    · have h1:¬ ((257:Nat):Int)<(c.length:Int):=by rw [hcl];omega
      simp only [A1O,A3 h1,cond_false,E4N]
  simp only [A4,f1];have hl:∀ k,(D0b (0,lensT.map fun n=>(0,n)) k).2.length=257:=fun k=>by rw [D2V,List.length_map,T9]
  refine F4 A3H (fun k=>((D0b (0,lensT.map fun n=>(0,n)) k).1,((k:Int)+1),(D0b (0,lensT.map fun n=>(0,n)) k).2,())) 30 _ (fun k hk=>?_) ?_
  · have h1:(k:Int)+1<=30:=by omega
    simp only [A3H,A0 h1,cond_true];rw [D5R _ _ _ (hl k) (by omega) (by omega)];simp only [D0b]
    congr 4
  · have h1:¬ ((30:Nat):Int)+1<=30:=by omega
    simp only [A3H,A3 h1,cond_false];rfl
set_option maxRecDepth 100000
theorem gA{R:Type}{n:Nat}{X:Option R}(h:n<=140737488355328):(bif decide (n<=9223372036854775807) then bif decide (n*1<=140737488355328) then X else none else none)=X:=by
  rw [A0 (by omega),A0 (by omega)];rfl
theorem D2a{R:Type}{n:Nat}{X:Option R}(h:n<=1000000000000):(bif decide (n<=9223372036854775807) then bif decide (n*32<=140737488355328) then X else none else none)=X:=by
  rw [A0 (by omega),A0 (by omega)];rfl
theorem E5h{R:Type}{n:Nat}{X:Option R}(h:n<=1000000000000):(bif decide (n<=9223372036854775807) then bif decide (n*48<=140737488355328) then X else none else none)=X:=by
  rw [A0 (by omega),A0 (by omega)];rfl
theorem E2D(k:IntKind)(x y:Int):bOr k x y=bOr k y x:=by
  unfold bOr;rw [BitVec.or_comm]
def more:Nat->Int->List Int
  | 0,v=> [IntKind.u8.wrap v]
  | k+1,v=>if v>127 then IntKind.u8.wrap (bOr .i64 (M4 .i64 v 127) 128)::more k (v.fdiv 128) else [IntKind.u8.wrap v]
theorem D2b:∀ k v,(more k v).length<=k+1
  | 0,v=>by simp [more]
  | k+1,v=>by
    have:=D2b k (v.fdiv 128);simp only [more];split<;>simp<;>omega
theorem D2c:∀ k v,Byt (more k v)
  | 0,v=>fun x hx=>by rcases List.mem_singleton.1 hx with rfl;exact wrap_u8 _
  | k+1,v=>by
    have ih:=D2c k (v.fdiv 128);simp only [more];split
    · intro x hx
      rcases List.mem_cons.1 hx with rfl | hx
      · exact wrap_u8 _
      · exact ih x hx
    · exact fun x hx=>by rcases List.mem_singleton.1 hx with rfl;exact wrap_u8 _
theorem C0R:∀ (k:Nat) (v:Int) (b:List Int),0<=v->v<128 ^ (k+1)->b.length+k+2<=140737488355328->
    ∃ v' ex,B9 R9 (v,b,())=some (v',b++ex,())/\ex ++ [IntKind.u8.wrap v']=more k v/\ex.length<=k
  | 0,v,b,h0,h1,hb=>by
    have h1':v<128:=by simpa using h1
    have h2:¬ v>127:=by omega
    refine ⟨v,[],?_,rfl,by simp⟩;rw [C1];simp only [R9,A3 h2,cond_false,List.append_nil]
  | k+1,v,b,h0,h1,hb=>by
    by_cases h2:v>127
    · have h3:v.fdiv 128=v / 128:=Int.fdiv_eq_ediv_of_nonneg _ (by omega)
      obtain ⟨v',ex,e1,e2,e3⟩:=C0R k (v.fdiv 128) (b ++ [IntKind.u8.wrap (bOr .i64 (M4 .i64 v 127) 128)]) (by omega) (by rw [h3];rw [Int.pow_succ] at h1;omega) (by simp;omega);refine ⟨v',IntKind.u8.wrap (bOr .i64 (M4 .i64 v 127) 128)::ex,?_,?_,by simp;omega⟩
      · rw [C1]
        simp only [R9,A0 h2,cond_true];rw [gA (by simp;omega)];simp only [e1];simp
      · simp only [more,if_pos h2,List.cons_append,e2]
    · refine ⟨v,[],?_,by simp only [more,if_neg h2,List.nil_append],by simp⟩
      rw [C1];simp only [R9,A3 h2,cond_false,List.append_nil]
def pfx(M F v:Int):List Int:=if v<M then [IntKind.u8.wrap (bOr .i64 F v)] else IntKind.u8.wrap (bOr .i64 F M)::more 3 (v-M)
theorem A9E(M F v:Int):(pfx M F v).length<=5:=by
  unfold pfx;split
  · simp
  · have:=D2b 3 (v-M);simp;omega
theorem C4B(M F v:Int):Byt (pfx M F v):=by
  unfold pfx;split
  · exact fun x hx=>by rcases List.mem_singleton.1 hx with rfl;exact wrap_u8 _
  · intro x hx
    rcases List.mem_cons.1 hx with rfl | hx
    · exact wrap_u8 _
    · exact D2c _ _ x hx
theorem D7s(n f M F v:Int)(b:List Int)(h1:¬ (IntKind.u64.wrap n<0))(h2:IntKind.i64.wrap (IntKind.i64.wrap (1*2 ^ (min (IntKind.u64.wrap n).toNat IntKind.i64.bits))-1)=M)(h3:A1a .i64 f M=F)(h5:1<=n/\n<=8)(h6:0<=f/\f<=255)
    (hM:15<=M/\M<=127) (hv:0<=v/\v<=16777216) (hb:b.length+16<=140737488355328):T4 b n f v=some (b++pfx M F v,()):=by
  have a1:¬ v>16777216:=by omega
  have a2:¬ v<0:=by omega
  simp only [T4,A9r,A1f,A0 h5,A0 h6,A4,D4,Bool.not_true,cond_false,A3 h1,h2,h3,A3 a1,A3 a2,List.nil_append];rw [gA (by simp;omega)];by_cases hq:v<M
  · rw [A0 hq,cond_true,gA (by simp;omega),pfx,if_pos hq]
  · rw [A3 hq,cond_false,gA (by simp;omega),w64 (by omega) (by omega)]
    obtain ⟨v',ex,e1,e2,e3⟩:=C0R 3 (v-M) (b ++ [IntKind.u8.wrap (bOr .i64 F M)]) (by omega) (by omega) (by simp;omega);rw [e1];simp only [A4];rw [gA (by simp;omega),pfx,if_neg hq,<- e2];simp
theorem D7t(n f M F v:Int)(b:List Int)(h1:¬ (IntKind.u64.wrap n<0))(h2:IntKind.i64.wrap (IntKind.i64.wrap (1*2 ^ (min (IntKind.u64.wrap n).toNat IntKind.i64.bits))-1)=M)(h3:M4 .i64 f (A1a .i64 255 M)=F)
    (hM:15<=M/\M<=127) (hv:0<=v/\v<=16777216) (hb:b.length+16<=140737488355328):A1R b n f v=some (b++pfx M F v,()):=by
  have a1:¬ 16777216<v:=by omega
  have a2:(bif decide (v>0) then v else 0)=v:=by
    by_cases h:v>0
    · rw [A0 h,cond_true]
    · rw [A3 h,cond_false];omega
  have e0:A6n=R9:=by
    funext l
    simp only [A6n,R9,E2D .i64 128]
  simp only [A1R,B65,A4,A3 h1,cond_false,h2,h3,A3 a1,a2,e0];by_cases hq:v<M
  · rw [A0 hq,cond_true,gA (by simp;omega),pfx,if_pos hq]
  · rw [A3 hq,cond_false,gA (by simp;omega),w64 (by omega) (by omega)]
    obtain ⟨v',ex,e1,e2,e3⟩:=C0R 3 (v-M) (b ++ [IntKind.u8.wrap (bOr .i64 F M)]) (by omega) (by omega) (by simp;omega);rw [e1];simp only [A4];rw [gA (by simp;omega),pfx,if_neg hq,<- e2];simp
def Pf(n f M:Int):Prop:=∀ (v:Int) (b:List Int),0<=v->v<=16777216->b.length+16<=140737488355328->T4 b n f v=some (b++pfx M f v,())/\A1R b n f v=some (b++pfx M f v,())
theorem B8q:Pf 7 128 127:=fun v b h0 h1 hb=>⟨D7s 7 128 127 128 v b (by decide) (by rfl) (by rfl) (by omega) (by omega) (by omega) ⟨h0,h1⟩ hb,D7t 7 128 127 128 v b (by decide) (by rfl) (by rfl) (by omega) ⟨h0,h1⟩ hb⟩
theorem E2E:Pf 7 0 127:=fun v b h0 h1 hb=>⟨D7s 7 0 127 0 v b (by decide) (by rfl) (by rfl) (by omega) (by omega) (by omega) ⟨h0,h1⟩ hb,D7t 7 0 127 0 v b (by decide) (by rfl) (by rfl) (by omega) ⟨h0,h1⟩ hb⟩
theorem E4P:Pf 6 64 63:=fun v b h0 h1 hb=>⟨D7s 6 64 63 64 v b (by decide) (by rfl) (by rfl) (by omega) (by omega) (by omega) ⟨h0,h1⟩ hb,D7t 6 64 63 64 v b (by decide) (by rfl) (by rfl) (by omega) ⟨h0,h1⟩ hb⟩
theorem E4Q:Pf 4 16 15:=fun v b h0 h1 hb=>⟨D7s 4 16 15 16 v b (by decide) (by rfl) (by rfl) (by omega) (by omega) (by omega) ⟨h0,h1⟩ hb,D7t 4 16 15 16 v b (by decide) (by rfl) (by rfl) (by omega) ⟨h0,h1⟩ hb⟩
set_option maxRecDepth 100000
def leA(s:X0)(k:Nat):Int:=lensT.getD (bt s k).toNat 0
def coA(s:X0)(k:Nat):Int:=codesT.getD (bt s k).toNat 0
theorem C0S(s:X0)(k:Int):(bt s k).toNat<257:=by have:=C9L s k;have:=B6D s k;omega
theorem B8r(s:X0)(k:Nat):5<=leA s k/\leA s k<=30:=by
  have h:=List.all_eq_true.1 C9N (leA s k) (by
    unfold leA;rw [List.getD_eq_getElem?_getD,List.getElem?_eq_getElem (by rw [T9];exact C0S s k)];exact List.getElem_mem _)
  simpa using h
theorem E2F(s:X0)(k:Nat):rd (.int .i64) lensT (bt s k)=leA s k:=by
  simp [rd,zd,leA]
theorem E2G(s:X0)(k:Nat):rd (.int .i64) codesT (bt s k)=coA s k:=by
  simp [rd,zd,coA]
theorem D7u(s:X0)(k:Nat)(xs:List (Int×Int))(hx:xs=codesT.zip lensT):rd E9 xs (bt s k)=(coA s k,leA s k):=by
  subst hx;have h1:(bt s k).toNat<codesT.length:=by rw [A22];exact C0S s k
  have h2:(bt s k).toNat<lensT.length:=by rw [T9];exact C0S s k
  have h3:(bt s k).toNat<(codesT.zip lensT).length:=by rw [List.length_zip];omega
  unfold rd;rw [List.getD_eq_getElem?_getD,List.getElem?_eq_getElem h3];simp [coA,leA,List.getD_eq_getElem?_getD,List.getElem?_eq_getElem h1,List.getElem?_eq_getElem h2]
def dr:Nat->Int->Int->Int×Int×List Int
  | 0,v,n=>(v,n,[])
  | k+1,v,n=>if n>=8 then ((dr k (M4 .i64 v (IntKind.i64.wrap ((IntKind.i64.wrap (1*2 ^ (min (IntKind.u64.wrap (n-8)).toNat IntKind.i64.bits)))-1))) (n-8)).1,(dr k (M4 .i64 v (IntKind.i64.wrap ((IntKind.i64.wrap (1*2 ^ (min (IntKind.u64.wrap (n-8)).toNat IntKind.i64.bits)))-1))) (n-8)).2.1,
      IntKind.u8.wrap (v.fdiv (2 ^ (min (IntKind.u64.wrap (n-8)).toNat IntKind.i64.bits)))::(dr k (M4 .i64 v (IntKind.i64.wrap ((IntKind.i64.wrap (1*2 ^ (min (IntKind.u64.wrap (n-8)).toNat IntKind.i64.bits)))-1))) (n-8)).2.2) else (v,n,[])
theorem E6O:∀ (k:Nat) (v n:Int),0<=n->n<8*(k+1)->(dr k v n).2.1=n % 8/\((dr k v n).2.2.length:Int)=n / 8
  | 0,v,n,h0,h1=>⟨by simp only [dr];omega,by simp only [dr,List.length_nil];omega⟩
  | k+1,v,n,h0,h1=>by
    by_cases h:n>=8
    · have:=E6O k (M4 .i64 v (IntKind.i64.wrap ((IntKind.i64.wrap (1*2 ^ (min (IntKind.u64.wrap (n-8)).toNat IntKind.i64.bits)))-1))) (n-8) (by omega) (by omega)
      simp only [dr,if_pos h,List.length_cons];omega
    · simp only [dr,if_neg h,List.length_nil]
      omega
theorem D7v(l0:Int×Int×Int×List Int×Unit):∀ (k:Nat) (v n:Int) (o:List Int),0<=n->n<8*(k+1)->n<1000->o.length+k+1<=140737488355328->
    B9 (A5h l0) (v,n,o,())=some (.inl ((dr k v n).1,(dr k v n).2.1,IntKind.i64.wrap (l0.2.2.1+1),o++(dr k v n).2.2,()))
  | 0,v,n,o,h0,h1,h2,hb=>by
    have h:¬ n>=8:=by omega
    rw [C1];simp only [A5h,A3 h,cond_false,dr,List.append_nil]
  | k+1,v,n,o,h0,h1,h2,hb=>by
    rw [C1];by_cases h:n>=8
    · have e1:IntKind.i64.wrap (n-8)=n-8:=w64 (by omega) (by omega)
      simp only [A5h,A0 h,cond_true,e1,A3 (u64_nonneg _),cond_false];rw [gA (by simp;omega)];simp only [];rw [D7v l0 k _ (n-8) _ (by omega) (by omega) (by omega) (by simp;omega)];simp only [dr,if_pos h,List.append_assoc,List.singleton_append,List.cons_append,List.nil_append]
    · simp only [A5h,A3 h,cond_false,dr,if_neg h,List.append_nil]
theorem E2H(l0:Int×Int×Int×List Int×Unit):C59 l0=A5h l0:=rfl
def hst(s:X0):Nat->Int×Int×List Int
  | 0=>(0,0,[])
  | k+1=>let d:=dr 5 (bOr .i64 (IntKind.i64.wrap ((hst s k).1*2 ^ (min (IntKind.u64.wrap (leA s k)).toNat IntKind.i64.bits))) (coA s k)) ((hst s k).2.1+leA s k);(d.1,d.2.1,(hst s k).2.2++d.2.2)
def bits(s:X0):Nat->Int
  | 0=>0
  | k+1=>bits s k+leA s k
theorem B0i(s:X0):∀ k:Nat,0<=bits s k/\bits s k<=30*(k:Int)
  | 0=>⟨by simp [bits],by simp [bits]⟩
  | k+1=>by
    have:=B0i s k;have:=B8r s k;simp only [bits];omega
theorem D2d(s:X0):∀ k:Nat,(hst s k).2.1=bits s k % 8/\((hst s k).2.2.length:Int)=bits s k / 8
  | 0=>⟨by simp [hst,bits],by simp [hst,bits]⟩
  | k+1=>by
    have h1:=D2d s k;have h2:=B8r s k;have h3:=B0i s k;have h4:=E6O 5 (bOr .i64 (IntKind.i64.wrap ((hst s k).1*2 ^ (min (IntKind.u64.wrap (leA s k)).toNat IntKind.i64.bits))) (coA s k)) ((hst s k).2.1+leA s k) (by omega) (by omega);simp only [hst,bits,List.length_append];omega
theorem D7w(s:X0)(k:Nat)(h:k<=1000000000):(hst s k).2.2.length<=4000000000:=by
  have:=D2d s k;have:=B0i s k;omega
theorem D9N(s:X0)(a:List Int)(ha:a.length<=1000000000000)(hs:s.size<=1000000000)(k:Nat)(hk:k<s.size) :
    A0B s (lensT,()) (codesT,()) ((hst s k).1,(hst s k).2.1,(k:Int),a++(hst s k).2.2,())=some (.inl ((hst s (k+1)).1,(hst s (k+1)).2.1,((k+1:Nat):Int),a++(hst s (k+1)).2.2,())):=by
  have h1:(k:Int)<(s.size:Int):=by omega
  have h2:(0:Int)<=(k:Int):=by omega
  have h3:=C9L s k;have h4:bt s k<(lensT.length:Int):=by rw [T9];have:=B6D s k;omega
  have h5:bt s k<(codesT.length:Int):=by rw [A22];have:=B6D s k;omega
  have h6:=B8r s k;have h7:=D2d s k;have h8:=D7w s k (by omega);simp only [A0B,A0 h1,A0 h2,A0 h3,A0 h4,A0 h5,cond_true,E2F,E2G,A3 (u64_nonneg _),cond_false];rw [w64 (n:=(hst s k).2.1+leA s k) (by omega) (by omega),D7v _ 5 _ _ _ (by omega) (by omega) (by omega) (by simp;omega),w64 (n:=(k:Int)+1) (by omega) (by omega)];simp only [hst,List.append_assoc];rfl
theorem D5S(s:X0)(l:Int×Int×Int×List Int×Unit):B2F s (codesT.zip lensT) l=A0B s (lensT,()) (codesT,()) l:=by
  obtain ⟨v,n,k,o,u⟩:=l;simp only [B2F,A0B];by_cases h1:k<(s.size:Int)
  · by_cases h2:0<=k
    · obtain ⟨k,rfl⟩:=Int.eq_ofNat_of_zero_le h2
      have h3:=C9L s k;have h4:bt s k<(lensT.length:Int):=by rw [T9];have:=B6D s k;omega
      have h5:bt s k<(codesT.length:Int):=by rw [A22];have:=B6D s k;omega
      have h6:bt s k<((codesT.zip lensT).length:Int):=by rw [List.length_zip,A22,T9];have:=B6D s k;omega
      have h7:0<(codesT.zip lensT).length:=by rw [List.length_zip,A22,T9];omega
      simp only [A0 h1,A0 h2,A0 h3,A0 h4,A0 h5,A0 h6,A0 h7,cond_true,E2F,E2G,D7u s k (codesT.zip lensT) rfl,E2H]
    · simp only [A3 h2,cond_false]
  · simp only [A3 h1,cond_false]
def A0F(s:X0):List Int:=
  if (hst s s.size).2.1>0 then (hst s s.size).2.2 ++ [IntKind.u8.wrap (bOr .i64 (IntKind.i64.wrap ((hst s s.size).1*2 ^ (min (IntKind.u64.wrap (IntKind.i64.wrap (8-(hst s s.size).2.1))).toNat IntKind.i64.bits))) (IntKind.i64.wrap ((IntKind.i64.wrap (1*2 ^ (min (IntKind.u64.wrap (IntKind.i64.wrap (8-(hst s s.size).2.1))).toNat IntKind.i64.bits)))-1)))] else (hst s s.size).2.2
theorem D9O(s:X0):((A0F s).length:Int)=(bits s s.size+7) / 8:=by
  have h:=D2d s s.size;have h2:=B0i s s.size;unfold A0F;split
  · simp only [List.length_append,List.length_singleton]
    omega
  · omega
theorem D2e(s:X0)(a:List Int)(ha:a.length<=1000000000000)(hs:s.size<=1000000000) :
    (A4 (B9 (A0B s (lensT,()) (codesT,())) (0,0,0,a,())) fun (m2:Int×Int×List Int×Unit)=>bif (decide (m2.2.1>0)) then bif decide ((IntKind.u64.wrap (IntKind.i64.wrap (8-m2.2.1)))<0) then none else bif decide ((IntKind.u64.wrap (IntKind.i64.wrap (8-m2.2.1)))<0) then none else bif decide (m2.2.2.1.length+([(IntKind.u8.wrap (bOr .i64 (IntKind.i64.wrap (m2.1*2 ^ (min (IntKind.u64.wrap (IntKind.i64.wrap (8-m2.2.1))).toNat IntKind.i64.bits))) (IntKind.i64.wrap ((IntKind.i64.wrap (1*2 ^ (min (IntKind.u64.wrap (IntKind.i64.wrap (8-m2.2.1))).toNat IntKind.i64.bits)))-1))))]:List Int).length<=9223372036854775807) then bif decide ((m2.2.2.1.length+([(IntKind.u8.wrap (bOr .i64 (IntKind.i64.wrap (m2.1*2 ^ (min (IntKind.u64.wrap (IntKind.i64.wrap (8-m2.2.1))).toNat IntKind.i64.bits))) (IntKind.i64.wrap ((IntKind.i64.wrap (1*2 ^ (min (IntKind.u64.wrap (IntKind.i64.wrap (8-m2.2.1))).toNat IntKind.i64.bits)))-1))))]:List Int).length)*1<=140737488355328) then some ((m2.2.2.1 ++ [(IntKind.u8.wrap (bOr .i64 (IntKind.i64.wrap (m2.1*2 ^ (min (IntKind.u64.wrap (IntKind.i64.wrap (8-m2.2.1))).toNat IntKind.i64.bits))) (IntKind.i64.wrap ((IntKind.i64.wrap (1*2 ^ (min (IntKind.u64.wrap (IntKind.i64.wrap (8-m2.2.1))).toNat IntKind.i64.bits)))-1))))]),()) else none else none else some (m2.2.2.1,()))=some (a++A0F s,()):=by
  have h1:B9 (A0B s (lensT,()) (codesT,())) (0,0,0,a,())=some ((hst s s.size).1,(hst s s.size).2.1,a++(hst s s.size).2.2,()):=by
    have:=F4 (A0B s (lensT,()) (codesT,())) (fun k=>((hst s k).1,(hst s k).2.1,(k:Int),a++(hst s k).2.2,())) s.size ((hst s s.size).1,(hst s s.size).2.1,a++(hst s s.size).2.2,()) (fun k hk=>D9N s a ha hs k hk) (by
      have h:¬ ((s.size:Nat):Int)<(s.size:Int):=by omega
      simp only [A0B,A3 h,cond_false])
    simpa [hst] using this
  have h8:=D7w s s.size (by omega);rw [h1];simp only [A4,A3 (u64_nonneg _),cond_false];by_cases h:(hst s s.size).2.1>0
  · rw [A0 h,cond_true,gA (by simp;omega),A0F,if_pos h]
    simp
  · rw [A3 h,cond_false,A0F,if_neg h]
theorem D9P(s:X0)(hs:s.size<=1000000000):B4O s=some (A0F s,()):=by
  have:=D2e s [] (by simp) hs;simp only [List.nil_append] at this;simp only [B4O,C5H,C2D,D0a,A4];exact this
theorem C9O(s:X0)(a:List Int)(ha:a.length<=1000000000000)(hs:s.size<=1000000000):B0Q (codesT.zip lensT) a s=some (a++A0F s,()):=by
  simp only [B0Q,C5A];rw [show B2F s (codesT.zip lensT)=A0B s (lensT,()) (codesT,()) from funext fun l=>D5S s l];exact D2e s a ha hs
theorem D0c(s:X0)(hs:s.size<=1000000000):B4S (codesT.zip lensT) s=some (((A0F s).length:Int),()):=by
  simp only [B4S,C27];have h1:B9 (A3R s (codesT.zip lensT)) (0,0,())=some (bits s s.size,()):=by
    refine F4 (A3R s (codesT.zip lensT)) (fun k=>(bits s k,(k:Int),())) s.size _ (fun k hk=>?_) ?_
    · have h1:(k:Int)<(s.size:Int):=by omega
      have h2:(0:Int)<=(k:Int):=by omega
      have h3:=C9L s k;have h6:bt s k<((codesT.zip lensT).length:Int):=by rw [List.length_zip,A22,T9];have:=B6D s k;omega
      have h7:0<(codesT.zip lensT).length:=by rw [List.length_zip,A22,T9];omega
      have h8:=B0i s k;have h9:=B8r s k;simp only [A3R,A0 h1,A0 h2,A0 h3,A0 h6,A0 h7,cond_true,D7u s k (codesT.zip lensT) rfl];rw [w64 (by omega) (by omega),w64 (by omega) (by omega)];rfl
    · have h:¬ ((s.size:Nat):Int)<(s.size:Int):=by omega
      simp only [A3R,A3 h,cond_false]
  rw [h1];have h2:=B0i s s.size;simp only [A4];rw [w64 (n:=bits s s.size+7) (by omega) (by omega),D9O,Int.tdiv_eq_ediv_of_nonneg (by omega),w64 (by omega) (by omega)]
theorem E2I:∀ (k:Nat) (v n:Int),Byt (dr k v n).2.2
  | 0,v,n=>fun x hx=>by simp [dr] at hx
  | k+1,v,n=>by
    by_cases h:n>=8
    · have ih:=E2I k (M4 .i64 v (IntKind.i64.wrap ((IntKind.i64.wrap (1*2 ^ (min (IntKind.u64.wrap (n-8)).toNat IntKind.i64.bits)))-1))) (n-8)
      simp only [dr,if_pos h];intro x hx;rcases List.mem_cons.1 hx with rfl | hx
      · exact wrap_u8 _
      · exact ih x hx
    · simp only [dr,if_neg h]
      exact fun x hx=>by cases hx
theorem D0d(s:X0):∀ k,Byt (hst s k).2.2
  | 0=>fun x hx=>by simp [hst] at hx
  | k+1=>P2 (D0d s k) (E2I _ _ _)
theorem D9Q(s:X0):Byt (A0F s):=by
  unfold A0F;split
  · exact P2 (D0d s _) fun x hx=>by rcases List.mem_singleton.1 hx with rfl;exact wrap_u8 _
  · exact D0d s _
def C0T(s:X0):List Int:=if (A0F s).length<s.size then pfx 127 128 ((A0F s).length:Int)++A0F s else pfx 127 0 (s.size:Int)++bytesOf s
theorem D2f(s:X0):(C0T s).length<=s.size+5:=by
  unfold C0T;split
  · have:=A9E 127 128 ((A0F s).length:Int);simp only [List.length_append];omega
  · have:=A9E 127 0 (s.size:Int);simp only [List.length_append,bytesOf_length];omega
theorem C5S(s:X0):Byt (C0T s):=by
  unfold C0T;split
  · exact P2 (C4B _ _ _) (D9Q s)
  · exact P2 (C4B _ _ _) (D2S s)
theorem B4V(s:X0)(a:List Int)(ha:a.length<=100000000000)(hs:s.size<=16777216):A1Q a s=some (a++C0T s,()):=by
  simp only [A1Q,A9s,D9P s (by omega),A4];by_cases h:(A0F s).length<s.size
  · have h':((A0F s).length:Int)<(s.size:Int):=by omega
    have hp:=A9E 127 128 ((A0F s).length:Int);rw [A0 h',cond_true,(B8q ((A0F s).length:Int) a (by omega) (by omega) (by omega)).1];simp only [];rw [gA (by simp only [List.length_append];omega),C0T,if_pos h,List.append_assoc]
  · have h':¬ ((A0F s).length:Int)<(s.size:Int):=by omega
    have hp:=A9E 127 0 (s.size:Int);rw [A3 h',cond_false,(E2E (s.size:Int) a (by omega) (by omega) (by omega)).1];simp only [];rw [A0 (by simp only [List.length_append];omega),cond_true,C0T,if_neg h,List.append_assoc]
theorem B4W(s:X0)(a:List Int)(ha:a.length<=100000000000)(hs:s.size<=16777216):A6B a s=some (a++C0T s,()):=by
  simp only [A6B,B67,B8p,D0c s (by omega),A4];by_cases h:(A0F s).length<s.size
  · have h':((A0F s).length:Int)<(s.size:Int):=by omega
    have hp:=A9E 127 128 ((A0F s).length:Int);rw [A0 h',cond_true,(B8q ((A0F s).length:Int) a (by omega) (by omega) (by omega)).2];simp only [];rw [C9O s _ (by simp only [List.length_append];omega) (by omega)];simp only [C0T,if_pos h,List.append_assoc]
  · have h':¬ ((A0F s).length:Int)<(s.size:Int):=by omega
    have hp:=A9E 127 0 (s.size:Int);rw [A3 h',cond_false,(E2E (s.size:Int) a (by omega) (by omega) (by omega)).2];simp only [];rw [A0 (by simp only [List.length_append];omega),cond_true,C0T,if_neg h,List.append_assoc]
set_option maxRecDepth 100000
def fstS:X0:=⟨#[58,97,117,116,104,111,114,105,116,121,124,58,109,101,116,104,111,100,61,71,69,84,124,58,109,101,116,104,111,100,61,80,79,83,84,124,58,112,97,116,104,61,47,124,58,112,97,116,104,61,47,105,110,100,101,120,46,104,116,109,108,124,58,115,99,104,101,109,101,61,104,116,116,112,124,58,115,99,104,101,109,101,61,104,116,116,112,115,124,58,115,116,97,116,117,115,61,50,48,48,124,58,115,116,97,116,117,115,61,50,48,52,124,58,115,116,97,116,117,115,61,50,48,54,124,58,115,116,97,116,117,115,61,51,48,52,124,58,115,116,97,116,117,115,61,52,48,48,124,58,115,116,97,116,117,115,61,52,48,52,124,58,115,116,97,116,117,115,61,53,48,48,124,97,99,99,101,112,116,45,99,104,97,114,115,101,116,124,97,99,99,101,112,116,45,101,110,99,111,100,105,110,103,61,103,122,105,112,44,32,100,101,102,108,97,116,101,124,97,99,99,101,112,116,45,108,97,110,103,117,97,103,101,124,97,99,99,101,112,116,45,114,97,110,103,101,115,124,97,99,99,101,112,116,124,97,99,99,101,115,115,45,99,111,110,116,114,111,108,45,97,108,108,111,119,45,111,114,105,103,105,110,124,97,103,101,124,97,108,108,111,119,124,97,117,116,104,111,114,105,122,97,116,105,111,110,124,99,97,99,104,101,45,99,111,110,116,114,111,108,124,99,111,110,116,101,110,116,45,100,105,115,112,111,115,105,116,105,111,110,124,99,111,110,116,101,110,116,45,101,110,99,111,100,105,110,103,124,99,111,110,116,101,110,116,45,108,97,110,103,117,97,103,101,124,99,111,110,116,101,110,116,45,108,101,110,103,116,104,124,99,111,110,116,101,110,116,45,108,111,99,97,116,105,111,110,124,99,111,110,116,101,110,116,45,114,97,110,103,101,124,99,111,110,116,101,110,116,45,116,121,112,101,124,99,111,111,107,105,101,124,100,97,116,101,124,101,116,97,103,124,101,120,112,101,99,116,124,101,120,112,105,114,101,115,124,102,114,111,109,124,104,111,115,116,124,105,102,45,109,97,116,99,104,124,105,102,45,109,111,100,105,102,105,101,100,45,115,105,110,99,101,124,105,102,45,110,111,110,101,45,109,97,116,99,104,124,105,102,45,114,97,110,103,101,124,105,102,45,117,110,109,111,100,105,102,105,101,100,45,115,105,110,99,101,124,108,97,115,116,45,109,111,100,105,102,105,101,100,124,108,105,110,107,124,108,111,99,97,116,105,111,110,124,109,97,120,45,102,111,114,119,97,114,100,115,124,112,114,111,120,121,45,97,117,116,104,101,110,116,105,99,97,116,101,124,112,114,111,120,121,45,97,117,116,104,111,114,105,122,97,116,105,111,110,124,114,97,110,103,101,124,114,101,102,101,114,101,114,124,114,101,102,114,101,115,104,124,114,101,116,114,121,45,97,102,116,101,114,124,115,101,114,118,101,114,124,115,101,116,45,99,111,111,107,105,101,124,115,116,114,105,99,116,45,116,114,97,110,115,112,111,114,116,45,115,101,99,117,114,105,116,121,124,116,114,97,110,115,102,101,114,45,101,110,99,111,100,105,110,103,124,117,115,101,114,45,97,103,101,110,116,124,118,97,114,121,124,118,105,97,124,119,119,119,45,97,117,116,104,101,110,116,105,99,97,116,101]⟩
noncomputable def firstT:List A5:=match A6U with
  | some (x,_)=>x
  | none=> []
theorem D0e:A6U=some (firstT,()):=rfl
theorem A8A:firstT.length=61:=rfl
theorem D9R:(firstT.all fun f=>Nat.ble (f.1.size+f.2.size) 100)=true:=by kernel_rfl
def fstP:List (List UInt8):=Lib.splitK [124] 0 (Lib.count fstS.data.toList [124]) fstS.data.toList
theorem E2J:(fstP.map fun x=>((Lib.cut x [61]).1,(Lib.cut x [61]).2.1))=firstT.map fun f=>(f.1.data.toList,f.2.data.toList):=by kernel_rfl
theorem E4R:(fstP.all fun x=>Nat.ble x.length 100)=true:=by kernel_rfl
theorem D5T:(Lib.splitB ⟨#[124]⟩ 0 (Lib.countB fstS ⟨#[124]⟩) fstS).map (·.data.toList)=fstP:=by
  rw [Lib.splitB_data];rfl
theorem E4S:fstS.size<4294967281:=by
  have:Nat.ble (fstS.size+1) 4294967281=true:=by kernel_rfl
  exact Nat.le_of_ble_eq_true this
theorem V7{α β:Type}{f:α->Option (α⊕β)}{x y:α}(h:f x=some (.inl y)):B9 f x=B9 f y:=by rw [C1,h]
theorem E50{l:List UInt8}{b:X0}(h:l=b.data.toList):(⟨l.toArray⟩:X0)=b:=by
  subst h;simp
theorem D9S(s:X0)(P:List (List UInt8))(F:List A5)(hs:s.size<4294967281)(h0:(Lib.splitB ⟨#[124]⟩ 0 (Lib.countB s ⟨#[124]⟩) s).map (·.data.toList)=P)
    (hP:(P.map fun x=>((Lib.cut x [61]).1,(Lib.cut x [61]).2.1))=F.map fun f=>(f.1.data.toList,f.2.data.toList)) (hz:(P.all fun x=>Nat.ble x.length 100)=true) :
    ∃ c:List X0,A5q s ⟨#[124]⟩=some (c,())/\c.length=F.length/\∀ k (h:k<c.length) (h2:k<F.length),∃ b,C4D c[k] ⟨#[61]⟩=some (F[k].1,F[k].2,b,()):=by
  have h1:(decide (s.size<4294967281)&&decide (1<=(⟨#[124]⟩:X0).size))=true:=by
    rw [A0 hs];rfl
  refine ⟨_,by simp only [A5q,h1,cond_true];rfl,?_,fun k hk hk3=>?_⟩
  · have:=congrArg List.length h0
    rw [List.length_map] at this;rw [this];have h2:=congrArg List.length hP;rw [List.length_map,List.length_map] at h2;exact h2
  · generalize hc:Lib.splitB ⟨#[124]⟩ 0 (Lib.countB s ⟨#[124]⟩) s=c at *
    have e:=h0;have hk2:k<P.length:=by rw [<- e,List.length_map];exact hk
    have e1:(c[k]).data.toList=P[k]:=by
      have:(c.map (·.data.toList))[k]? = P[k]?:=by rw [e]
      rw [List.getElem?_map,List.getElem?_eq_getElem hk,List.getElem?_eq_getElem hk2] at this;simpa using this
    have e2:((Lib.cut P[k] [61]).1,(Lib.cut P[k] [61]).2.1)=(F[k].1.data.toList,F[k].2.data.toList):=by
      have:(P.map fun x=>((Lib.cut x [61]).1,(Lib.cut x [61]).2.1))[k]? = (F.map fun f=>(f.1.data.toList,f.2.data.toList))[k]?:=by rw [hP]
      rw [List.getElem?_map,List.getElem?_eq_getElem hk2,List.getElem?_map,List.getElem?_eq_getElem hk3] at this;simpa only [Option.map_some,Option.some.injEq] using this
    have e3:(c[k]).size<=100:=by
      have h4:=List.all_eq_true.1 hz P[k] (List.getElem_mem hk2);have h5:=Nat.le_of_ble_eq_true h4;rw [<- e1] at h5;exact h5
    refine ⟨(Lib.cut P[k] [61]).2.2,?_⟩;have e4:(c[k]).size<4294967281:=by omega
    have e5:(⟨#[61]⟩:X0).data.toList = [61]:=rfl;simp only [C4D,A0 e4,cond_true,e1,e5];rw [E50 (congrArg Prod.fst e2),E50 (congrArg Prod.snd e2)]
theorem B0j:V2=some (firstT,()):=by
  obtain ⟨c,hc,hcl,hca⟩:=D9S fstS fstP firstT E4S D5T E2J E4R;have e0:V2=A4 (A5q fstS ⟨#[124]⟩) fun c7=>B9 (W0 C4D c7) (0,[],()):=rfl
  rw [e0,hc];simp only [A4];have hF:=A8A;generalize firstT=F at *
  refine (F4 (W0 C4D (c,())) (fun k=>((k:Int),F.take k,())) 61 (F,()) (fun k hk=>?_) ?_)
  · have h1:(k:Int)<(c.length:Int):=by omega
    have h2:(0:Int)<=(k:Int):=by omega
    obtain ⟨b,hb⟩:=hca k (by omega) (by omega);have h6:rd .str c (k:Int)=c[k]'(by omega):=A49 (k:=.str) (by omega);simp only [W0,A0 h1,A0 h2,cond_true,h6,hb,A4];rw [D2a (by simp;omega),w64 (by omega) (by omega)];have e7:F.take (k+1)=F.take k ++ [(F[k]'(by omega))]:=by
      rw [List.take_succ_eq_append_getElem (by omega)]
    rw [e7];rfl
  · have h1:¬ ((61:Nat):Int)<(c.length:Int):=by omega
    simp only [W0,A3 h1,cond_false];rw [List.take_of_length_le (by omega)]
theorem D2g(F T:List A5)(h1:F.length<=1000000000)(h2:T.length<=1000000000):J9 [F,T]=some (F++T,()):=by
  have r0:rd (.sl 150 A6) ([F,T]:List (List A5)) 0=F:=rfl;have r1:rd (.sl 150 A6) ([F,T]:List (List A5)) 1=T:=rfl;have hl:(([F,T]:List (List A5)).length:Int)=2:=rfl;have d0:decide ((0:Int)<2)=true:=rfl;have d1:decide ((0:Int)<=0)=true:=rfl;have d2:decide ((1:Int)<2)=true:=rfl;have d3:decide ((0:Int)<=1)=true:=rfl;have a1:B9 (E6 [F,T]) (0,0,())=some ((F.length:Int)+T.length,()):=by
    rw [V7 (y:=((F.length:Int),1,())) (by
      simp only [E6,hl,r0,d0,d1,cond_true,Int.zero_add];rw [w64 (n:=(F.length:Int)) (by omega) (by omega),A3 (p:=(F.length:Int)<0) (by omega)];rfl)]
    rw [V7 (y:=((F.length:Int)+T.length,2,())) (by
      simp only [E6,hl,r1,d2,d3,cond_true];rw [w64 (n:=(F.length:Int)+T.length) (by omega) (by omega),A3 (p:=(F.length:Int)+T.length<0) (by omega)];rfl)]
    rw [C1];rfl
  have a2:A6f ([]:List A5) ((F.length:Int)+T.length)=some ([],()):=by
    have:(([]:List A5).isEmpty&&decide (0<=(F.length:Int)+T.length)&&decide ((F.length:Int)+T.length<=1000000000000))=true:=by
      rw [A0 (by omega),A0 (by omega)];rfl
    simp only [A6f,this,cond_true]
  have a3:B9 (E7 [F,T]) (0,[],())=some (F++T,()):=by
    rw [V7 (y:=(1,F,())) (by
      simp only [E7,hl,r0,d0,d1,cond_true];rw [D2a (by simp;omega)];rfl)]
    rw [V7 (y:=(2,F++T,())) (by
      simp only [E7,hl,r1,d2,d3,cond_true];rw [D2a (by omega)];rfl)]
    rw [C1];rfl
  simp only [J9,R1,a1,A4];rw [show L1=A6f from rfl,a2];exact a3
def B2k(all:List A5)(f:A5):Nat->Int
  | 0=>0
  | k+1=>if B2k all f k=0 then (if ((rd A6 all (k:Int)).1.toList == f.1.toList) then (k:Int)+1 else 0) else B2k all f k
theorem D2h(all:List A5)(f:A5):∀ k:Nat,0<=B2k all f k/\B2k all f k<=k
  | 0=>⟨Int.le_refl _,Int.le_refl _⟩
  | k+1=>by
    have:=D2h all f k;simp only [B2k];split
    · split<;>omega
    · omega
def exa(all:List A5)(f:A5)(k:Nat):Bool:=!eqB [(rd A6 all (k:Int)).1,(rd A6 all (k:Int)).2] [f.1,f.2]
def fnd(all:List A5)(f:A5)(k:Nat):(Int×Unit)⊕(Int×Bool×Unit):=if k<all.length then .inr ((k:Int)+1,true,()) else .inl (B2k all f all.length,())
def B0k(all:List A5)(f:A5):Int×Bool:=
  if L6 (exa all f) 0 all.length<all.length then ((L6 (exa all f) 0 all.length:Int)+1,true) else (B2k all f all.length,false)
theorem D9T(all:List A5)(f:A5):0<=(B0k all f).1/\(B0k all f).1<=all.length:=by
  unfold B0k;split
  · exact ⟨by simp only [];omega,by simp only [];omega⟩
  · exact D2h all f all.length
theorem D2i(all:List A5)(f:A5)(hl:all.length<=1000000000)(k:Nat)(hk:k<all.length) :
    V6 (all,()) f (B2k all f k,(k:Int),())=if exa all f k then some (.inl (B2k all f (k+1),((k+1:Nat):Int),())) else some (.inr (fnd all f k)):=by
  have h1:(k:Int)<(all.length:Int):=by omega
  have h2:(0:Int)<=(k:Int):=by omega
  simp only [V6,A0 h1,A0 h2,cond_true];rw [w64 (by omega) (by omega)];unfold exa fnd;cases eqB [(rd A6 all (k:Int)).1,(rd A6 all (k:Int)).2] [f.1,f.2] with
  | true=>simp only [cond_true,Bool.not_true,if_pos hk];rfl
  | false=>
    simp only [cond_false,Bool.not_false,if_true,B2k];by_cases hb:B2k all f k=0
    · simp only [hb,decide_true,cond_true,if_true]
      cases ((rd A6 all (k:Int)).1.toList == f.1.toList)<;>simp
    · simp only [A3 hb,cond_false,if_neg hb]
      rfl
theorem D80(all:List A5)(f:A5):(D4 (some (fnd all f (L6 (exa all f) 0 all.length))) fun (m1:Int×Unit)=>some (m1.1,false,()))=some ((B0k all f).1,(B0k all f).2,()):=by
  unfold B0k fnd;by_cases h:L6 (exa all f) 0 all.length<all.length
  · simp only [if_pos h,D4]
  · simp only [if_neg h,D4]
theorem D5U(all:List A5)(f:A5)(hl:all.length<=1000000000):(D4 (B9 (V6 (all,()) f) (0,0,())) fun (m1:Int×Unit)=>some (m1.1,false,()))=some ((B0k all f).1,(B0k all f).2,()):=by
  have:=A9C (V6 (all,()) f) (fun k=>(B2k all f k,(k:Int),())) all.length (fnd all f) (exa all f) (fun k hk=>D2i all f hl k hk) (by
    have h1:¬ ((all.length:Nat):Int)<(all.length:Int):=by omega
    have h2:¬ all.length<all.length:=by omega
    simp only [V6,A3 h1,cond_false,fnd,if_neg h2])
  rw [show ((0:Int),(0:Int),())=(fun k:Nat=>(B2k all f k,(k:Int),())) 0 from rfl,this];exact D80 all f
theorem C5T(t:A9)(f:A5)(h:t.2.length<=900000000):A9v t f=some ((B0k (firstT++t.2) f).1,(B0k (firstT++t.2) f).2,()):=by
  have hF:=A8A;have:=D5U (firstT++t.2) f (by rw [List.length_append];omega);simp only [A9v,B64,B0j,A4,D2g firstT t.2 (by omega) (by omega)];exact this
theorem E4T{F T:List A5}{k:Nat}(h:k<F.length):rd A6 (F++T) (k:Int)=rd A6 F (k:Int):=by
  unfold rd;simp only [Int.toNat_natCast,List.getD_eq_getElem?_getD];rw [List.getElem?_append_left h]
theorem E4U{F T:List A5}{k:Nat}{i:Int}(h:F.length<=k)(hi:i=(k:Int)-F.length):rd A6 (F++T) (k:Int)=rd A6 T i:=by
  subst hi;unfold rd;rw [show ((k:Int)-F.length).toNat=k-F.length by omega];simp only [Int.toNat_natCast,List.getD_eq_getElem?_getD];rw [List.getElem?_append_right h]
theorem D2j(t:A9)(F:List A5)(hF:F.length=61)(f:A5)(hl:t.2.length<=900000000)(k:Nat)(hk:k<(F++t.2).length) :
    A1A t (F,()) f (B2k (F++t.2) f k,(k:Int)+1,())=if exa (F++t.2) f k then some (.inl (B2k (F++t.2) f (k+1),((k+1:Nat):Int)+1,())) else some (.inr (fnd (F++t.2) f k)):=by
  have hk':=hk;rw [List.length_append,hF] at hk';have h0:IntKind.i64.wrap (61+(t.2.length:Int))=61+t.2.length:=w64 (by omega) (by omega);have h1:(k:Int)+1<=61+t.2.length:=by omega
  have hm:(bif (decide ((k:Int)+1<=61)) then bif decide (0<=(IntKind.i64.wrap ((k:Int)+1-1))) then bif decide ((IntKind.i64.wrap ((k:Int)+1-1))<(F.length:Int)) then some ((rd A6 F (IntKind.i64.wrap ((k:Int)+1-1))).1,(rd A6 F (IntKind.i64.wrap ((k:Int)+1-1))).2,()) else none else none else bif decide (0<=(IntKind.i64.wrap ((k:Int)+1-62))) then bif decide ((IntKind.i64.wrap ((k:Int)+1-62))<(t.2.length:Int)) then some ((rd A6 t.2 (IntKind.i64.wrap ((k:Int)+1-62))).1,(rd A6 t.2 (IntKind.i64.wrap ((k:Int)+1-62))).2,()) else none else none)
      = some ((rd A6 (F++t.2) (k:Int)).1,(rd A6 (F++t.2) (k:Int)).2,()):=by
    by_cases h2:(k:Int)+1<=61
    · have e1:IntKind.i64.wrap ((k:Int)+1-1)=(k:Int):=by rw [w64 (by omega) (by omega)];omega
      rw [A0 h2,cond_true,e1,A0 (by omega),A0 (by omega),E4T (by omega)];rfl
    · have e1:IntKind.i64.wrap ((k:Int)+1-62)=(k:Int)-61:=by rw [w64 (by omega) (by omega)];omega
      rw [A3 h2,cond_false,e1,A0 (by omega),A0 (by omega),E4U (T:=t.2) (i:=(k:Int)-61) (by omega) (by omega)];rfl
  simp only [A1A,h0,A0 h1,cond_true];rw [hm];simp only [A4];rw [w64 (by omega) (by omega)];unfold exa fnd;cases eqB [(rd A6 (F++t.2) (k:Int)).1,(rd A6 (F++t.2) (k:Int)).2] [f.1,f.2] with
  | true=>simp only [cond_true,Bool.not_true,if_pos hk];rfl
  | false=>
    simp only [cond_false,Bool.not_false,if_true,B2k];by_cases hb:B2k (F++t.2) f k=0
    · simp only [hb,decide_true,cond_true,if_true]
      cases ((rd A6 (F++t.2) (k:Int)).1.toList == f.1.toList)<;>simp
    · simp only [A3 hb,cond_false,if_neg hb]
      rfl
theorem C5U(t:A9)(f:A5)(h:t.2.length<=900000000):A3N t f=some ((B0k (firstT++t.2) f).1,(B0k (firstT++t.2) f).2,()):=by
  have hF:=A8A;simp only [A3N,A9q,D0e,A4];generalize firstT=F at *
  have:=A9C (A1A t (F,()) f) (fun k=>(B2k (F++t.2) f k,(k:Int)+1,())) (F++t.2).length (fnd (F++t.2) f) (exa (F++t.2) f) (fun k hk=>D2j t F hF f h k hk) (by
    have h0:IntKind.i64.wrap (61+(t.2.length:Int))=61+t.2.length:=w64 (by omega) (by omega);have h1:¬ (((F++t.2).length:Nat):Int)+1<=61+t.2.length:=by rw [List.length_append];omega
    have h2:¬ (F++t.2).length<(F++t.2).length:=by omega
    simp only [A1A,h0,A3 h1,cond_false,fnd,if_neg h2])
  rw [show ((0:Int),(1:Int),())=(fun k:Nat=>(B2k (F++t.2) f k,(k:Int)+1,())) 0 from rfl,this];exact D80 (F++t.2) f
set_option maxRecDepth 100000
def ofF(f:A5):Int:=(f.1.size:Int)+f.2.size+32
def szT:List A5->Int
  | []=>0
  | f::fs=>ofF f+szT fs
theorem B2l(f:A5):32<=ofF f:=by unfold ofF;omega
theorem A11:∀ fs:List A5,32*(fs.length:Int)<=szT fs
  | []=>by simp [szT]
  | f::fs=>by
    have:=A11 fs;have:=B2l f;simp only [szT,List.length_cons];omega
theorem D0f:∀ a b:List A5,szT (a++b)=szT a+szT b
  | [],b=>by simp [szT]
  | f::a,b=>by simp only [List.cons_append,szT,D0f a b];omega
theorem C5V(fs:List A5)(i:Nat):szT (fs.take i)<=szT fs:=by
  have h:=D0f (fs.take i) (fs.drop i);rw [List.take_append_drop] at h;have:=A11 (fs.drop i);omega
theorem D2k(fs:List A5){i j:Nat}(h:i<=j):szT (fs.take i)<=szT (fs.take j):=by
  have:=C5V (fs.take j) i;rw [List.take_take,Nat.min_eq_left h] at this;exact this
theorem C5W(fs:List A5){i:Nat}(h:i<fs.length):szT (fs.take (i+1))=szT (fs.take i)+ofF fs[i]:=by
  rw [List.take_succ_eq_append_getElem h,D0f];simp [szT]
theorem D81(f:A5)(h:ofF f<=10000000000000):A6S f=some (ofF f,()):=by
  unfold ofF at *
  simp only [A6S,B8i];rw [w64 (n:=(f.1.size:Int)+f.2.size) (by omega) (by omega),w64 (by omega) (by omega)]
theorem C2E(f:A5)(h:ofF f<=10000000000000):A1r f=some (ofF f,()):=D81 f h
theorem B2m(m:Int)(fs:List A5)(h:szT fs<=10000000000000):A0s (m,fs)=some (szT fs,()):=by
  have hl:=A11 fs;simp only [A0s,B7h];refine F4 (A2L A6S (m,fs)) (fun i=>(szT (fs.take i),(i:Int),())) fs.length _ (fun i hi=>?_) ?_
  · have h1:(i:Int)<(fs.length:Int):=by omega
    have h2:(0:Int)<=(i:Int):=by omega
    have h3:=C5W fs hi;have h4:=C5V fs (i+1);have h5:=A11 (fs.take i);have h6:rd A6 fs (i:Int)=fs[i]:=A49 (k:=A6) hi;have h7:=B2l fs[i];simp only [A2L,A0 h1,A0 h2,cond_true,h6];rw [D81 _ (by omega)];simp only [A4];rw [w64 (n:=szT (fs.take i)+ofF fs[i]) (by omega) (by omega),w64 (by omega) (by omega),h3];rfl
  · have h1:¬ ((fs.length:Nat):Int)<(fs.length:Int):=by omega
    simp only [A2L,A3 h1,cond_false];rw [List.take_of_length_le (by omega)]
theorem D2l(xs:List A5)(h:xs.length<=1000000000):C2 xs=some (xs,()):=by
  simp only [C2,K4];rw [D2a (by simp;omega)];by_cases h0:0<xs.length
  · rw [A0 h0,cond_true];rfl
  · rw [A3 h0,cond_false]
    have:xs = []:=List.length_eq_zero_iff.1 (by omega);subst this;simp [eqO]
theorem C0U(t:A9)(h:t.2.length<=1000000000):A0t t=some (t,()):=by
  simp only [A0t,B7i];rw [D2a (by simp;omega)];rfl
theorem A2j(t:A9)(h:t.2.length<=1000000000):L2 t=some (t,()):=by
  simp only [L2,A9h,D2l t.2 h,A4]
theorem E2K(m:Int)(fs:List A5)(hm:0<=m)(hm2:m<=1000000)(hs:szT fs<=1000000000) :
    ∃ k,k<=fs.length/\(k<fs.length->decide (0<=m-szT (fs.take (k+1)))=false)/\L3 (m,fs)=some ((m,fs.take k),())/\szT (fs.take k)<=m:=by
  have hl:=A11 fs;obtain ⟨k,hk,ht,hf,he⟩:=A5m (A2D A1r C2 (m,fs)) (fun i=>(m-szT (fs.take i),(i:Int),())) fs.length (fun i=>((m,fs.take i),())) (fun i=>decide (0<=m-szT (fs.take (i+1)))) (fun i hi=>by
    have h1:(i:Int)<(fs.length:Int):=by omega
    have h2:(0:Int)<=(i:Int):=by omega
    have h22:(i:Int)<=(fs.length:Int):=by omega
    have h3:=C5W fs hi;have h4:=C5V fs (i+1);have h5:=A11 (fs.take i);have h6:rd A6 fs (i:Int)=fs[i]:=A49 (k:=A6) hi;have h7:=B2l fs[i];have h8:=A11 (fs.take (i+1));simp only [A2D,A0 h1,A0 h2,A0 h22,cond_true,h6,List.drop_zero,Int.toNat_natCast];rw [C2E _ (by omega),D2l _ (by simp;omega)];simp only [A4];rw [w64 (n:=m-szT (fs.take i)-ofF fs[i]) (by omega) (by omega),w64 (n:=(i:Int)+1) (by omega) (by omega)];by_cases hq:0<=m-szT (fs.take (i+1))
    · rw [A3 (by omega),cond_false,A0 hq,if_pos rfl,h3]
      rw [show m-szT (fs.take i)-ofF fs[i]=m-(szT (fs.take i)+ofF fs[i]) by omega];rfl
    · rw [A0 (by omega),cond_true,A3 hq]
      rfl) (by
    have h1:¬ ((fs.length:Nat):Int)<(fs.length:Int):=by omega
    simp only [A2D,A3 h1,cond_false];rw [List.take_of_length_le (by omega)])
  have hkm:szT (fs.take k)<=m:=by
    cases k with
    | zero=>simp [szT];omega
    | succ k=>have:=of_decide_eq_true (ht k (by omega));omega
  refine ⟨k,hk,hf,?_,hkm⟩;simp only [L3,A7v];have e0:(m,(0:Int),())=(fun i:Nat=>(m-szT (fs.take i),(i:Int),())) 0:=by simp [szT]
  rw [e0];exact he
theorem E5i(m:Int)(fs:List A5)(hm:0<=m)(hm2:m<=1000000)(hs:szT fs<=1000000000) :
    ∃ k,L3 (m,fs)=some ((m,fs.take k),())/\A1B (m,fs)=some ((m,fs.take k),())/\szT (fs.take k)<=m:=by
  have hl:=A11 fs;obtain ⟨k,hk,hf,hi,hkm⟩:=E2K m fs hm hm2 hs;refine ⟨k,hi,?_,hkm⟩
  · simp only [A1B,A6l]
    refine D9H (A4v A0s) (fun x=>x.2.1.length) (fun x=>x.1=m/\∃ j,k<=j/\j<=fs.length/\x.2.1=fs.take j) _ (fun x hx=>?_) (m,fs,()) ⟨rfl,fs.length,hk,Nat.le_refl _,by rw [List.take_of_length_le (by omega)]⟩;obtain ⟨a,b,u⟩:=x;obtain ⟨e1,j,hj1,hj2,e2⟩:=hx;simp only at e1 e2;subst e1 e2;have h4:=C5V fs j;have hjl:(fs.take j).length=j:=by rw [List.length_take];omega
    simp only [A4v];rw [B2m _ _ (by omega)];simp only [A4];by_cases hq:szT (fs.take j)>a
    · left
      have hjk:k<j:=by
        rcases Nat.lt_or_ge k j with h | h
        · exact h
        · have:=D2k fs h;omega
      have e3:IntKind.i64.wrap (((fs.take j).length:Int)-1)=((j-1:Nat):Int):=by rw [w64 (by omega) (by omega)];omega
      rw [A0 hq,cond_true,e3,A0 (by omega),A0 (by omega)];refine ⟨(a,fs.take (j-1),()),?_,⟨rfl,j-1,by omega,by omega,rfl⟩,by simp only [List.length_take];omega⟩;simp only [cond_true,Int.toNat_natCast,List.drop_zero,List.take_take];rw [Nat.min_eq_left (by omega)]
    · right
      rw [A3 hq,cond_false];have hjk:j=k:=by
        rcases Nat.lt_or_ge k j with h | h
        · have h5:=of_decide_eq_false (hf (by omega))
          have:=D2k fs (i:=k+1) (j:=j) (by omega);omega
        · omega
      rw [hjk]
theorem E6P(t:A9)(f:A5)(hm:0<=t.1)(hm2:t.1<=1000000)(hs:szT t.2+ofF f<=1000000000) :
    ∃ T,O2 t f=some ((t.1,T),())/\szT T<=t.1:=by
  obtain ⟨m,fs⟩:=t;have hl:=A11 fs;have hf:=B2l f;simp only at hm hm2 hs;obtain ⟨k,_,_,h1,h3⟩:=E2K m (f::fs) hm hm2 (by simp only [szT];omega);refine ⟨(f::fs).take k,?_,h3⟩;have e:B8c fs 0 [f]=some (f::fs,()):=by
    simp only [B8c];rw [A0 (by omega),A0 (by omega),A0 (by simp),A0 (by simp;omega)];rfl
  simp only [O2,A5w,show D8=B8c from rfl,e,A4,h1]
theorem E5j(t:A9)(f:A5)(hm:0<=t.1)(hm2:t.1<=1000000)(hs:szT t.2+ofF f<=1000000000) :
    ∃ T,O2 t f=some ((t.1,T),())/\A1C t f=some ((t.1,T),())/\szT T<=t.1:=by
  obtain ⟨m,fs⟩:=t;have hl:=A11 fs;have hf:=B2l f;simp only at hm hm2 hs;obtain ⟨k,h1,h2,h3⟩:=E5i m (f::fs) hm hm2 (by simp only [szT];omega);refine ⟨(f::fs).take k,?_,?_,h3⟩
  · have e:B8c fs 0 [f]=some (f::fs,()):=by
      simp only [B8c];rw [A0 (by omega),A0 (by omega),A0 (by simp),A0 (by simp;omega)];rfl
    simp only [O2,A5w,show D8=B8c from rfl,e,A4,h1]
  · simp only [A1C,A6m]
    rw [D2a (by simp;omega)];simp only [List.singleton_append,List.cons_append,List.nil_append,h2,A4]
def T6(t:A9):Prop:=0<=t.1/\t.1<=4096/\szT t.2<=t.1
theorem B2n{t:A9}(h:T6 t):t.2.length<=128:=by
  have:=A11 t.2;obtain ⟨h0,h1,h2⟩:=h;omega
theorem E2L{t:A9}(h:T6 t):Q4 t=some (true,()):=by
  obtain ⟨h0,h1,h2⟩:=h;obtain ⟨m,fs⟩:=t;simp only at h0 h1 h2;simp only [Q4,A6T,A1f,A4,B2m m fs (by omega)];rw [A0 ⟨h0,h1⟩,A0 h2];rfl
theorem E5k{t:A9}(hs:szT t.2<=10000000000000)(h:Q4 t=some (true,())):T6 t:=by
  obtain ⟨m,fs⟩:=t;simp only at hs;simp only [Q4,A6T,A1f,A4,B2m m fs hs] at h;by_cases h1:0<=m/\m<=4096
  · rw [A0 h1,cond_true] at h
    simp only [Option.some.injEq,Prod.mk.injEq,decide_eq_true_eq,and_true] at h;exact ⟨h1.1,h1.2,h⟩
  · rw [A3 h1,cond_false] at h
    simp at h
theorem bO{A B:Type}(x:A)(f:A->Option B):A4 (some x) f=f x:=rfl
theorem bSl{A B:Type}(x:A)(f:A->Option B):D4 (some (Sum.inl x)) f=f x:=rfl
theorem bSr{A B:Type}(y:B)(f:A->Option B):D4 (some (Sum.inr y)) f=some y:=rfl
theorem put_eq(t:A9)(f:A5)(q:Int)(hq:q=1\/q=3)(ht:T6 t)(h1:f.1.size<=10000)(h2:f.2.size<=10000)(b:List Int)(hb:b.length<=1000000000) :
    ∃ r T,J4 t f q=some (r,(t.1,T),())/\A1S t b f q=some (b++r,(t.1,T),())/\T6 (t.1,T)/\r.length<=30000/\Byt r:=by
  have hl:=B2n ht;have hr:=D9T (firstT++t.2) f;have hF:=A8A;rw [List.length_append] at hr;obtain ⟨ht0,ht1,ht2⟩:=ht;have hcp:=C0U t (by omega);have hok:=E2L ⟨ht0,ht1,ht2⟩;have hfs:=C5U t f (by omega);have hfi:=C5T t f (by omega);generalize B0k (firstT++t.2) f=w at *
  obtain ⟨j,found⟩:=w;simp only at hr hfs hfi;have hq13:1<=q/\q<=3:=by omega
  have hcase:(found=true/\¬ q=3)\/¬ (found=true/\¬ q=3):=Classical.em _;simp only [J4,A45,A1S,B68,hcp,hok,hfs,hfi,A1f,A0 hq13,bO,bSl,bSr,Bool.not_true,cond_false];rcases hcase with ⟨hf,hq3⟩ | hnf
  · subst hf
    have hj:¬ (j:Int)<0:=by omega
    simp only [A3 hq3,cond_true,Bool.not_false];rw [(B8q j [] (by omega) (by omega) (by simp)).1,(B8q j b (by omega) (by omega) (by omega)).2];have:=A9E 127 128 j;exact ⟨pfx 127 128 j,t.2,rfl,rfl,⟨ht0,ht1,ht2⟩,by omega,C4B _ _ _⟩
  · -- in full
    have e1:(bif found then some ((!decide (q=3)),()) else some (false,()))=some (false,()):=by
      cases found with
      | false=>rfl
      | true=>
        have:q=3:=by
          rcases Classical.em (q=3) with h | h
          · exact h
          · exact absurd ⟨rfl,h⟩ hnf
        rw [this];rfl
    have e2:(bif found then bif (!decide (q=3)) then (A4 (A1R b 7 128 j) fun c28=>some (.inr (c28.1,t,()))) else some (.inl (())) else some (.inl (())))=some (Sum.inl (β:=List Int×A9×Unit) ()):=by
      cases found with
      | false=>rfl
      | true=>
        have:q=3:=by
          rcases Classical.em (q=3) with h | h
          · exact h
          · exact absurd ⟨rfl,h⟩ hnf
        rw [this];rfl
    rw [e1];simp only [cond_false,bO,bSl,bSr];rw [e2];simp only [bO,bSl,bSr];obtain ⟨n,fl,M,hP,hM1,hM2⟩:∃ n fl M,Pf n fl M/\B2V q=some (n,fl,())/\C5L q=some (n,fl,()):=by
      rcases hq with rfl | rfl
      · exact ⟨6,64,63,E4P,rfl,rfl⟩
      · exact ⟨4,16,15,E4Q,rfl,rfl⟩
    rw [hM1,hM2];simp only [bO,bSl,bSr];have p1:=(hP j [] (by omega) (by omega) (by simp)).1;have p2:=(hP j b (by omega) (by omega) (by omega)).2;rw [p1,p2];have hpl:=A9E M fl j;have hpb:=C4B M fl j;generalize pfx M fl j=p at *
    simp only [List.nil_append,bO];obtain ⟨p',hp1,hp2,hp3,hp4⟩:∃ p',(bif (decide (j=0)) then (A4 (A1Q p f.1) fun c56=>some (c56.1,())) else some (p,()))=some (p',())/\(bif (decide (j=0)) then (A4 (A6B (b++p) f.1) fun c56=>some (c56.1,())) else some (b++p,()))=some (b++p',())/\p'.length<=10020/\Byt p':=by
      by_cases hj:j=0
      · refine ⟨p++C0T f.1,?_,?_,?_,P2 hpb (C5S _)⟩
        · rw [A0 hj,cond_true,B4V _ _ (by omega) (by omega),bO]
        · rw [A0 hj,cond_true,B4W _ _ (by simp only [List.length_append];omega) (by omega),bO]
          simp only [List.append_assoc]
        · have:=D2f f.1
          simp only [List.length_append];omega
      · exact ⟨p,by rw [A3 hj,cond_false],by rw [A3 hj,cond_false],by omega,hpb⟩
    rw [hp1,hp2];simp only [bO,bSl,bSr];rw [B4V _ _ (by omega) (by omega),B4W _ _ (by simp only [List.length_append];omega) (by omega)];have hsl:=D2f f.2;simp only [bO,bSl,bSr];rcases hq with rfl | rfl
    · obtain ⟨T,a1,a2,a3⟩:=E5j t f ht0 (by omega) (by unfold ofF;omega)
      rw [a1,a2];exact ⟨p'++C0T f.2,T,rfl,by simp only [List.append_assoc];rfl,⟨ht0,ht1,a3⟩,by simp only [List.length_append];omega,P2 hp4 (C5S _)⟩
    · exact ⟨p'++C0T f.2,t.2,rfl,by simp only [List.append_assoc];rfl,⟨ht0,ht1,ht2⟩,by simp only [List.length_append];omega,P2 hp4 (C5S _)⟩
set_option maxRecDepth 100000
def itB(n:Int):X0:=⟨(Lib.itoa n).toArray⟩
theorem C9P{n:Int}(h0:0<=n)(h1:n<10):itB n=strOf [IntKind.u8.wrap (IntKind.i64.wrap (48+n))]:=by
  have h2:IntKind.u8.wrap (48+n)=48+n:=by
    simp only [IntKind.wrap,IntKind.bits,IntKind.signed,Bool.false_and];simp;omega
  rw [w64 (by omega) (by omega),h2];unfold itB strOf strOfNums Lib.itoa;rw [if_neg (by omega),Lib.decDigits_one (by omega)];simp only [List.map_cons,List.map_nil];rw [show (48+n).toNat=48+n.toNat by omega]
theorem D82{n:Int}(h1:¬ n<10):itB n=itB (n / 10)++strOf [IntKind.u8.wrap (IntKind.i64.wrap (48+n % 10))]:=by
  have h2:IntKind.u8.wrap (48+n % 10)=48+n % 10:=by
    simp only [IntKind.wrap,IntKind.bits,IntKind.signed,Bool.false_and];simp;omega
  rw [w64 (by omega) (by omega),h2];apply ByteArray.ext;rw [ByteArray.data_append];unfold itB strOf strOfNums Lib.itoa;rw [if_neg (by omega),if_neg (by omega),Lib.decDigits,dif_neg (by omega)];simp only [List.map_cons,List.map_nil];rw [show (48+n % 10).toNat=48+n.toNat % 10 by omega,show (n / 10).toNat=n.toNat / 10 by omega];simp
theorem B4a(x:Int):(strOf [x]).size=1:=by rw [A88];rfl
theorem A3U(f:Int->Option (X0×Unit))(N:Int)(s:Nat)(hs:s<=1000)(hN:N<=1000000000000)(hf:∀ n,1<=n->n<N->f n=some (itB n,())/\(itB n).size<=s)(n:Int)(h0:0<=n)(h1:n<10*N) :
    A0c f n=some (itB n,())/\(itB n).size<=s+1:=by
  by_cases h:n<10
  · refine ⟨?_,?_⟩
    · simp only [A0c,A0 h,cond_true]
      rw [<- C9P h0 h]
    · rw [C9P h0 h,B4a];omega
  · obtain ⟨e,hl⟩:=hf (n / 10) (by omega) (by omega)
    have e1:n.tdiv 10=n / 10:=Int.tdiv_eq_ediv_of_nonneg h0;have e2:n.tmod 10=n % 10:=Int.tmod_eq_emod_of_nonneg h0;refine ⟨?_,by rw [D82 h,ByteArray.size_append,B4a];omega⟩;simp only [A0c,A3 h,cond_false,e1,e2];rw [w64 (n:=n / 10) (by omega) (by omega),e];simp only [A4,B4a];rw [A3 (by simp only [IntKind.max,IntKind.signed,IntKind.bits];simp;omega),cond_false,<- D82 h]
theorem E4V(n:Int)(h0:0<=n)(h1:n<=4294967295):B2a n=some (itB n,())/\(itB n).size<=10:=by
  have a1:=A3U A4f 1 0 (by omega) (by omega) (fun n h h'=>by omega);have a2:=A3U A2N 10 1 (by omega) (by omega) (fun n h h'=>a1 n (by omega) (by omega));have a3:=A3U A2P 100 2 (by omega) (by omega) (fun n h h'=>a2 n (by omega) (by omega));have a4:=A3U A2R 1000 3 (by omega) (by omega) (fun n h h'=>a3 n (by omega) (by omega));have a5:=A3U A2T 10000 4 (by omega) (by omega) (fun n h h'=>a4 n (by omega) (by omega));have a6:=A3U A2V 100000 5 (by omega) (by omega) (fun n h h'=>a5 n (by omega) (by omega));have a7:=A3U A2a 1000000 6 (by omega) (by omega) (fun n h h'=>a6 n (by omega) (by omega));have a8:=A3U A2c 10000000 7 (by omega) (by omega) (fun n h h'=>a7 n (by omega) (by omega));have a9:=A3U A2e 100000000 8 (by omega) (by omega) (fun n h h'=>a8 n (by omega) (by omega));have a10:=A3U A2g 1000000000 9 (by omega) (by omega) (fun n h h'=>a9 n (by omega) (by omega));exact a10 n h0 (by omega)
theorem D83(n:Int)(h0:0<=n)(h1:n<=4294967295):A0Q n=some (itB n,()):=by
  have e:(decide (-9223372036854775808<=n)&&decide (n<=9223372036854775807))=true:=by
    rw [A0 (by omega),A0 (by omega)];rfl
  rw [show A0Q n=C4E n from rfl];simp only [C4E,e,cond_true];rfl
theorem D2m{r:A6P}(h:B03 r=true):(1<=r.1/\r.1<=6)/\r.2.1.size<=8/\0<=r.2.2/\r.2.2<=4294967295:=by
  simp only [B03,idB,Bool.and_eq_true,decide_eq_true_eq] at h;refine ⟨h.1.1,by omega,h.2.1,?_⟩;have:=h.2.2;unfold C4A at this;split at this
  · omega
  · split at this
    · omega
    · split at this<;>omega
theorem D2n(r:A6P)(h:B03 r=true):∃ fs,A4w r=some (fs,())/\B2h r=some (fs,())/\fs.length<=4/\∀ f∈fs,f.1.size<=10000/\f.2.size<=10000:=by
  obtain ⟨hr,hs,hn0,hn1⟩:=D2m h;have hsz:r.2.1.size<=maxLen:=by simp only [maxLen];omega
  obtain ⟨me,nm,mo,e1,e2,e3,e4,hme,hnm⟩:∃ me nm mo,A68 r.1=some (me,())/\M2 r.1=some (me,())/\A99 r.1=some (nm,())/\L9 r.1=some (nm,mo,())/\me.size<=10/\nm.size<=20:=by
    have:r.1=1\/r.1=2\/r.1=3\/r.1=4\/r.1=5\/r.1=6:=by omega
    rcases this with e | e | e | e | e | e<;>rw [e]<;>exact ⟨_,_,_,rfl,rfl,rfl,rfl,by decide,by decide⟩
  obtain ⟨t1,t2⟩:=E4V r.2.2 hn0 hn1;have hpl:(⟨#[47,117,112,47]⟩:X0).size=4:=rfl;have hmax:¬ ((((⟨#[47,117,112,47]⟩:X0).size+r.2.1.size:Nat):Int)>IntKind.i64.max):=by
    simp only [IntKind.max,IntKind.signed,IntKind.bits,hpl];simp;omega
  simp only [A4w,B2b,B2h,B8n,C5O r hsz,C5P r hsz,h,bO,Bool.not_true,cond_false,e1,e2,e3,e4,A3 hmax];cases hb:(!(nm.toList == (⟨#[]⟩:X0).toList)) with
  | true=>
    simp only [cond_true,t1,D83 r.2.2 hn0 hn1,bO];rw [D2a (by simp)];refine ⟨_,rfl,rfl,by simp,fun f hf=>?_⟩;simp only [List.cons_append,List.nil_append,List.mem_cons,List.not_mem_nil,or_false] at hf;have p1:(⟨#[58,109,101,116,104,111,100]⟩:X0).size=7:=rfl;have p2:(⟨#[58,115,99,104,101,109,101]⟩:X0).size=7:=rfl;have p3:(⟨#[58,112,97,116,104]⟩:X0).size=5:=rfl;have p4:(⟨#[104,116,116,112,115]⟩:X0).size=5:=rfl;rcases hf with rfl | rfl | rfl | rfl
    · exact ⟨by simp only [p1];omega,by simp only [];omega⟩
    · exact ⟨by simp only [p2];omega,by simp only [p4];omega⟩
    · exact ⟨by simp only [p3];omega,by simp only [ByteArray.size_append,hpl];omega⟩
    · exact ⟨by simp only [];omega,by simp only [];omega⟩
  | false=>
    simp only [cond_false];refine ⟨_,rfl,rfl,by simp,fun f hf=>?_⟩;simp only [List.mem_cons,List.not_mem_nil,or_false] at hf;have p1:(⟨#[58,109,101,116,104,111,100]⟩:X0).size=7:=rfl;have p2:(⟨#[58,115,99,104,101,109,101]⟩:X0).size=7:=rfl;have p3:(⟨#[58,112,97,116,104]⟩:X0).size=5:=rfl;have p4:(⟨#[104,116,116,112,115]⟩:X0).size=5:=rfl;rcases hf with rfl | rfl | rfl
    · exact ⟨by simp only [p1];omega,by simp only [];omega⟩
    · exact ⟨by simp only [p2];omega,by simp only [p4];omega⟩
    · exact ⟨by simp only [p3];omega,by simp only [ByteArray.size_append,hpl];omega⟩
theorem D0g(t:A9)(fs:List A5)(ht:T6 t)(hl:fs.length<=1000)(hf:∀ f∈fs,f.1.size<=10000/\f.2.size<=10000) :
    ∃ r T,S2 t fs=some (r,(t.1,T),())/\B01 t fs=some (r,(t.1,T),())/\T6 (t.1,T)/\r.length<=30000*fs.length/\Byt r:=by
  have htl:=B2n ht;have key:∀ k,k<=fs.length->∃ T r,T6 (t.1,T)/\(r.length<=30000*k/\Byt r)/\B9 (I0 J4 fs) (0,t.1,t.2,[],())=B9 (I0 J4 fs) ((k:Int),t.1,T,r,())
      /\B9 (S0 A1S fs) (0,t.1,t.2,[],())=B9 (S0 A1S fs) ((k:Int),t.1,T,r,()):=by
    intro k
    induction k with
    | zero=>intro _;exact ⟨t.2,[],ht,⟨by simp,fun x hx=>by cases hx⟩,rfl,rfl⟩
    | succ k ih=>
      intro hk;obtain ⟨T,r,h1,⟨h2,h5⟩,h3,h4⟩:=ih (by omega);have hlt:k<fs.length:=by omega
      have a1:(k:Int)<(fs.length:Int):=by omega
      have a2:(0:Int)<=(k:Int):=by omega
      have a3:rd A6 fs (k:Int)=fs[k]:=A49 (k:=A6) hlt;have a4:=hf fs[k] (List.getElem_mem hlt);cases hq:(fs[k].1.toList == (⟨#[97,117,116,104,111,114,105,122,97,116,105,111,110]⟩:X0).toList) with
      | true=>
        obtain ⟨r',T',b1,b2,b3,b4,b5⟩:=put_eq (t.1,T) fs[k] 3 (Or.inr rfl) h1 a4.1 a4.2 r (by omega);refine ⟨T',r++r',b3,⟨by simp only [List.length_append];omega,P2 h5 b5⟩,?_,?_⟩
        · rw [h3]
          refine V7 ?_;simp only [I0,A0 a1,A0 a2,cond_true,a3,hq,bO,b1];rw [gA (by omega),w64 (by omega) (by omega)];rfl
        · rw [h4]
          refine V7 ?_;simp only [S0,A0 a1,A0 a2,cond_true,a3,hq,bO,b2];rw [w64 (by omega) (by omega)];rfl
      | false=>
        obtain ⟨r',T',b1,b2,b3,b4,b5⟩:=put_eq (t.1,T) fs[k] 1 (Or.inl rfl) h1 a4.1 a4.2 r (by omega);refine ⟨T',r++r',b3,⟨by simp only [List.length_append];omega,P2 h5 b5⟩,?_,?_⟩
        · rw [h3]
          refine V7 ?_;simp only [I0,A0 a1,A0 a2,cond_true,cond_false,a3,hq,bO,b1];rw [gA (by omega),w64 (by omega) (by omega)];rfl
        · rw [h4]
          refine V7 ?_;simp only [S0,A0 a1,A0 a2,cond_true,cond_false,a3,hq,bO,b2];rw [w64 (by omega) (by omega)];rfl
  obtain ⟨T,r,h1,⟨h2,h5⟩,h3,h4⟩:=key fs.length (Nat.le_refl _);have e1:¬ ((fs.length:Nat):Int)<(fs.length:Int):=by omega
  have f1:B9 (I0 J4 fs) ((fs.length:Int),t.1,T,r,())=some (t.1,T,r,()):=by
    rw [C1];simp only [I0,A3 e1,cond_false]
  have f2:B9 (S0 A1S fs) ((fs.length:Int),t.1,T,r,())=some (t.1,T,r,()):=by
    rw [C1];simp only [S0,A3 e1,cond_false]
  refine ⟨r,T,?_,?_,h1,h2,h5⟩
  · simp only [S2,A38,C0U t (by omega),bO]
    rw [h3,f1];rfl
  · have hok:M9 t=some (true,()):=E2L ht
    simp only [B01,B6A,A2j t (by omega),hok,bO,Bool.not_true,cond_false];rw [h4,f2];rfl
set_option maxRecDepth 100000
def czN(a:Int):Nat:=if a<1 then 1 else if a>1000 then 1000 else a.toNat
theorem B8s(a:Int):1<=czN a/\czN a<=1000:=by
  unfold czN;split
  · omega
  · split<;>omega
theorem E6Q(a:Int):(A4 (bif (decide (a<1)) then some ((1:Int),()) else some (a,())) fun (m0:Int×Unit)=>(bif (decide (m0.1>1000)) then some ((1000:Int),()) else some (m0.1,())))=some ((czN a:Int),()):=by
  unfold czN;by_cases h:a<1
  · rw [A0 h,cond_true,bO,if_pos h];rfl
  · rw [A3 h,cond_false,bO,if_neg h]
    by_cases h2:a>1000
    · rw [A0 h2,cond_true,if_pos h2];rfl
    · rw [A3 h2,cond_false,if_neg h2]
      rw [show ((a.toNat:Nat):Int)=a by omega]
theorem E2M(a:Int):(bif decide ((bif decide (1000<a) then 1000 else a)>1) then (bif decide (1000<a) then 1000 else a) else 1)=(czN a:Int):=by
  unfold czN;by_cases h2:1000<a
  · rw [A0 h2,cond_true,if_neg (by omega),if_pos (by omega)];rfl
  · rw [A3 h2,cond_false]
    by_cases h:a>1
    · rw [A0 h,cond_true,if_neg (by omega),if_neg (by omega)];omega
    · rw [A3 h,cond_false]
      by_cases h3:a<1
      · rw [if_pos h3];rfl
      · rw [if_neg h3,if_neg (by omega)];omega
theorem D5V(a:Int):czN ((czN a:Nat):Int)=czN a:=by
  have:=B8s a;generalize czN a=n at *
  unfold czN;rw [if_neg (by omega),if_neg (by omega)];omega
def ceN(n L:Nat):Nat:=(L+n-1) / n
theorem B4b{n L j:Nat}(hn:0<n):j<ceN n L↔j*n<L:=by
  unfold ceN;rw [Nat.lt_iff_add_one_le,Nat.le_div_iff_mul_le hn,Nat.succ_mul];omega
theorem D0h{n L:Nat}(hn:0<n):L<=ceN n L*n:=by
  have h:¬ ceN n L<ceN n L:=Nat.lt_irrefl _;rw [B4b hn] at h;omega
theorem B7o{n L:Nat}(hn:0<n):ceN n L<=L:=by
  have h:¬ L<ceN n L:=by
    rw [B4b hn];have:=Nat.le_mul_of_pos_right L hn;omega
  omega
def frx(id fl:Int)(n:Nat)(xs:List Int)(j:Nat):B1:=(if j=0 then 1 else 9,if j=0 then fl else 0,id,O9 n xs j)
def frs(id fl:Int)(n:Nat)(xs:List Int):Nat->List B1
  | 0=> []
  | j+1=>frs id fl n xs j ++ [frx id fl n xs j]
theorem B5g(id fl:Int)(n:Nat)(xs:List Int):∀ j,(frs id fl n xs j).length=j
  | 0=>rfl
  | j+1=>by simp only [frs,List.length_append,B5g id fl n xs j,List.length_singleton]
def D5W(f:B1):B1:=(f.1,bOr .i64 f.2.1 4,f.2.2)
def B6E(id fl:Int)(n:Nat)(xs:List Int):List B1:=frs id fl n xs (max 1 (ceN n xs.length)-1) ++ [D5W (frx id fl n xs (max 1 (ceN n xs.length)-1))]
theorem D0i{A:List B1}{x:B1}:rd K9 (A ++ [x]) (A.length:Int)=x:=by
  simp [rd]
theorem D2o{A:List B1}{x y:B1}:(A ++ [x]).set A.length y=A ++ [y]:=by
  simp [List.set_append_right]
theorem A4P(xs:List Int)(h:xs.length<=1000000000):B2 xs=some (xs,()):=by
  simp only [B2,Q0];rw [gA (by simp;omega)];by_cases h0:0<xs.length
  · rw [A0 h0,cond_true];rfl
  · rw [A3 h0,cond_false]
    have:xs = []:=List.length_eq_zero_iff.1 (by omega);subst this;simp [eqO]
theorem A4Q(n:Nat)(xs:List Int)(j:Nat):(O9 n xs j).length=min (j*n+n) xs.length-j*n:=by
  simp [O9]
theorem C5a{X Y:Type}(G:X->Y->Option Y):∀ (xs:List X) (x:X) (y:Y),B3E G (xs ++ [x]) y=A4 (B3E G xs y) (G x)
  | [],x,y=>by
    simp only [List.nil_append,B3E,bO];cases G x y<;>rfl
  | z::xs,x,y=>by
    simp only [List.cons_append,B3E];cases G z y with
    | none=>rfl
    | some y'=>exact C5a G xs x y'
theorem D9U(id:Int)(a1:Bool)(xs:List Int)(a3:Int)(hid:1<=id/\id<=2147483647)(hx:xs.length<=100000000) :
    B4Q id a1 xs a3=some (B6E id (if a1 then 1 else 0) (czN a3) xs,()):=by
  have hn:=B8s a3;have e0:=E6Q a3;simp only [B4Q,C5J,A1f,A0 hid,bO,Bool.not_true,cond_false];have e1:∀ (K:Int×Unit->Option (List B1×Unit)),(A4 (bif (decide (a3<1)) then some ((1:Int),()) else some (a3,())) fun (m0:Int×Unit)=>A4 (bif (decide (m0.1>1000)) then some ((1000:Int),()) else some (m0.1,())) K)=K ((czN a3:Int),()):=by
    intro K;rw [show K ((czN a3:Int),())=A4 (some ((czN a3:Int),())) K from rfl,<- e0];cases (bif (decide (a3<1)) then some ((1:Int),()) else some (a3,()))<;>rfl
  rw [e1];generalize czN a3=n at *
  have hn0:0<n:=by omega
  have hN1:1<=max 1 (ceN n xs.length):=Nat.le_max_left _ _;have hN2:max 1 (ceN n xs.length)<=100000000:=by have:=B7o (n:=n) (L:=xs.length) hn0;omega
  have hlt:∀ j,j<max 1 (ceN n xs.length)->j=0\/j*n<xs.length:=by
    intro j hj;rcases Nat.eq_zero_or_pos j with h | h
    · exact Or.inl h
    · exact Or.inr ((B4b hn0).1 (by omega))
  have hlast:∀ j,j<max 1 (ceN n xs.length)->(xs.length<=j*n+n↔j=max 1 (ceN n xs.length)-1):=by
    intro j hj;have h1:=B4b (n:=n) (L:=xs.length) (j:=j+1) hn0;rw [Nat.succ_mul] at h1;omega
  have hge:xs.length<=max 1 (ceN n xs.length)*n:=by
    have h1:=D0h (n:=n) (L:=xs.length) hn0;have h2:=Nat.mul_le_mul_right n (Nat.le_max_right 1 (ceN n xs.length));omega
  have hbig:∀ j,j<max 1 (ceN n xs.length)->j*n<=100000000:=by
    intro j hj;rcases hlt j hj with h | h
    · subst h;omega
    · omega
  unfold B6E;generalize max 1 (ceN n xs.length)=N at *
  have hfl:∀ (K:Int×Int×Int×Unit->Option ((Int×List B1×Unit)⊕(List B1×Unit))) (j:Nat),j*n<=100000000->(A4 (bif (decide (((j*n:Nat):Int)=0)) then bif a1 then some ((1:Int),(1:Int),id,()) else some (1,0,id,()) else some (9,0,id,())) K)=K ((if j=0 then 1 else 9),(if j=0 then (if a1 then 1 else 0) else 0),id,()):=by
    intro K j hj;rcases Nat.eq_zero_or_pos j with h | h
    · subst h
      rw [show (((0*n:Nat):Int))=0 by simp];cases a1<;>rfl
    · have h2:0<j*n:=Nat.mul_pos h hn0
      rw [A3 (p:=((j*n:Nat):Int)=0) (by omega),cond_false,if_neg (by omega),if_neg (by omega)];rfl
  have hX:∀ l k f q,([(l,(k,(f,q)))]:List B1).length=1:=fun _ _ _ _=>rfl
  refine (F4 (B2e xs a1 id ((n:Int),())) (fun j=>(((j*n:Nat):Int),(if j<N then frs id (if a1 then 1 else 0) n xs j else frs id (if a1 then 1 else 0) n xs (N-1) ++ [D5W (frx id (if a1 then 1 else 0) n xs (N-1))]),())) N _ (fun j hj=>?_) ?_ |> fun h=>by
    rw [show ((0:Int),([]:List B1),())=(fun j:Nat=>(((j*n:Nat):Int),(if j<N then frs id (if a1 then 1 else 0) n xs j else frs id (if a1 then 1 else 0) n xs (N-1) ++ [D5W (frx id (if a1 then 1 else 0) n xs (N-1))]),())) 0 by
      simp only [Nat.zero_mul,if_pos (show 0<N by omega)];rfl]
    exact h)
  · have b1:=hlt j hj
    have b2:=hlast j hj;have b3:=hbig j hj;have b4:=B5g id (if a1 then 1 else 0) n xs j;have b5:j*n<=xs.length:=by
      rcases b1 with h | h
      · subst h;simp
      · omega
    have c1:(bif (decide (((j*n:Nat):Int)=0)) then some (Sum.inl ()) else bif (decide (((j*n:Nat):Int)<(xs.length:Int))) then some (Sum.inl ()) else some (Sum.inr (Sum.inr ((if j<N then frs id (if a1 then 1 else 0) n xs j else frs id (if a1 then 1 else 0) n xs (N-1) ++ [D5W (frx id (if a1 then 1 else 0) n xs (N-1))]),()))))=some (Sum.inl (β:=(Int×List B1×Unit)⊕(List B1×Unit)) ()):=by
      rcases b1 with h | h
      · subst h
        rw [show (((0*n:Nat):Int))=0 by simp];rfl
      · rw [A0 (p:=((j*n:Nat):Int)<(xs.length:Int)) (by omega)]
        cases decide (((j*n:Nat):Int)=0)<;>rfl
    simp only [B2e];rw [c1,bSl,hfl _ j b3];simp only [if_pos hj];rw [w64 (n:=((j*n:Nat):Int)+(n:Int)) (by omega) (by omega)];by_cases hL:xs.length<=j*n+n
    · have hjN:j=N-1:=b2.1 hL
      have hp:(xs.take xs.length).drop (j*n)=O9 n xs j:=by
        unfold O9;rw [List.take_of_length_le (Nat.le_refl _),List.take_of_length_le hL]
      have hpl:=A4Q n xs j;rw [A0 (by omega),cond_true,bO];simp only [Int.toNat_natCast,hp];rw [A0 (by omega),A0 (by omega),A0 (by omega)];simp only [cond_true,List.nil_append];rw [gA (by simp only [List.length_nil];omega),E5h (by rw [b4,hX];omega)];rw [if_neg (show ¬ j+1<N by omega),hjN.symm,Nat.succ_mul];simp only [D5W,frx]
      congr 4
    · have hjN:¬ j=N-1:=fun h=>hL (b2.2 h)
      have hp:(xs.take (((j*n:Nat):Int)+(n:Int)).toNat).drop (j*n)=O9 n xs j:=by
        unfold O9;rw [show (((j*n:Nat):Int)+(n:Int)).toNat=j*n+n by omega]
      have hpl:=A4Q n xs j;rw [A3 (by omega),cond_false,bO];simp only [Int.toNat_natCast,hp];rw [A0 (by omega),A0 (by omega),A0 (by omega)];simp only [cond_true,List.nil_append];rw [gA (by simp only [List.length_nil];omega),E5h (by rw [b4,hX];omega)];rw [if_pos (show j+1<N by omega),Nat.succ_mul];simp only [frs,frx]
      congr 4
  · have h2:0<N*n:=Nat.mul_pos (by omega) hn0
    have c1:decide (((N*n:Nat):Int)=0)=false:=A3 (by omega);have c2:decide (((N*n:Nat):Int)<(xs.length:Int))=false:=A3 (by omega);simp only [B2e,c1,c2,cond_false,bSr,if_neg (show ¬ N<N by omega)]
theorem D2p(id fl:Int)(n:Nat)(xs:List Int)(hn:0<n)(hx:xs.length<=100000000):∀ j,j<=ceN n xs.length->
    B3E (B2i B2 id) ((List.range j).map (O9 n xs)) ([(1,(fl,(id,[])))],())=some (if j=0 then [(1,(fl,(id,[])))] else frs id fl n xs j,()):=by
  have hC:=B7o (n:=n) (L:=xs.length) hn;intro j
  induction j with
  | zero=>intro _;rfl
  | succ j ih=>
    intro hj;have hlt:=(B4b (n:=n) (L:=xs.length) (j:=j) hn).1 (by omega);have hpl:=A4Q n xs j;rw [List.range_succ,List.map_append,List.map_cons,List.map_nil,C5a,ih (by omega),bO,if_neg (Nat.succ_ne_zero j)];have hcl:=A4P (O9 n xs j) (by omega);cases j with
    | zero=>
      simp only [if_true,B2i,List.length_singleton];rw [show IntKind.i64.wrap (((1:Nat):Int)-1)=0 from rfl];have r0:rd K9 ([(1,(fl,(id,[])))]:List B1) 0=(1,(fl,(id,[]))):=rfl;rw [A0 (by omega),A0 (by omega),r0];simp only [cond_true,List.length_nil];rw [A3 (by omega),cond_false,hcl];rfl
    | succ j=>
      have hpl':=A4Q n xs j;have hlt':=(B4b (n:=n) (L:=xs.length) (j:=j) hn).1 (by omega);rw [if_neg (Nat.succ_ne_zero j)];have hfl:=B5g id fl n xs j;have e1:frs id fl n xs (j+1)=frs id fl n xs j ++ [frx id fl n xs j]:=rfl;have hl2:=B5g id fl n xs (j+1);have w1:IntKind.i64.wrap (((frs id fl n xs (j+1)).length:Int)-1)=((frs id fl n xs j).length:Int):=by rw [hl2,hfl,w64 (by omega) (by omega)];omega
      have hl3:∀ y:B1,(frs id fl n xs (j+1) ++ [y]).length=j+2:=fun y=>by rw [List.length_append,hl2];rfl
      have w2:∀ y:B1,IntKind.i64.wrap (((frs id fl n xs (j+1) ++ [y]).length:Int)-1)=((frs id fl n xs (j+1)).length:Int):=fun y=>by rw [hl3,hl2,w64 (by omega) (by omega)];omega
      have hq:((rd K9 (frs id fl n xs (j+1)) ((frs id fl n xs j).length:Int)).2.2.2.length:Int)>0:=by
        rw [e1,D0i];simp only [frx];rw [hpl'];have:=Nat.succ_mul j n;omega
      simp only [B2i,w1,w2];rw [A0 (by omega),A0 (by rw [hfl,hl2];omega)];simp only [cond_true];rw [A0 hq,cond_true,E5h (by rw [hl2];simp;omega),A0 (by omega),A0 (by rw [hl2,hl3];omega),hcl];simp only [cond_true,bO,Int.toNat_natCast,D0i,D2o];rfl
theorem D9V(id:Int)(a1:Bool)(xs:List Int)(a3:Int)(hid:1<=id/\id<=2147483647)(hx:xs.length<=100000000) :
    C5M id a1 xs a3=some (B6E id (if a1 then 1 else 0) (czN a3) xs,()):=by
  have hn:=B8s a3;have hn0:0<czN a3:=by omega
  have hC:=B7o (n:=czN a3) (L:=xs.length) hn0;have e1:(bif a1 then bif decide (0<(([(1,(0,(id,[])))]:List B1).length:Int)) then A4 (some (([(1,(0,(id,[])))]).set 0 ((rd K9 ([(1,(0,(id,[])))]) 0).1,(1,(rd K9 ([(1,(0,(id,[])))]) 0).2.2)))) fun (c9002:List B1)=>some (c9002,()) else none else some ([(1,(0,(id,[])))],()))=some (([(1,((if a1 then 1 else 0),(id,[])))]:List B1),()):=by
    cases a1<;>rfl
  simp only [bO] at e1;simp only [C5M,D2M,H1,A0 hid,bO,Bool.not_true,cond_false,E2M];rw [e1];simp only [bO];have f1:=D2p id (if a1 then 1 else 0) (czN a3) xs hn0 hx (ceN (czN a3) xs.length) (Nat.le_refl _);generalize (if a1 then (1:Int) else 0)=fl at *
  unfold B6E;generalize czN a3=n at *
  have hpc:pieces n xs=(List.range (ceN n xs.length)).map (O9 n xs):=rfl;rw [A0 (by omega),A0 (by omega),A0 (by omega)];simp only [cond_true,Int.toNat_natCast];rw [hpc,f1];simp only [bO];have e2:(if ceN n xs.length=0 then ([(1,(fl,(id,[])))]:List B1) else frs id fl n xs (ceN n xs.length))=frs id fl n xs (max 1 (ceN n xs.length)-1) ++ [frx id fl n xs (max 1 (ceN n xs.length)-1)]:=by
    by_cases h:ceN n xs.length=0
    · rw [if_pos h,h]
      have hx0:xs = []:=by
        have:=D0h (n:=n) (L:=xs.length) hn0;rw [h] at this;exact List.length_eq_zero_iff.1 (by omega)
      subst hx0;simp [frs,frx,O9]
    · rw [if_neg h,show max 1 (ceN n xs.length)=(max 1 (ceN n xs.length)-1)+1 by omega]
      have:ceN n xs.length=(max 1 (ceN n xs.length)-1)+1:=by omega
      conv=>lhs;rw [this]
      rfl
  have hl:=B5g id fl n xs (max 1 (ceN n xs.length)-1);rw [e2];generalize frs id fl n xs (max 1 (ceN n xs.length)-1)=A at *
  generalize frx id fl n xs (max 1 (ceN n xs.length)-1)=x at *
  have hl1:(A ++ [x]).length=A.length+1:=by simp
  have w1:IntKind.i64.wrap (((A ++ [x]).length:Int)-1)=(A.length:Int):=by rw [hl1,w64 (by omega) (by omega)];omega
  simp only [w1,D0i,D2o,Int.toNat_natCast];rw [A0 (by omega),A0 (by omega)];rfl
theorem fok(k fl id:Int)(q:List Int)(h1:0<=k/\k<=255)(h2:0<=fl/\fl<=255)(h3:0<=id/\id<=2147483647)(h4:(q.length:Int)<=1000):N1 (k,fl,id,q)=true:=by
  simp only [N1,A0 h1,A0 h2,A0 h3,A0 h4];rfl
theorem E2N(id:Int)(a1:Bool)(n:Nat)(xs:List Int)(hid:1<=id/\id<=2147483647)(hn:n<=1000)(j:Nat) :
    N1 (frx id (if a1 then 1 else 0) n xs j)=true/\N1 (D5W (frx id (if a1 then 1 else 0) n xs j))=true:=by
  have hpl:=A4Q n xs j;have h1:((O9 n xs j).length:Int)<=1000:=by omega
  have h2:0<=id/\id<=2147483647:=by omega
  have b0:bOr .i64 0 4=4:=rfl;have b1:bOr .i64 1 4=5:=rfl;unfold D5W frx;rcases Nat.eq_zero_or_pos j with h | h
  · subst h
    cases a1
    · exact ⟨fok 1 0 id _ (by omega) (by omega) h2 h1,fok 1 (bOr .i64 0 4) id _ (by omega) (by rw [b0];omega) h2 h1⟩
    · exact ⟨fok 1 1 id _ (by omega) (by omega) h2 h1,fok 1 (bOr .i64 1 4) id _ (by omega) (by rw [b1];omega) h2 h1⟩
  · simp only [if_neg (show ¬ j=0 by omega)]
    exact ⟨fok 9 0 id _ (by omega) (by omega) h2 h1,fok 9 (bOr .i64 0 4) id _ (by omega) (by rw [b0];omega) h2 h1⟩
theorem E2O(id:Int)(a1:Bool)(n:Nat)(xs:List Int)(hid:1<=id/\id<=2147483647)(hn:n<=1000):∀ j,∀ f∈frs id (if a1 then 1 else 0) n xs j,N1 f=true
  | 0,f,hf=>by simp [frs] at hf
  | j+1,f,hf=>by
    simp only [frs,List.mem_append,List.mem_singleton] at hf;rcases hf with h | h
    · exact E2O id a1 n xs hid hn j f h
    · subst h;exact (E2N id a1 n xs hid hn j).1
theorem E2P(id:Int)(a1:Bool)(n:Nat)(xs:List Int)(hid:1<=id/\id<=2147483647)(hn:n<=1000):∀ f∈B6E id (if a1 then 1 else 0) n xs,N1 f=true:=by
  intro f hf;simp only [B6E,List.mem_append,List.mem_singleton] at hf;rcases hf with h | h
  · exact E2O id a1 n xs hid hn _ f h
  · subst h;exact (E2N id a1 n xs hid hn _).2
theorem D9W(id fl:Int)(n:Nat)(xs:List Int)(hn:0<n):(B6E id fl n xs).length<=xs.length+1:=by
  have:=B7o (n:=n) (L:=xs.length) hn;simp only [B6E,List.length_append,B5g,List.length_singleton];omega
def C5b(fs:List B1):Nat->List Int
  | 0=> []
  | k+1=>C5b fs k++A10 (fs.getD k (0,0,0,[]))
theorem A4A(f:B1)(h:N1 f=true):(A10 f).length<=1009:=by
  simp only [N1,Bool.and_eq_true,decide_eq_true_eq] at h;simp only [A10,List.length_append,A6C,List.length_cons,List.length_nil];omega
theorem A8B{f:B1}(h:Byt f.2.2.2):Byt (A10 f):=by
  unfold A10;refine P2 (P2 (P2 (D7q _ _) fun x hx=>?_) (D7q _ _)) h;simp only [List.mem_cons,List.not_mem_nil,or_false] at hx;rcases hx with rfl | rfl<;>exact wrap_u8 _
theorem C0V{xs:List Int}(h:Byt xs)(n j:Nat):Byt (O9 n xs j):=A89 (B4T h _) _
theorem D84{id fl:Int}{n:Nat}{xs:List Int}(h:Byt xs):∀ j,∀ f∈frs id fl n xs j,Byt f.2.2.2
  | 0,f,hf=>by cases hf
  | j+1,f,hf=>by
    rcases List.mem_append.1 hf with hf | hf
    · exact D84 h j f hf
    · rcases List.mem_singleton.1 hf with rfl;exact C0V h n j
theorem D9a{id fl:Int}{n:Nat}{xs:List Int}(h:Byt xs):∀ f∈B6E id fl n xs,Byt f.2.2.2:=fun f hf=>by
  rcases List.mem_append.1 hf with hf | hf
  · exact D84 h _ f hf
  · rcases List.mem_singleton.1 hf with rfl;exact C0V h n _
theorem D2q{fs:List B1}(h:∀ f∈fs,Byt f.2.2.2):∀ k,Byt (C5b fs k)
  | 0=>fun x hx=>by cases hx
  | k+1=>by
    refine P2 (D2q h k) ?_;by_cases hk:k<fs.length
    · rw [List.getD_eq_getElem?_getD,List.getElem?_eq_getElem hk]
      exact A8B (h _ (List.getElem_mem hk))
    · rw [List.getD_eq_getElem?_getD,List.getElem?_eq_none (by omega)]
      exact A8B fun x hx=>by cases hx
theorem B8t(fs:List B1)(h:∀ f∈fs,N1 f=true):∀ k,k<=fs.length->(C5b fs k).length<=1009*k
  | 0,_=>by simp [C5b]
  | k+1,hk=>by
    have h1:=B8t fs h k (by omega);have h2:fs.getD k (0,0,0,[])=fs[k]:=by rw [List.getD_eq_getElem?_getD,List.getElem?_eq_getElem (by omega)];rfl
    have h3:=A4A fs[k] (h _ (List.getElem_mem (by omega)));simp only [C5b,List.length_append,h2];omega
theorem C2F{f:B1}(h:N1 f=true):f.2.2.2.length<=1000:=by
  simp only [N1,Bool.and_eq_true,decide_eq_true_eq] at h;omega
theorem C5c(fs:List B1)(h:∀ f∈fs,N1 f=true)(hl:fs.length<=1000000000):B02 [] fs=some (C5b fs fs.length,()):=by
  simp only [B02,B6C];refine F4 (A3r H0 fs) (fun k=>((k:Int),C5b fs k,())) fs.length _ (fun k hk=>?_) ?_
  · have h1:(k:Int)<(fs.length:Int):=by omega
    have h2:(0:Int)<=(k:Int):=by omega
    have h3:rd K9 fs (k:Int)=fs[k]:=A49 (k:=K9) hk;have h4:fs.getD k (0,0,0,[])=fs[k]:=by rw [List.getD_eq_getElem?_getD,List.getElem?_eq_getElem (by omega)];rfl
    have h5:=B8t fs h k (by omega);have h6:=C2F (h _ (List.getElem_mem hk));simp only [A3r,A0 h1,A0 h2,cond_true,h3];rw [A6D _ _ (by omega),bO,w64 (by omega) (by omega)];simp only [C5b,h4];rfl
  · have h1:¬ ((fs.length:Nat):Int)<(fs.length:Int):=by omega
    simp only [A3r,A3 h1,cond_false]
theorem D2r(fs:List B1)(h:∀ f∈fs,N1 f=true)(hl:fs.length<=1000000000):A3P fs=some (C5b fs fs.length,()):=by
  simp only [A3P,A9t];refine F4 (A3p G3 fs) (fun k=>((k:Int),C5b fs k,())) fs.length _ (fun k hk=>?_) ?_
  · have h1:(k:Int)<(fs.length:Int):=by omega
    have h2:(0:Int)<=(k:Int):=by omega
    have h3:rd K9 fs (k:Int)=fs[k]:=A49 (k:=K9) hk;have h4:fs.getD k (0,0,0,[])=fs[k]:=by rw [List.getD_eq_getElem?_getD,List.getElem?_eq_getElem (by omega)];rfl
    have h5:=B8t fs h k (by omega);have hk2:=h _ (List.getElem_mem hk);have h6:=C2F hk2;have h7:=A4A _ hk2;simp only [A3p,A0 h1,A0 h2,cond_true,h3];rw [A3S _ (by omega),if_pos hk2,bO,gA (by simp only [];omega),w64 (by omega) (by omega)];simp only [C5b,h4];rfl
  · have h1:¬ ((fs.length:Nat):Int)<(fs.length:Int):=by omega
    simp only [A3p,A3 h1,cond_false]
set_option maxRecDepth 100000
def A3V(id:Int)(n:Nat)(xs:List Int):Nat->List Int
  | 0=> []
  | j+1=>A3V id n xs j++A10 (0,(if xs.length<=j*n+n then 1 else 0),id,O9 n xs j)
theorem D0j(id:Int)(n:Nat)(xs:List Int)(hid:1<=id/\id<=2147483647)(hn:n<=1000)(j:Nat):N1 (0,(if xs.length<=j*n+n then 1 else 0),id,O9 n xs j)=true:=by
  have hpl:=A4Q n xs j;refine fok _ _ _ _ (by omega) ?_ (by omega) (by omega);split<;>omega
theorem B8u(id:Int)(n:Nat)(xs:List Int)(hid:1<=id/\id<=2147483647)(hn:n<=1000):∀ j,(A3V id n xs j).length<=1009*j
  | 0=>by simp [A3V]
  | j+1=>by
    have h1:=B8u id n xs hid hn j;have h2:=A4A _ (D0j id n xs hid hn j);simp only [A3V,List.length_append];omega
theorem E5l(id:Int)(n:Nat)(xs o:List Int)(hid:1<=id/\id<=2147483647)(hn:1<=n/\n<=1000)(hx:xs.length<=100000000)(ho:o.length<=1000000000000) :
    B9 (S3 G3 xs ((n:Int),()) id) (0,o,())=some (o++A3V id n xs (ceN n xs.length),()):=by
  have hn0:0<n:=by omega
  have hC:=B7o (n:=n) (L:=xs.length) hn0;refine (F4 (S3 G3 xs ((n:Int),()) id) (fun j=>(((j*n:Nat):Int),o++A3V id n xs j,())) (ceN n xs.length) _ (fun j hj=>?_) ?_ |> fun h=>by
    rw [show ((0:Int),o,())=(fun j:Nat=>(((j*n:Nat):Int),o++A3V id n xs j,())) 0 by simp [A3V]];exact h)
  · have hlt:=(B4b (n:=n) (L:=xs.length) (j:=j) hn0).1 hj
    have hpl:=A4Q n xs j;have hok:=D0j id n xs hid hn.2 j;have hbl:=B8u id n xs hid hn.2 j;have hfl:=A4A _ hok;have hol:(o++A3V id n xs j).length<=1000000000000+1009*j:=by rw [List.length_append];omega
    have e1:(A3V id n xs (j+1))=A3V id n xs j++A10 (0,(if xs.length<=j*n+n then 1 else 0),id,O9 n xs j):=rfl;simp only [S3];rw [A0 (p:=((j*n:Nat):Int)<(xs.length:Int)) (by omega),cond_true,w64 (n:=((j*n:Nat):Int)+(n:Int)) (by omega) (by omega)];by_cases hL:xs.length<=j*n+n
    · have hp:(xs.take xs.length).drop (j*n)=O9 n xs j:=by
        unfold O9;rw [List.take_of_length_le (Nat.le_refl _),List.take_of_length_le hL]
      rw [A0 (by omega),cond_true,bO];simp only [Int.toNat_natCast,hp];rw [A0 (by omega),A0 (by omega),A0 (by omega)];simp only [cond_true,List.nil_append];rw [gA (by simp only [List.length_nil];omega)];rw [if_pos hL] at hok e1 hfl;rw [A3S _ (by simp only [];omega),if_pos hok,bO,gA (by simp only [];omega),e1,Nat.succ_mul,List.append_assoc];rfl
    · have hp:(xs.take (((j*n:Nat):Int)+(n:Int)).toNat).drop (j*n)=O9 n xs j:=by
        unfold O9;rw [show (((j*n:Nat):Int)+(n:Int)).toNat=j*n+n by omega]
      rw [A3 (by omega),cond_false,bO];simp only [Int.toNat_natCast,hp];rw [A0 (by omega),A0 (by omega),A0 (by omega)];simp only [cond_true,List.nil_append];rw [gA (by simp only [List.length_nil];omega)];rw [if_neg hL] at hok e1 hfl;rw [A3S _ (by simp only [];omega),if_pos hok,bO,gA (by simp only [];omega),e1,Nat.succ_mul,List.append_assoc];rfl
  · have h:=D0h (n:=n) (L:=xs.length) hn0
    have h1:¬ ((ceN n xs.length*n:Nat):Int)<(xs.length:Int):=by omega
    simp only [S3,A3 h1,cond_false]
theorem E5m(id:Int)(a4:Int)(xs o:List Int)(hid:1<=id/\id<=2147483647)(hx:xs.length<=100000000)(ho:o.length<=1000000000000) :
    B9 (T5 H0 a4 id) (xs,o,())=some (o++A3V id (czN a4) xs (ceN (czN a4) xs.length),()):=by
  have hn:=B8s a4;have hcz:=E2M a4;have hn0:0<czN a4:=by omega
  have hC:=B7o (n:=czN a4) (L:=xs.length) hn0;have hstep:∀ l,T5 H0 a4 id l=T5 H0 ((czN a4:Nat):Int) id l:=by
    intro l;have h2:=E2M ((czN a4:Nat):Int);rw [D5V] at h2;simp only [T5,hcz,h2]
  rw [funext hstep];generalize hnn:czN a4=n at *
  have hcz2:=E2M ((n:Nat):Int);rw [<- hnn,D5V,hnn] at hcz2;refine (F4 (T5 H0 (n:Int) id) (fun j=>(xs.drop (j*n),o++A3V id n xs j,())) (ceN n xs.length) _ (fun j hj=>?_) ?_ |> fun h=>by
    rw [show (xs,o,())=(fun j:Nat=>(xs.drop (j*n),o++A3V id n xs j,())) 0 by simp [A3V]];exact h)
  · have hlt:=(B4b (n:=n) (L:=xs.length) (j:=j) hn0).1 hj
    have hpl:=A4Q n xs j;have hok:=D0j id n xs hid hn.2 j;have hbl:=B8u id n xs hid hn.2 j;have hfl:=A4A _ hok;have hol:(o++A3V id n xs j).length<=1000000000000+1009*j:=by rw [List.length_append];omega
    have e1:(A3V id n xs (j+1))=A3V id n xs j++A10 (0,(if xs.length<=j*n+n then 1 else 0),id,O9 n xs j):=rfl;have hdl:(xs.drop (j*n)).length=xs.length-j*n:=List.length_drop;have hm:(bif decide (((xs.drop (j*n)).length:Int)<(n:Int)) then ((xs.drop (j*n)).length:Int) else (n:Int))=((min (xs.length-j*n) n:Nat):Int):=by
      by_cases h:((xs.drop (j*n)).length:Int)<(n:Int)
      · rw [A0 h,cond_true,hdl];omega
      · rw [A3 h,cond_false];omega
    have hp:(xs.drop (j*n)).take (min (xs.length-j*n) n)=O9 n xs j:=by
      unfold O9;rw [List.drop_take];by_cases h:xs.length-j*n<=n
      · rw [Nat.min_eq_left h,List.take_of_length_le (by omega),List.take_of_length_le (by omega)]
      · rw [Nat.min_eq_right (by omega),show j*n+n-j*n=n by omega]
    have hd:((xs.drop (j*n)).take (xs.drop (j*n)).length).drop (min (xs.length-j*n) n)=xs.drop ((j+1)*n):=by
      rw [List.take_of_length_le (Nat.le_refl _),List.drop_drop];by_cases h:xs.length-j*n<=n
      · rw [Nat.succ_mul,List.drop_of_length_le (by omega),List.drop_of_length_le (by omega)]
      · rw [Nat.min_eq_right (by omega),Nat.succ_mul]
    have hd2:(xs.drop ((j+1)*n)).length=xs.length-(j*n+n):=by rw [List.length_drop,Nat.succ_mul]
    have hpf:∀ fl:Int,fl=(if xs.length<=j*n+n then 1 else 0)->H0 (o++A3V id n xs j) (0,(fl,(id,O9 n xs j)))=some (o++A3V id n xs (j+1),()):=by
      intro fl hfl2;subst hfl2;rw [A6D _ _ (by simp only [];omega),e1,List.append_assoc]
    simp only [T5,hcz2,hm];rw [A0 (p:=((xs.drop (j*n)).length:Int)>0) (by omega),A0 (p:=(0:Int)<=((min (xs.length-j*n) n:Nat):Int)) (by omega),A0 (p:=((min (xs.length-j*n) n:Nat):Int)<=((xs.drop (j*n)).length:Int)) (by omega)];simp only [cond_true,Int.toNat_natCast,List.drop_zero,hp,hd];by_cases hL:xs.length<=j*n+n
    · rw [A0 (by omega),cond_true,hpf 1 (by rw [if_pos hL])]
      rfl
    · rw [A3 (by omega),cond_false,hpf 0 (by rw [if_neg hL])]
      rfl
  · have h:=D0h (n:=n) (L:=xs.length) hn0
    have hdl:(xs.drop (ceN n xs.length*n)).length=xs.length-ceN n xs.length*n:=List.length_drop;have h1:¬ ((xs.drop (ceN n xs.length*n)).length:Int)>0:=by omega
    simp only [T5,A3 h1,cond_false]
theorem C9Q{id:Int}{n:Nat}{xs:List Int}(h:Byt xs):∀ j,Byt (A3V id n xs j)
  | 0=>fun x hx=>by cases hx
  | j+1=>P2 (C9Q h j) (A8B (C0V h n j))
theorem D2s(t:A9)(id:Int)(r:A6P)(xs:List Int)(a4:Int)(ht:szT t.2<=1000000000)(hr:r.2.1.size<=1000000000)(hx:xs.length<=100000000) :
    ∃ o T,Q9 t id r xs a4=some (o,(t.1,T),())/\C29 t id r xs a4=some (o,(t.1,T),())/\o.length<=1009*(120001+xs.length)/\szT T<=1000000000/\(Byt xs->Byt o):=by
  have htl:=A11 t.2;have hsz:r.2.1.size<=maxLen:=by simp only [maxLen];omega
  obtain ⟨b,hb⟩:=D0U t (by simp only [maxLen];omega);have hbi:M9 t=some (b,()):=hb;have hcp:=C0U t (by omega);have hci:=A2j t (by omega);simp only [Q9,A50,C29,C28,hb,hbi,C5O r hsz,C5P r hsz,A1f,H1,bO,hcp,hci];by_cases hall:b=true/\B03 r=true/\(1<=id/\id<=2147483647)
  · obtain ⟨rfl,h2,h3⟩:=hall
    simp only [h2,A0 h3,Bool.not_true,cond_false,bO,bSl];have htok:=E5k (by omega) hb;obtain ⟨fs,f1,f2,f3,f4⟩:=D2n r h2;obtain ⟨h,T,g1,g2,g3,g4,g5⟩:=D0g t fs htok (by omega) f4;have hn:=B8s a4;have hp1:=D9U id (decide ((xs.length:Int)=0)) h a4 h3 (by omega);have hp2:=D9V id (decide ((xs.length:Int)=0)) h ((czN a4:Nat):Int) h3 (by omega);rw [D5V] at hp2;have hpo:=E2P id (decide ((xs.length:Int)=0)) (czN a4) h h3 hn.2;have hpl:=D9W id (if decide ((xs.length:Int)=0)=true then 1 else 0) (czN a4) h (by omega);have e0:=E6Q a4;simp only [f1,f2,g1,g2,bO,E2M,hp1,hp2];rw [D2r _ hpo (by omega),C5c _ hpo (by omega)];have hcl:=B8t _ hpo _ (Nat.le_refl _);have hcb:=D2q (D9a (id:=id) (fl:=(if decide ((xs.length:Int)=0)=true then 1 else 0)) (n:=czN a4) g5);generalize B6E id (if decide ((xs.length:Int)=0)=true then 1 else 0) (czN a4) h=F at *
    have e1:∀ (K:Int×Unit->Option (List Int×A9×Unit)),(A4 (bif (decide (a4<1)) then some ((1:Int),()) else some (a4,())) fun (m0:Int×Unit)=>A4 (bif (decide (m0.1>1000)) then some ((1000:Int),()) else some (m0.1,())) K)=K ((czN a4:Int),()):=by
      intro K;rw [show K ((czN a4:Int),())=A4 (some ((czN a4:Int),())) K from rfl,<- e0];cases (bif (decide (a4<1)) then some ((1:Int),()) else some (a4,()))<;>rfl
    have hbl:=B8u id (czN a4) xs h3 hn.2 (ceN (czN a4) xs.length);have hC:=B7o (n:=czN a4) (L:=xs.length) (by omega);simp only [bO];rw [e1,E5l id (czN a4) xs _ h3 hn hx (by omega),E5m id a4 xs _ h3 hx (by omega)];obtain ⟨k1,k2,k3⟩:=g3;exact ⟨_,T,rfl,rfl,by rw [List.length_append];omega,by simp only at k1 k2 k3;omega,fun hxb=>P2 (hcb _) (C9Q hxb _)⟩
  · refine ⟨[],t.2,?_,?_,by simp,ht,fun _ x hx=>by cases hx⟩
    · cases b with
      | false=>rfl
      | true=>
        cases hq:B03 r with
        | false=>rfl
        | true=>
          have:¬ (1<=id/\id<=2147483647):=fun h=>hall ⟨rfl,hq,h⟩
          rw [A3 this];rfl
    · by_cases h3:1<=id/\id<=2147483647
      · rw [A0 h3]
        cases hq:B03 r with
        | false=>rfl
        | true=>
          cases b with
          | false=>rfl
          | true=>exact absurd ⟨rfl,hq,h3⟩ hall
      · rw [A3 h3]
        rfl
set_option maxRecDepth 100000
set_option maxRecDepth 100000
theorem D5a{R:Type}{n:Nat}{X:Option R}(h:n<=1000000000000):(bif decide (n<=9223372036854775807) then bif decide (n*72<=140737488355328) then X else none else none)=X:=by
  rw [A0 (by omega),A0 (by omega)];rfl
def E6R(c:S1):Prop:=c.2.1.length<=2000000/\c.2.2.1.2.2.length<=2000000/\c.2.2.2.1.2.length<=2000000/\c.2.2.2.2.1.2.length<=2000000/\c.2.2.2.2.2.1.length<=2000000/\∀ x∈c.2.2.2.2.2.1,x.2.2.2.length<=2000000
theorem B6F(g:I2)(h:g.2.2.length<=2000000):U0 g=some (g,()):=by
  simp only [U0,A7r,A4P g.2.2 (by omega),A4]
theorem D2t(c:S1)(h:E6R c):A4i c=some (c,()):=by
  obtain ⟨h1,h2,h3,h4,h5,h6⟩:=h;simp only [A4i,B2D,A4P c.2.1 (by omega),B6F _ h2,A2j c.2.2.2.1 (by omega),A2j c.2.2.2.2.1 (by omega),bO];refine F4 (A4h B2 c) (fun k=>((k:Int),c.1,c.2.2.1.1,c.2.2.1.2.1,c.2.2.2.1.1,c.2.2.2.2.1.1,c.2.2.2.2.2.2.1,c.2.2.2.2.2.2.2,c.2.1,c.2.2.1.2.2,c.2.2.2.1.2,c.2.2.2.2.1.2,c.2.2.2.2.2.1.take k,())) c.2.2.2.2.2.1.length (c,()) (fun k hk=>?_) ?_
  · have a1:(k:Int)<(c.2.2.2.2.2.1.length:Int):=by omega
    have a2:(0:Int)<=(k:Int):=by omega
    have a3:rd F8 c.2.2.2.2.2.1 (k:Int)=c.2.2.2.2.2.1[k]:=A49 (k:=F8) hk;have a4:=h6 _ (List.getElem_mem hk);simp only [A4h,A0 a1,A0 a2,cond_true,a3,A4P _ (show (c.2.2.2.2.2.1[k]).2.2.2.length<=1000000000 by omega),bO];rw [D5a (by simp;omega),w64 (by omega) (by omega),List.take_succ_eq_append_getElem hk];rfl
  · have a1:¬ ((c.2.2.2.2.2.1.length:Nat):Int)<(c.2.2.2.2.2.1.length:Int):=by omega
    simp only [A4h,A3 a1,cond_false];rw [List.take_of_length_le (Nat.le_refl _)]
def E2Q(c:S1)(j:Nat):Int:=(rd F8 c.2.2.2.2.2.1 (j:Int)).1
theorem str_eq(c:S1)(id:Int)(h:c.2.2.2.2.2.1.length<=2000000):∃ i,i<=c.2.2.2.2.2.1.length/\(∀ j,j<i->E2Q c j<id)/\(i<c.2.2.2.2.2.1.length->¬ E2Q c i<id)/\
    Q1 c id=some ((i:Int),(decide (i<c.2.2.2.2.2.1.length)&&decide (E2Q c i=id)),c,()):=by
  obtain ⟨i,h1,h2,h3,h4⟩:=A5m (A4m c id) (fun j=>((j:Int),())) c.2.2.2.2.2.1.length (fun j=>((j:Int),())) (fun j=>decide (E2Q c j<id)) (fun j hj=>by
    have a1:(j:Int)<(c.2.2.2.2.2.1.length:Int):=by omega
    have a2:(0:Int)<=(j:Int):=by omega
    simp only [A4m,A0 a1,A0 a2,cond_true];rw [w64 (by omega) (by omega)];unfold E2Q;cases decide ((rd F8 c.2.2.2.2.2.1 (j:Int)).1<id)<;>rfl) (by
    have a1:¬ ((c.2.2.2.2.2.1.length:Nat):Int)<(c.2.2.2.2.2.1.length:Int):=by omega
    simp only [A4m,A3 a1,cond_false])
  refine ⟨i,h1,fun j hj=>by simpa using h2 j hj,fun hi=>by simpa using h3 hi,?_⟩;simp only [Q1,B2J];rw [show ((0:Int),())=(fun j:Nat=>((j:Int),())) 0 from rfl,h4];simp only [bO];by_cases hi:i<c.2.2.2.2.2.1.length
  · rw [A0 (p:=(i:Int)<(c.2.2.2.2.2.1.length:Int)) (by omega),A0 (p:=(0:Int)<=(i:Int)) (by omega),A0 hi]
    rfl
  · rw [A3 (p:=(i:Int)<(c.2.2.2.2.2.1.length:Int)) (by omega),A3 hi]
    rfl
set_option maxRecDepth 100000
def I8:Nat->Nat->List Bool
  | 0,_=> []
  | n+1,v=>v.testBit n::I8 n v
theorem A2k:∀ n v,(I8 n v).length=n
  | 0,_=>rfl
  | n+1,v=>by simp only [I8,List.length_cons,A2k n v]
theorem A4R(m:Nat):∀ (n v:Nat),n<=m->I8 n (v % 2 ^ m)=I8 n v
  | 0,_,_=>rfl
  | n+1,v,h=>by
    simp only [I8];rw [A4R m n v (by omega),Nat.testBit_mod_two_pow,A0 (show n<m by omega),Bool.true_and]
theorem B0l:∀ a b v,I8 (a+b) v=I8 a (v / 2 ^ b)++I8 b v
  | 0,b,v=>by simp [I8]
  | a+1,b,v=>by
    rw [show a+1+b=(a+b)+1 by omega];simp only [I8,List.cons_append];rw [B0l a b v,Nat.testBit_div_two_pow]
theorem C0W:∀ n v w,v<2 ^ n->w<2 ^ n->I8 n v=I8 n w->v=w
  | 0,v,w,hv,hw,_=>by simp at hv hw;omega
  | n+1,v,w,hv,hw,h=>by
    simp only [I8,List.cons.injEq] at h;obtain ⟨h1,h2⟩:=h;rw [<- A4R n n v (Nat.le_refl _),<- A4R n n w (Nat.le_refl _)] at h2;have h3:=C0W n _ _ (Nat.mod_lt _ (Nat.two_pow_pos n)) (Nat.mod_lt _ (Nat.two_pow_pos n)) h2;rw [Nat.testBit_eq_decide_div_mod_eq,Nat.testBit_eq_decide_div_mod_eq] at h1;rw [Nat.pow_succ] at hv hw;have h0:=Nat.two_pow_pos n;generalize 2 ^ n=p at *
    have h4:=Nat.div_add_mod v p;have h5:=Nat.div_add_mod w p;have h6:v / p<2:=Nat.div_lt_of_lt_mul hv;have h7:w / p<2:=Nat.div_lt_of_lt_mul hw;have h8:v / p=w / p:=by
      clear h4 h5
      generalize v / p=a at *
      generalize w / p=b at *
      have q1:a=0\/a=1:=by omega
      have q2:b=0\/b=1:=by omega
      rcases q1 with rfl | rfl<;>rcases q2 with rfl | rfl<;>simp_all
    rw [h8] at h4;omega
theorem B2o:∀ n m,n<=m->I8 n (2 ^ m-1)=List.replicate n true
  | 0,_,_=>rfl
  | n+1,m,h=>by
    simp only [I8,List.replicate_succ];rw [B2o n m (by omega),Nat.testBit_two_pow_sub_one,A0 (show n<m by omega)]
def F5(l:List Int):List Bool:=l.flatMap fun x=>I8 8 x.toNat
theorem B8v(a b:List Int):F5 (a++b)=F5 a++F5 b:=by simp [F5]
theorem A3W(x:Int)(b:List Int):F5 (x::b)=I8 8 x.toNat++F5 b:=by simp [F5]
theorem D0k(x:Int):F5 [x]=I8 8 x.toNat:=by simp [F5]
theorem A00:∀ l:List Int,(F5 l).length=8*l.length
  | []=>rfl
  | x::l=>by
    have:=A00 l;rw [A3W,List.length_append,A2k,List.length_cons];omega
theorem B8w:∀ {a b:List Int},Byt a->Byt b->F5 a=F5 b->a=b
  | [],[],_,_,_=>rfl
  | [],y::b,_,_,h=>by have:=congrArg List.length h;rw [A00,A00] at this;simp at this
  | x::a,[],_,_,h=>by have:=congrArg List.length h;rw [A00,A00] at this;simp at this
  | x::a,y::b,ha,hb,h=>by
    rw [A3W,A3W] at h;have h1:=List.append_inj h (by rw [A2k,A2k]);have hx:=ha x List.mem_cons_self;have hy:=hb y List.mem_cons_self;have h2:=C0W 8 _ _ (by omega) (by omega) h1.1;have h3:=B8w (fun z hz=>ha z (List.mem_cons_of_mem _ hz)) (fun z hz=>hb z (List.mem_cons_of_mem _ hz)) h1.2;rw [h3,show x=y by omega]
def coN(x:Nat):Nat:=(codesT.getD x 0).toNat
def leN(x:Nat):Nat:=(lensT.getD x 0).toNat
def cod(x:Nat):List Bool:=I8 (leN x) (coN x)
theorem E2R:(List.range 257).all (fun x=>decide (0<=codesT.getD x 0)&&decide ((codesT.getD x 0).toNat<2 ^ (lensT.getD x 0).toNat))=true:=by kernel_rfl
theorem D85{x:Nat}(h:x<257):0<=codesT.getD x 0/\coN x<2 ^ leN x:=by
  have:=List.all_eq_true.1 E2R x (List.mem_range.2 h);simpa [coN,leN] using this
theorem D2u{x:Nat}(h:x<257):5<=lensT.getD x 0/\lensT.getD x 0<=30:=by
  have h:=List.all_eq_true.1 C9N (lensT.getD x 0) (by
    rw [List.getD_eq_getElem?_getD,List.getElem?_eq_getElem (by rw [T9];exact h)];exact List.getElem_mem _)
  simpa using h
def T0(l:List Nat):List Bool:=l.flatMap cod
theorem C2G(a b:List Nat):T0 (a++b)=T0 a++T0 b:=by simp [T0]
theorem B90{x y:Nat}(hx:x<9223372036854775808)(hy:y<9223372036854775808):M4 .i64 (x:Int) (y:Int)=((x &&& y:Nat):Int):=by
  have h:x &&& y<9223372036854775808:=Nat.lt_of_le_of_lt Nat.and_le_left hx;unfold M4;rw [BitVec.toNat_and,bits_nat (by simp only [IntKind.bits];omega),bits_nat (by simp only [IntKind.bits];omega)];exact D5P h
theorem D0l{x y:Nat}(hx:x<9223372036854775808)(hy:y<9223372036854775808):bOr .i64 (x:Int) (y:Int)=((x ||| y:Nat):Int):=D7o hx hy
theorem D0m{m:Nat}(h:m<64):(min (IntKind.u64.wrap (m:Int)).toNat IntKind.i64.bits)=m:=by
  have:IntKind.u64.wrap (m:Int)=m:=by
    simp only [IntKind.wrap,IntKind.bits,IntKind.signed,Bool.false_and];simp;omega
  rw [this];simp only [IntKind.bits];omega
theorem B91(m:Nat):((2:Int) ^ m)=((2 ^ m:Nat):Int):=by simp
theorem C5d{m n:Nat}(h:m<=n):2 ^ m<=2 ^ n:=Nat.pow_le_pow_right (by omega) h
theorem p62{m:Nat}(h:m<=62):2 ^ m<=4611686018427387904:=Nat.le_trans (C5d h) (by decide)
theorem D86{v m:Nat}(hm:m<62)(h:v*2 ^ m<9223372036854775808):IntKind.i64.wrap ((v:Int)*2 ^ (min (IntKind.u64.wrap (m:Int)).toNat IntKind.i64.bits))=((v*2 ^ m:Nat):Int):=by
  rw [D0m (by omega),B91,<- Int.natCast_mul,w64 (by omega) (by omega)]
theorem D0n{m:Nat}(hm:m<62):IntKind.i64.wrap (IntKind.i64.wrap (1*2 ^ (min (IntKind.u64.wrap (m:Int)).toNat IntKind.i64.bits))-1)=((2 ^ m-1:Nat):Int):=by
  have h1:=p62 (show m<=62 by omega);have h2:=Nat.two_pow_pos m;have:=D86 (v:=1) hm (by omega);rw [show ((1:Nat):Int)=1 from rfl] at this;rw [this,w64 (by omega) (by omega)];omega
theorem D87{x:Nat}(h:x<256):IntKind.u8.wrap (x:Int)=x:=by
  simp only [IntKind.wrap,IntKind.bits,IntKind.signed,Bool.false_and];simp;omega
theorem D88:∀ (k v n:Nat),v<2 ^ n->n<8*(k+1)->n<=60->∃ v' n':Nat,(dr k (v:Int) (n:Int)).1=v'/\(dr k (v:Int) (n:Int)).2.1=n'/\v'<2 ^ n'/\Byt (dr k (v:Int) (n:Int)).2.2/\F5 (dr k (v:Int) (n:Int)).2.2++I8 n' v' = I8 n v
  | 0,v,n,hv,h1,h2=>⟨v,n,rfl,rfl,hv,(fun x hx=>by cases hx),rfl⟩
  | k+1,v,n,hv,h1,h2=>by
    by_cases h:8<=n
    · have e:((n:Int)-8)=((n-8:Nat):Int):=by omega
      have hp:=p62 (show n<=62 by omega);have hq:=C5d (show n-8<=n by omega);have h0:=Nat.two_pow_pos (n-8);have e1:M4 .i64 (v:Int) (IntKind.i64.wrap (IntKind.i64.wrap (1*2 ^ (min (IntKind.u64.wrap ((n:Int)-8)).toNat IntKind.i64.bits))-1))=((v % 2 ^ (n-8):Nat):Int):=by
        rw [e,D0n (by omega),B90 (by omega) (by omega),Nat.and_two_pow_sub_one_eq_mod]
      have e2:IntKind.u8.wrap ((v:Int).fdiv (2 ^ (min (IntKind.u64.wrap ((n:Int)-8)).toNat IntKind.i64.bits)))=((v / 2 ^ (n-8):Nat):Int):=by
        rw [e,D0m (by omega),Int.fdiv_eq_ediv_of_nonneg _ (by rw [B91];omega),B91,<- Int.natCast_ediv,D87];refine Nat.div_lt_of_lt_mul ?_;rw [show n=(n-8)+8 by omega,Nat.pow_add] at hv;exact hv
      have e3:v / 2 ^ (n-8)<256:=by
        refine Nat.div_lt_of_lt_mul ?_;rw [show n=(n-8)+8 by omega,Nat.pow_add] at hv;exact hv
      obtain ⟨v',n',i1,i2,i3,i4,i5⟩:=D88 k (v % 2 ^ (n-8)) (n-8) (Nat.mod_lt _ h0) (by omega) (by omega);have hge:(n:Int)>=8:=by omega
      have hd:dr (k+1) (v:Int) (n:Int)=((dr k ((v % 2 ^ (n-8):Nat):Int) ((n-8:Nat):Int)).1,(dr k ((v % 2 ^ (n-8):Nat):Int) ((n-8:Nat):Int)).2.1,((v / 2 ^ (n-8):Nat):Int)::(dr k ((v % 2 ^ (n-8):Nat):Int) ((n-8:Nat):Int)).2.2):=by
        simp only [dr,if_pos hge];rw [e1,e2,e]
      rw [hd];refine ⟨v',n',i1,i2,i3,?_,?_⟩
      · intro x hx
        rcases List.mem_cons.1 hx with rfl | hx
        · generalize v / 2 ^ (n-8)=y at e3
          omega
        · exact i4 x hx
      · simp only []
        rw [A3W,List.append_assoc,i5,Int.toNat_natCast,A4R (n-8) (n-8) v (Nat.le_refl _),<- B0l 8 (n-8) v]
        congr 1
        omega
    · have hge:¬ (n:Int)>=8:=by omega
      refine ⟨v,n,?_,?_,hv,?_,?_⟩
      · simp only [dr,if_neg hge]
      · simp only [dr,if_neg hge]
      · simp only [dr,if_neg hge]
        intro x hx;cases hx
      · simp only [dr,if_neg hge]
        rfl
def D2v(s:X0):Nat->List Nat
  | 0=> []
  | k+1=>D2v s k ++ [(bt s k).toNat]
theorem D0o(s:X0)(k:Nat):leA s k=((leN (bt s k).toNat:Nat):Int):=by
  have:=D2u (C0S s k);simp only [leA,leN];omega
theorem E4W(s:X0)(k:Nat):coA s k=((coN (bt s k).toNat:Nat):Int):=by
  have:=D85 (C0S s k);simp only [coA,coN];omega
theorem D2w(s:X0):∀ k:Nat,∃ v n:Nat,(hst s k).1=v/\(hst s k).2.1=n/\v<2 ^ n/\n<8/\Byt (hst s k).2.2/\F5 (hst s k).2.2++I8 n v=T0 (D2v s k)
  | 0=>⟨0,0,rfl,rfl,by decide,by omega,(fun x hx=>by cases hx),rfl⟩
  | k+1=>by
    obtain ⟨v,n,h1,h2,h3,h4,h5,h6⟩:=D2w s k;have hl:=B8r s k;have hf:=(D85 (C0S s k)).2;rw [D0o] at hl;have hle:leN (bt s k).toNat<=30:=by omega
    generalize hL:leN (bt s k).toNat=L at *
    generalize hC:coN (bt s k).toNat=C at *
    have hp:v*2 ^ L+C<2 ^ (n+L):=by
      rw [Nat.pow_add];have:v*2 ^ L+2 ^ L<=2 ^ n*2 ^ L:=by rw [<- Nat.succ_mul];exact Nat.mul_le_mul_right _ h3
      omega
    have hq:2 ^ (n+L)<=2 ^ 38:=C5d (by omega);have hq':(2:Nat) ^ 38=274877906944:=by decide
    have e1:bOr .i64 (IntKind.i64.wrap ((hst s k).1*2 ^ (min (IntKind.u64.wrap (leA s k)).toNat IntKind.i64.bits))) (coA s k)=((v*2 ^ L+C:Nat):Int):=by
      rw [h1,D0o,E4W,hL,hC,D86 (by omega) (by omega),D0l (by omega) (by omega),Nat.mul_comm v,Nat.two_pow_add_eq_or_of_lt hf]
    obtain ⟨v',n',i1,i2,i3,i4,i5⟩:=D88 5 (v*2 ^ L+C) (n+L) hp (by omega) (by omega);have e2:(hst s k).2.1+leA s k=((n+L:Nat):Int):=by rw [h2,D0o,hL];omega
    have h7:=D2d s (k+1);simp only [hst,e1,e2] at h7;refine ⟨v',n',?_,?_,i3,?_,?_,?_⟩
    · simp only [hst,e1,e2];exact i1
    · simp only [hst,e1,e2];exact i2
    · omega
    · simp only [hst,e1,e2]
      intro x hx;rcases List.mem_append.1 hx with q | q
      · exact h5 x q
      · exact i4 x q
    · simp only [hst,e1,e2]
      rw [B8v,List.append_assoc,i5,B0l n L];have a1:(v*2 ^ L+C) / 2 ^ L=v:=by
        rw [Nat.mul_comm,Nat.mul_add_div (Nat.two_pow_pos L),Nat.div_eq_of_lt hf,Nat.add_zero]
      have a2:I8 L (v*2 ^ L+C)=I8 L C:=by
        rw [<- A4R L L (v*2 ^ L+C) (Nat.le_refl _),Nat.mul_comm,Nat.mul_add_mod,A4R L L C (Nat.le_refl _)]
      rw [a1,a2,<- List.append_assoc,h6];simp only [D2v,C2G]
      congr 1
      simp only [T0,List.flatMap_cons,List.flatMap_nil,List.append_nil,cod,hL,hC]
theorem C5e(s:X0):Byt (A0F s)/\∃ p,p<8/\F5 (A0F s)=T0 (D2v s s.size)++List.replicate p true:=by
  obtain ⟨v,n,h1,h2,h3,h4,h5,h6⟩:=D2w s s.size;unfold A0F;by_cases h:(hst s s.size).2.1>0
  · rw [if_pos h]
    have hn:0<n:=by omega
    have e1:IntKind.i64.wrap (8-(hst s s.size).2.1)=((8-n:Nat):Int):=by rw [h2,w64 (by omega) (by omega)];omega
    have hp:v*2 ^ (8-n)+(2 ^ (8-n)-1)<2 ^ (n+(8-n)):=by
      rw [Nat.pow_add];have:v*2 ^ (8-n)+2 ^ (8-n)<=2 ^ n*2 ^ (8-n):=by rw [<- Nat.succ_mul];exact Nat.mul_le_mul_right _ h3
      have:=Nat.two_pow_pos (8-n);omega
    rw [show n+(8-n)=8 by omega] at hp;have hq:2 ^ (8-n)<=2 ^ 8:=C5d (by omega);have h0:=Nat.two_pow_pos (8-n);have hm:v*2 ^ (8-n)<256:=by omega
    rw [e1,h1,D0n (by omega),D86 (by omega) (by omega),D0l (by omega) (by omega),Nat.mul_comm v,<- Nat.two_pow_add_eq_or_of_lt (show 2 ^ (8-n)-1<2 ^ (8-n) by omega),Nat.mul_comm _ v,D87 hp];refine ⟨fun x hx=>?_,8-n,by omega,?_⟩
    · rcases List.mem_append.1 hx with q | q
      · exact h5 x q
      · rcases List.mem_singleton.1 q with rfl
        omega
    · rw [B8v,D0k,Int.toNat_natCast,show (8:Nat)=n+(8-n) by omega,B0l n (8-n)]
      rw [show n+(8-n)-n=8-n by omega];have a1:(v*2 ^ (8-n)+(2 ^ (8-n)-1)) / 2 ^ (8-n)=v:=by
        rw [Nat.mul_comm,Nat.mul_add_div h0,Nat.div_eq_of_lt (by omega),Nat.add_zero]
      have a2:I8 (8-n) (v*2 ^ (8-n)+(2 ^ (8-n)-1))=List.replicate (8-n) true:=by
        rw [<- A4R (8-n) (8-n) _ (Nat.le_refl _),Nat.mul_comm,Nat.mul_add_mod,A4R (8-n) (8-n) _ (Nat.le_refl _),B2o _ _ (Nat.le_refl _)]
      rw [a1,a2,<- List.append_assoc,h6]
  · rw [if_neg h]
    refine ⟨h5,0,by omega,?_⟩;have:n=0:=by omega
    subst this;simpa [I8] using h6
set_option maxRecDepth 100000
def fdC:Nat->Nat->Int->Int->Option Nat
  | 0,_,_,_=>none
  | k+1,i,c,n=>if codesT.getD i 0=c/\lensT.getD i 0=n then some i else fdC k (i+1) c n
theorem C5f:∀ (k i:Nat) (c n:Int) (j:Nat),fdC k i c n=some j->i<=j/\j<i+k/\codesT.getD j 0=c/\lensT.getD j 0=n
  | 0,_,_,_,_,h=>by cases h
  | k+1,i,c,n,j,h=>by
    unfold fdC at h;by_cases hc:codesT.getD i 0=c/\lensT.getD i 0=n
    · rw [if_pos hc] at h
      injection h with h
      subst h;exact ⟨Nat.le_refl _,by omega,hc⟩
    · rw [if_neg hc] at h
      have:=C5f k (i+1) c n j h;omega
def A9F(c n:Nat):Option Nat:=fdC 257 0 (c:Int) (n:Int)
theorem B2p{c n j:Nat}(h:A9F c n=some j):j<257/\coN j=c/\leN j=n:=by
  obtain ⟨h1,h2,h3,h4⟩:=C5f _ _ _ _ _ h;refine ⟨by omega,?_,?_⟩
  · simp only [coN,h3];omega
  · simp only [leN,h4];omega
theorem D9b{c n:Nat}(h:A9F c n=some 256):n=30:=by
  have:=(B2p h).2.2;have e:leN 256=30:=by kernel_rfl
  omega
abbrev RdS:=Nat×Nat×List Int
def A73(st:RdS)(x:Bool):Option RdS:=
  if st.2.1+1>30 then none else match A9F (2*st.1+x.toNat) (st.2.1+1) with
  | some j=>if j<256 then some (0,0,st.2.2 ++ [(j:Int)]) else some (2*st.1+x.toNat,st.2.1+1,st.2.2)
  | none=>some (2*st.1+x.toNat,st.2.1+1,st.2.2)
def N2(st:RdS)(x:Bool):Option RdS:=
  match A9F (2*st.1+x.toNat) (st.2.1+1) with
  | some j=>if j=256 then none else if st.2.1+1>30 then none else some (0,0,st.2.2 ++ [(j:Int)])
  | none=>if st.2.1+1>30 then none else some (2*st.1+x.toNat,st.2.1+1,st.2.2)
def U7(f:RdS->Bool->Option RdS):List Bool->RdS->RdS×Bool
  | [],st=>(st,false)
  | x::xs,st=>match f st x with
    | some st'=>U7 f xs st'
    | none=>(st,true)
theorem D30(f:RdS->Bool->Option RdS):∀ (xs ys:List Bool) (st:RdS),U7 f (xs++ys) st=bif (U7 f xs st).2 then U7 f xs st else U7 f ys (U7 f xs st).1
  | [],ys,st=>by simp [U7]
  | x::xs,ys,st=>by
    simp only [List.cons_append,U7];cases f st x with
    | none=>rfl
    | some st'=>exact D30 f xs ys st'
def B4c(l:List Int):List Nat:=l.map Int.toNat
theorem C5g(n v:Nat)(x:Bool):I8 (n+1) (2*v+x.toNat)=I8 n v ++ [x]:=by
  rw [B0l n 1];cases x<;>simp [I8,Nat.testBit_zero]<;>(try (congr 1;omega))<;>omega
def RdI(done:List Bool)(st:RdS):Prop:=st.1<2 ^ st.2.1/\st.2.1<=30/\Byt st.2.2/\T0 (B4c st.2.2)++I8 st.2.1 st.1=done
theorem E2S{done:List Bool}{st:RdS}(h:RdI done st)(x:Bool)(h30:st.2.1+1<=30):RdI (done ++ [x]) (2*st.1+x.toNat,st.2.1+1,st.2.2):=by
  obtain ⟨h1,h2,h3,h4⟩:=h;refine ⟨?_,h30,h3,?_⟩
  · simp only [Nat.pow_succ]
    have:x.toNat<=1:=by cases x<;>simp
    omega
  · simp only [C5g]
    rw [<- List.append_assoc,h4]
theorem E4a{done:List Bool}{st:RdS}(h:RdI done st)(x:Bool){j:Nat}(hj:A9F (2*st.1+x.toNat) (st.2.1+1)=some j)(h2:j<256):RdI (done ++ [x]) (0,0,st.2.2 ++ [(j:Int)]):=by
  obtain ⟨h1,h30,h3,h4⟩:=h;obtain ⟨e1,e2,e3⟩:=B2p hj;refine ⟨by simp,by simp,?_,?_⟩
  · intro y hy
    rcases List.mem_append.1 hy with q | q
    · exact h3 y q
    · rcases List.mem_singleton.1 q with rfl
      omega
  · simp only [B4c,List.map_append,C2G,I8,List.append_nil]
    rw [show T0 (List.map Int.toNat [(j:Int)])=I8 (st.2.1+1) (2*st.1+x.toNat) by simp [T0,cod,e2,e3],C5g,<- List.append_assoc];exact congrArg (· ++ [x]) h4
theorem B92:∀ (xs done:List Bool) (st:RdS),RdI done st->
    ((U7 N2 xs st).2=false/\U7 A73 xs st=U7 N2 xs st/\RdI (done++xs) (U7 N2 xs st).1)\/
    ((U7 N2 xs st).2=true/\((U7 A73 xs st).2=true\/(U7 A73 xs st).1.2.1>=30)/\(T0 (B4c (U7 N2 xs st).1.2.2)).length+30<=(done++xs).length/\Byt (U7 N2 xs st).1.2.2)
  | [],done,st,h=>.inl ⟨rfl,rfl,by simpa [U7] using h⟩
  | x::xs,done,st,h=>by
    have hd:done++x::xs=(done ++ [x])++xs:=by simp
    have hlen:(T0 (B4c st.2.2)).length+st.2.1=done.length:=by
      have:=congrArg List.length h.2.2.2;rw [List.length_append,A2k] at this;exact this
    have hlost:∀ (ys:List Bool) (s:RdS),s.2.1>=30->(U7 A73 ys s).2=true\/(U7 A73 ys s).1.2.1>=30:=fun ys s hs=>by
      cases ys with
      | nil=>exact .inr hs
      | cons y ys=>
        left;simp only [U7];have:A73 s y=none:=by unfold A73;rw [if_pos (by omega)]
        rw [this]
    rw [hd];by_cases h30:st.2.1+1>30
    · right
      have e1:A73 st x=none:=by unfold A73;rw [if_pos h30]
      have e2:N2 st x=none:=by
        unfold N2;cases A9F (2*st.1+x.toNat) (st.2.1+1) with
        | none=>simp only [];rw [if_pos h30]
        | some j=>simp only [if_pos h30];split<;>rfl
      simp only [U7,e1,e2];exact ⟨trivial,.inl trivial,by simp only [List.length_append,List.length_singleton];omega,h.2.2.1⟩
    · cases hj:A9F (2*st.1+x.toNat) (st.2.1+1) with
      | none=>
        have e1:A73 st x=some (2*st.1+x.toNat,st.2.1+1,st.2.2):=by simp only [A73,if_neg h30,hj]
        have e2:N2 st x=some (2*st.1+x.toNat,st.2.1+1,st.2.2):=by simp only [N2,if_neg h30,hj]
        simp only [U7,e1,e2];exact B92 xs _ _ (E2S h x (by omega))
      | some j=>
        by_cases h256:j<256
        · have e1:A73 st x=some (0,0,st.2.2 ++ [(j:Int)]):=by simp only [A73,if_neg h30,hj,if_pos h256]
          have e2:N2 st x=some (0,0,st.2.2 ++ [(j:Int)]):=by simp only [N2,if_neg h30,hj,if_neg (show ¬ j=256 by omega)]
          simp only [U7,e1,e2];exact B92 xs _ _ (E4a h x hj h256)
        · have hj':j=256:=by have:=(B2p hj).1;omega
          subst hj';have e0:=D9b hj;right;have e1:A73 st x=some (2*st.1+x.toNat,st.2.1+1,st.2.2):=by simp only [A73,if_neg h30,hj,if_neg h256]
          have e2:N2 st x=none:=by simp only [N2,hj,if_true]
          simp only [U7,e1,e2];exact ⟨trivial,hlost xs _ (by simp only;omega),by simp only [List.length_append,List.length_singleton];omega,h.2.2.1⟩
theorem E2T{l:List Int}(hl:Byt l){k:Nat}(hk:k<l.length):bt (strOf l) (k:Int)=l[k]:=by
  have hb:=hl _ (List.getElem_mem hk);unfold bt strOf strOfNums;simp [List.getD,hk];omega
theorem C5h{l:List Int}(hl:Byt l):∀ k,k<=l.length->D2v (strOf l) k=(B4c l).take k
  | 0,_=>by simp [D2v]
  | k+1,h=>by
    rw [D2v,C5h hl k (by omega),E2T hl (by omega),List.take_succ_eq_append_getElem (show k<(B4c l).length by simp [B4c];omega)];simp [B4c]
theorem E2U{l:List Int}(hl:Byt l):D2v (strOf l) (strOf l).size=B4c l:=by
  rw [A88,C5h hl _ (Nat.le_refl _),List.take_of_length_le (by simp [B4c])]
def unH(b:List Int):List Int:=(U7 N2 (F5 b) (0,0,[])).1.2.2
def C7e(b:List Int):RdS×Bool:=U7 A73 (F5 b) (0,0,[])
def D31(b:List Int):Bool:=!(C7e b).2&&decide ((C7e b).1.2.1<=7)&&decide ((C7e b).1.1=2 ^ (C7e b).1.2.1-1)
theorem D89(b:List Int):Byt (unH b):=by
  rcases B92 (F5 b) [] (0,0,[]) ⟨by simp,by simp,(fun x hx=>by cases hx),by simp [B4c,T0,I8]⟩ with ⟨_,_,h⟩ | ⟨_,_,_,h⟩
  · exact h.2.2.1
  · exact h
theorem D8A(b:List Int):5*(unH b).length<=8*b.length:=by
  have hs:∀ l:List Int,Byt l->5*l.length<=(T0 (B4c l)).length:=by
    intro l
    induction l with
    | nil=>intro _;simp
    | cons x l ih=>
      intro hb;have h1:=ih fun y hy=>hb y (List.mem_cons_of_mem _ hy)
      have h2:=hb x List.mem_cons_self;have h3:=D2u (show x.toNat<257 by omega);simp only [B4c,List.map_cons,T0,List.flatMap_cons,List.length_append,List.length_cons,cod,A2k,leN] at h1 ⊢;omega
  have hb:=D89 b;have h1:=hs _ hb;have h2:=A00 b;rcases B92 (F5 b) [] (0,0,[]) ⟨by simp,by simp,(fun x hx=>by cases hx),by simp [B4c,T0,I8]⟩ with ⟨_,_,h⟩ | ⟨_,_,h,_⟩
  · have:=congrArg List.length h.2.2.2
    rw [List.length_append] at this;simp only [List.nil_append] at this;unfold unH at h1 ⊢;omega
  · simp only [List.nil_append] at h
    unfold unH at h1 ⊢;omega
theorem E5n(b:List Int)(hb:Byt b):(A0F (strOf (unH b))=b↔D31 b=true)/\(D31 b=true->(C7e b).1.2.2=unH b):=by
  have hu:=D89 b;obtain ⟨c1,p,c2,c3⟩:=C5e (strOf (unH b));rw [E2U hu] at c3;have hl:=A00 b;rcases B92 (F5 b) [] (0,0,[]) ⟨by simp,by simp,(fun x hx=>by cases hx),by simp [B4c,T0,I8]⟩ with ⟨h1,h2,h3⟩ | ⟨h1,h2,h3,h4⟩
  · obtain ⟨i1,i2,i3,i4⟩:=h3
    simp only [List.nil_append] at i4;have e:C7e b=U7 N2 (F5 b) (0,0,[]):=h2;have e2:(C7e b).2=false:=by rw [e];exact h1
    refine ⟨⟨fun hq=>?_,fun hq=>?_⟩,fun _=>by rw [e];rfl⟩
    · rw [hq,<- i4] at c3
      have c4:I8 _ _=List.replicate p true:=List.append_cancel_left (show T0 (B4c (unH b))++_=T0 (B4c (unH b))++_ from c3);have c5:=congrArg List.length c4;rw [A2k,List.length_replicate] at c5;unfold D31;rw [e2,e,c5];have c6:I8 p (U7 N2 (F5 b) (0,0,[])).1.1=I8 p (2 ^ p-1):=by
        rw [B2o p p (Nat.le_refl _),<- c4,c5]
      have c7:=C0W p _ _ (by rw [<- c5];exact i1) (by have:=Nat.two_pow_pos p;omega) c6;simp only [Bool.not_false,Bool.true_and,Bool.and_eq_true,decide_eq_true_eq];exact ⟨by omega,c7⟩
    · unfold D31 at hq
      rw [e2,e] at hq;simp only [Bool.not_false,Bool.true_and,Bool.and_eq_true,decide_eq_true_eq] at hq;obtain ⟨q1,q2⟩:=hq;refine B8w c1 hb ?_;rw [c3,<- i4];have hn:(U7 N2 (F5 b) (0,0,[])).1.2.1=p:=by
        have d1:=congrArg List.length c3;have d2:=congrArg List.length i4;rw [A00,List.length_append,List.length_replicate] at d1;rw [List.length_append,A2k,hl] at d2;unfold unH at d1;omega
      rw [q2,hn,B2o p p (Nat.le_refl _)];rfl
  · have hno:D31 b=false:=by
      unfold D31;rcases h2 with h2 | h2
      · rw [show (C7e b).2=true from h2];rfl
      · rw [show decide ((C7e b).1.2.1<=7)=false from A3 (by have:(C7e b).1.2.1>=30:=h2;omega)];simp
    refine ⟨⟨fun hq=>?_,fun hq=>by rw [hno] at hq;cases hq⟩,fun hq=>by rw [hno] at hq;cases hq⟩;exfalso;have d1:=congrArg List.length c3;rw [hq,hl,List.length_append,List.length_replicate] at d1;simp only [List.nil_append] at h3;unfold unH at d1;omega
set_option maxRecDepth 100000
def E51:List ((Int×Int)×Int):=(List.range 257).map fun k=>((codesT.getD k 0,lensT.getD k 0),(k:Int))
theorem D9c:mkM (codesT.zip lensT) 257=E51:=by kernel_rfl
theorem C9R(c n:Int):∀ (k i j:Nat),fdM ((List.range' i k).map fun q=>((codesT.getD q 0,lensT.getD q 0),(q:Int))) (c,n) j=(fdC k i c n).map fun (q:Nat)=>(j+(q-i),(q:Int))
  | 0,i,j=>rfl
  | k+1,i,j=>by
    rw [List.range'_succ,List.map_cons,fdM,fdC];by_cases h:codesT.getD i 0=c/\lensT.getD i 0=n
    · rw [if_pos ⟨h.1.symm,h.2.symm⟩,if_pos h]
      simp
    · rw [if_neg (fun e=>h ⟨e.1.symm,e.2.symm⟩),if_neg h,C9R c n k (i+1) (j+1)]
      cases hq:fdC k (i+1) c n with
      | none=>rfl
      | some q=>
        have:=(C5f k (i+1) c n q hq).1;simp only [Option.map_some,Option.some.injEq,Prod.mk.injEq,and_true];omega
theorem C9S(c n:Nat):fdM (mkM (codesT.zip lensT) 257) ((c:Int),(n:Int)) 0=(A9F c n).map fun (q:Nat)=>(q,(q:Int)):=by
  rw [D9c,E51,List.range_eq_range',C9R];unfold A9F;cases fdC 257 0 (c:Int) (n:Int)<;>simp
theorem D9d(c n:Nat):lkO (mkM (codesT.zip lensT) 257) ((c:Int),(n:Int))=(A9F c n).isSome:=by
  unfold lkO;rw [C9S];cases A9F c n<;>rfl
theorem D9e{c n j:Nat}(h:A9F c n=some j):lkV (mkM (codesT.zip lensT) 257) ((c:Int),(n:Int))=(j:Int):=by
  unfold lkV;rw [C9S,h];rfl
theorem E2V{x:Nat}(h:x<9223372036854775808):M4 .i64 (x:Int) 1=(((x.testBit 0).toNat:Nat):Int):=by
  rw [show (1:Int)=((1:Nat):Int) from rfl,B90 h (by omega)]
  congr 1
  rw [Nat.and_one_is_mod,Nat.testBit_zero];rcases Nat.mod_two_eq_zero_or_one x with e | e<;>simp [e]
theorem E2W{x k:Nat}(h:x<256):((x:Int).fdiv (2 ^ k))=((x / 2 ^ k:Nat):Int):=by
  rw [Int.fdiv_eq_ediv_of_nonneg _ (by rw [B91];exact Int.natCast_nonneg _),B91,<- Int.natCast_ediv]
theorem E5o{x k:Nat}(h:x<256)(hk:k<8):M4 .i64 (((x:Int).fdiv (2 ^ (min (IntKind.u64.wrap (k:Int)).toNat IntKind.i64.bits)))) 1=(((x.testBit k).toNat:Nat):Int):=by
  rw [D0m (by omega),E2W h,E2V (Nat.lt_of_le_of_lt (Nat.div_le_self _ _) (by omega)),Nat.testBit_div_two_pow,Nat.zero_add]
theorem E5p{v n:Nat}(hv:v<2 ^ n)(hn:n<=30)(x:Bool):bOr .i64 (IntKind.i64.wrap ((v:Int)*2)) ((x.toNat:Nat):Int)=((2*v+x.toNat:Nat):Int):=by
  have h1:=p62 (show n<=62 by omega);have h2:2 ^ n<=2 ^ 30:=C5d hn;have h3:(2:Nat) ^ 30=1073741824:=by decide
  have h4:x.toNat<2 ^ 1:=by cases x<;>simp
  rw [show (v:Int)*2=((v*2:Nat):Int) by omega,w64 (by omega) (by omega),D0l (by omega) (by cases x<;>simp),Nat.mul_comm v]
  congr 1
  have:=Nat.two_pow_add_eq_or_of_lt h4 v;simpa using this.symm
def RdG(st:RdS):Prop:=st.1<2 ^ st.2.1/\st.2.1<=30
theorem C5i{st st':RdS}{x:Bool}(h:RdG st)(e:N2 st x=some st'):RdG st'/\st'.2.2.length<=st.2.2.length+1:=by
  unfold N2 at e;have hx:x.toNat<=1:=by cases x<;>simp
  have hp:2*st.1+x.toNat<2 ^ (st.2.1+1):=by have:=h.1;rw [Nat.pow_succ];omega
  cases hj:A9F (2*st.1+x.toNat) (st.2.1+1) with
  | none=>
    rw [hj] at e;by_cases h30:st.2.1+1>30
    · simp only [if_pos h30] at e;cases e
    · simp only [if_neg h30,Option.some.injEq] at e
      subst e;exact ⟨⟨hp,by simp only;omega⟩,by simp⟩
  | some j=>
    rw [hj] at e;by_cases h256:j=256
    · simp only [if_pos h256] at e;cases e
    · by_cases h30:st.2.1+1>30
      · simp only [if_neg h256,if_pos h30] at e;cases e
      · simp only [if_neg h256,if_neg h30,Option.some.injEq] at e
        subst e;exact ⟨⟨by simp,by simp⟩,by simp⟩
theorem C0a(a:List Int)(j:Nat)(x:Nat)(hx:x<256)(hj:rd (.int .u8) a (j:Int)=(x:Int))(q1 q2:Int)(q3:List Int):∀ (k:Nat) (st:RdS),k<=8->RdG st->st.2.2.length+k<=1000000000000->j<1000000000000->
    B9 (A7J (codesT.zip lensT) a ((j:Int),q1,q2,q3,())) ((k:Int)-1,(st.1:Int),(st.2.1:Int),st.2.2,()) =
      (if (U7 N2 (I8 k x) st).2 then some (.inr (.inr (strOf (U7 N2 (I8 k x) st).1.2.2,()))) else some (.inl (((j+1:Nat):Int),((U7 N2 (I8 k x) st).1.1:Int),((U7 N2 (I8 k x) st).1.2.1:Int),(U7 N2 (I8 k x) st).1.2.2,())))
  | 0,st,_,_,_,hj2=>by
    rw [C1];have h:¬ ((0:Nat):Int)-1>=0:=by omega
    simp only [A7J,A3 h,cond_false,I8,U7];rw [w64 (n:=(j:Int)+1) (by omega) (by omega),show (j:Int)+1=((j+1:Nat):Int) by omega];rfl
  | k+1,st,h8,hg,hl,hj2=>by
    rw [C1];have e0:((k+1:Nat):Int)-1=(k:Int):=by omega
    have h0:(k:Int)>=0:=by omega
    have e1:IntKind.i64.wrap (x:Int)=(x:Int):=w64 (by omega) (by omega);have e2:=E5o hx (show k<8 by omega);have e3:=E5p hg.1 hg.2 (x.testBit k);have e4:IntKind.i64.wrap ((st.2.1:Int)+1)=((st.2.1+1:Nat):Int):=by have:=hg.2;rw [w64 (by omega) (by omega)];omega
    have e5:IntKind.i64.wrap ((k:Int)-1)=(k:Int)-1:=w64 (by omega) (by omega);rw [e0];simp only [A7J,A0 h0,cond_true,A3 (u64_nonneg _),cond_false,hj,e1,e2,e3,e4,e5,D9d];simp only [I8,U7];cases hs:A9F (2*st.1+(x.testBit k).toNat) (st.2.1+1) with
    | none=>
      simp only [Option.isSome_none,cond_false];by_cases h30:st.2.1+1>30
      · have d1:((st.2.1+1:Nat):Int)>30:=by omega
        have e6:N2 st (x.testBit k)=none:=by unfold N2;rw [hs];simp only [if_pos h30]
        rw [e6];simp only [A0 d1,cond_true,D4,if_true]
      · have d1:¬ ((st.2.1+1:Nat):Int)>30:=by omega
        have e6:N2 st (x.testBit k)=some (2*st.1+(x.testBit k).toNat,st.2.1+1,st.2.2):=by unfold N2;rw [hs];simp only [if_neg h30]
        have hg2:=C5i hg e6;rw [e6];simp only [A3 d1,cond_false,D4];exact C0a a j x hx hj q1 q2 q3 k _ (by omega) hg2.1 (by simp only;omega) hj2
    | some s=>
      have e7:=D9e hs;have hlt:=(B2p hs).1;simp only [Option.isSome_some,cond_true,e7];by_cases h256:s=256
      · have d1:(s:Int)=256:=by omega
        have e6:N2 st (x.testBit k)=none:=by unfold N2;rw [hs];simp only [if_pos h256]
        rw [e6];simp only [A0 d1,cond_true,D4,if_true]
      · have d1:¬ (s:Int)=256:=by omega
        by_cases h30:st.2.1+1>30
        · have d2:((st.2.1+1:Nat):Int)>30:=by omega
          have e6:N2 st (x.testBit k)=none:=by unfold N2;rw [hs];simp only [if_neg h256,if_pos h30]
          rw [e6];simp only [A3 d1,A0 d2,cond_true,cond_false,D4,if_true]
        · have d2:¬ ((st.2.1+1:Nat):Int)>30:=by omega
          have e6:N2 st (x.testBit k)=some (0,0,st.2.2 ++ [(s:Int)]):=by unfold N2;rw [hs];simp only [if_neg h256,if_neg h30]
          have hg2:=C5i hg e6;rw [e6];simp only [A3 d1,A3 d2,cond_false,D4,D87 (show s<256 by omega)];rw [gA (by simp;omega)];exact C0a a j x hx hj q1 q2 q3 k _ (by omega) hg2.1 (by simp only [List.length_append,List.length_singleton];omega) hj2
theorem D32(f:RdS->Bool->Option RdS)(hf:∀ st x st',RdG st->f st x=some st'->RdG st'/\st'.2.2.length<=st.2.2.length+1):∀ (xs:List Bool) (st:RdS),RdG st->RdG (U7 f xs st).1/\(U7 f xs st).1.2.2.length<=st.2.2.length+xs.length
  | [],st,h=>⟨h,by simp [U7]⟩
  | x::xs,st,h=>by
    simp only [U7];cases e:f st x with
    | none=>exact ⟨h,by simp only [List.length_cons];omega⟩
    | some st'=>
      have h1:=hf _ _ _ h e;have h2:=D32 f hf xs st' h1.1;exact ⟨h2.1,by simp only [List.length_cons];omega⟩
theorem C5j(a:List Int)(ha:Byt a)(hl:a.length<=1000000000):∀ (k j:Nat) (st:RdS),j+k=a.length->RdG st->st.2.2.length+8*k<=100000000000->
    B9 (A4l a (codesT.zip lensT)) ((j:Int),(st.1:Int),(st.2.1:Int),st.2.2,()) =
      (if (U7 N2 (F5 (a.drop j)) st).2 then some (.inr (strOf (U7 N2 (F5 (a.drop j)) st).1.2.2,())) else some (.inl ((U7 N2 (F5 (a.drop j)) st).1.2.2,())))
  | 0,j,st,hj,hg,hlen=>by
    rw [C1];have h:¬ (j:Int)<(a.length:Int):=by omega
    simp only [A4l,A3 h,cond_false];rw [List.drop_eq_nil_of_le (by omega)];rfl
  | k+1,j,st,hj,hg,hlen=>by
    rw [C1];have h:(j:Int)<(a.length:Int):=by omega
    have h0:(0:Int)<=(j:Int):=by omega
    have hx:=ha _ (List.getElem_mem (show j<a.length by omega));have hr:rd (.int .u8) a (j:Int)=((a[j].toNat:Nat):Int):=by rw [D0R (show j<a.length by omega)];exact (Int.toNat_of_nonneg hx.1).symm
    simp only [A4l,A0 h,A0 h0,cond_true];have e:=C0a a j a[j].toNat (by omega) hr (st.1:Int) (st.2.1:Int) st.2.2 8 st (by omega) hg (by omega) (by omega);rw [show ((8:Nat):Int)-1=7 from rfl] at e;rw [e];have hd:F5 (a.drop j)=I8 8 a[j].toNat++F5 (a.drop (j+1)):=by rw [List.drop_eq_getElem_cons (show j<a.length by omega),A3W]
    rw [hd,D30];have hg2:=D32 N2 (fun st x st' h e=>C5i h e) (I8 8 a[j].toNat) st hg;rw [A2k] at hg2;cases hs:(U7 N2 (I8 8 a[j].toNat) st).2 with
    | true=>simp only [if_true,hs,cond_true]
    | false=>
      simp only [Bool.false_eq_true,if_false,cond_false];exact C5j a ha hl k (j+1) _ (by omega) hg2.1 (by omega)
theorem D33(a:List Int)(ha:Byt a)(hl:a.length<=1000000000):A7t (codesT.zip lensT) a=some (strOf (unH a),()):=by
  have h257:(codesT.zip lensT).length=257:=by rw [List.length_zip,A22,T9];rfl
  simp only [A7t,B7a,A0 h257,cond_true];have e:=C5j a ha hl a.length 0 (0,0,[]) (by omega) ⟨by simp,by simp⟩ (by simp;omega);have e':B9 (A4l a (codesT.zip lensT)) (0,0,0,[],())=_:=e;rw [e',List.drop_zero];cases hs:(U7 N2 (F5 a) (0,0,[])).2 with
  | true=>simp only [if_true,D4];rfl
  | false=>simp only [Bool.false_eq_true,if_false,D4];rfl
theorem D9f{a b:List Int}(ha:Byt a)(hb:Byt b):((strOf a).toList == (strOf b).toList)=decide (a=b):=by
  by_cases h:a=b
  · subst h;simp
  · rw [A3 h]
    cases hq:((strOf a).toList == (strOf b).toList) with
    | false=>rfl
    | true=>exact absurd (D9K ha hb (by simpa using hq)) h
def A6E(a:List Int):X0×Bool×Unit:=if D31 a=true then (strOf (unH a),true,()) else (⟨#[]⟩,false,())
theorem D34(a:List Int)(ha:Byt a)(hl:a.length<=500000000):A7u a=some (A6E a):=by
  have hz:(strOf (unH a)).size<=1000000000000:=by rw [A88];have:=D8A a;omega
  have hu:=D8A a;simp only [A7u,B7b,B8p,D33 a ha (by omega),bO];rw [C9O _ [] (by simp) (by rw [A88];omega)];simp only [bO,List.nil_append,A5u,A9k];rw [D9f (C5e _).1 ha];have h:=(E5n a ha).1;unfold A6E;by_cases hq:D31 a=true
  · rw [if_pos hq,A0 (h.2 hq)];rfl
  · rw [if_neg hq,A3 (fun e=>hq (h.1 e))];rfl
set_option maxRecDepth 100000
def byN(b:List Int)(p:Nat):Nat:=(b.getD p 0).toNat
def gpN(b:List Int)(p n i:Nat):Nat:=n+byN b p % 128*2 ^ (7*i)
def gpL(b:List Int):Nat->Nat->Nat->Nat->Int×Int×Bool×Unit
  | 0,_,_,_=>(0,0,false,())
  | k+1,p,n,i=>if p<b.length then (if byN b p<128 then (if gpN b p n i>16777216 then (0,0,false,()) else ((gpN b p n i:Int),((p+1:Nat):Int),true,())) else gpL b k (p+1) (gpN b p n i) (i+1)) else (0,0,false,())
def B3(b:List Int)(p m:Nat):Int×Int×Bool×Unit:=
  if p<b.length then (if byN b p % 2 ^ m<2 ^ m-1 then (((byN b p % 2 ^ m:Nat):Int),((p+1:Nat):Int),true,()) else gpL b 4 (p+1) (byN b p % 2 ^ m) 0) else (0,0,false,())
theorem B7p{b:List Int}(hb:Byt b){p:Nat}(h:p<b.length):rd (.int .u8) b (p:Int)=(byN b p:Int)/\byN b p<256:=by
  have h1:=C5N hb p;have e:rd (.int .u8) b (p:Int)=b.getD p 0:=by simp [rd,zd]
  refine ⟨e.trans (show b.getD p 0=(((b.getD p 0).toNat:Nat):Int) by omega),?_⟩;unfold byN;omega
theorem D8B(b:List Int):∀ k p n i,(gpL b k p n i).2.2.1=true->0<=(gpL b k p n i).1/\(gpL b k p n i).1<=16777216/\(p:Int)<(gpL b k p n i).2.1/\(gpL b k p n i).2.1<=b.length
  | 0,_,_,_,h=>by cases h
  | k+1,p,n,i,h=>by
    unfold gpL at h ⊢;by_cases h1:p<b.length
    · rw [if_pos h1] at h ⊢
      by_cases h2:byN b p<128
      · rw [if_pos h2] at h ⊢
        by_cases h3:gpN b p n i>16777216
        · rw [if_pos h3] at h;cases h
        · rw [if_neg h3]
          simp only [];omega
      · rw [if_neg h2] at h ⊢
        have:=D8B b k _ _ _ h;omega
    · rw [if_neg h1] at h;cases h
theorem A23(b:List Int)(p m:Nat)(hm:m<=8)(h:(B3 b p m).2.2.1=true):0<=(B3 b p m).1/\(B3 b p m).1<=16777216/\(p:Int)<(B3 b p m).2.1/\(B3 b p m).2.1<=b.length:=by
  unfold B3 at h ⊢;by_cases h1:p<b.length
  · rw [if_pos h1] at h ⊢
    by_cases h2:byN b p % 2 ^ m<2 ^ m-1
    · rw [if_pos h2]
      have:2 ^ m<=2 ^ 8:=C5d hm;simp only [];omega
    · rw [if_neg h2] at h ⊢
      have:=D8B b _ _ _ _ h;omega
  · rw [if_neg h1] at h;cases h
theorem D8C{x m:Nat}(hx:x<256)(hm:m<=8):M4 .i64 (x:Int) ((2 ^ m-1:Nat):Int)=((x % 2 ^ m:Nat):Int):=by
  have:2 ^ m<=2 ^ 8:=C5d hm;rw [B90 (by omega) (by omega),Nat.and_two_pow_sub_one_eq_mod]
theorem E6S{x:Nat}(hx:x<256):M4 .i64 (x:Int) 127=((x % 128:Nat):Int):=D8C (m:=7) hx (by omega)
theorem E5q{b:List Int}{p n i:Nat}(hi:i<4)(hn:n<=255+128 ^ i):gpN b p n i<=255+128 ^ (i+1)/\byN b p % 128*2 ^ (7*i)<=268435456:=by
  have e:2 ^ (7*i)=128 ^ i:=by rw [Nat.pow_mul]
  have h1:byN b p % 128<128:=Nat.mod_lt _ (by omega);have h2:byN b p % 128*128 ^ i<=127*128 ^ i:=Nat.mul_le_mul_right _ (by omega);have h3:128 ^ (i+1)=128 ^ i*128:=Nat.pow_succ ..;have h4:128 ^ i<=128 ^ 3:=Nat.pow_le_pow_right (by omega) (by omega);unfold gpN;rw [e];omega
theorem E52{b:List Int}(hb:Byt b)(hl:b.length<=500000000):∀ (k p n i:Nat),k+i=4->n<=255+128 ^ i->p<=2000000000->
    (D4 (B9 (A17 b) ((p:Int),(n:Int),(i:Int),())) fun (m3:Unit)=>some (0,0,false,()))=some (gpL b k p n i)
  | 0,p,n,i,hk,hn,hp=>by
    have h:¬ (i:Int)<4:=by omega
    rw [C1];simp only [A17,A3 h,cond_false,D4,gpL]
  | k+1,p,n,i,hk,hn,hp=>by
    have h:(i:Int)<4:=by omega
    rw [C1];by_cases h1:p<b.length
    · have d1:(p:Int)<(b.length:Int):=by omega
      have d2:(0:Int)<=(p:Int):=by omega
      obtain ⟨e1,e2⟩:=B7p hb h1;have hg:=E5q (b:=b) (p:=p) (show i<4 by omega) hn;have h5:128 ^ (i+1)<=128 ^ 4:=Nat.pow_le_pow_right (by omega) (by omega);have e3:IntKind.i64.wrap (byN b p:Int)=(byN b p:Int):=w64 (by omega) (by omega);have e4:IntKind.i64.wrap (7*(i:Int))=((7*i:Nat):Int):=by rw [w64 (by omega) (by omega)];omega
      have e5:=D86 (v:=byN b p % 128) (m:=7*i) (by omega) (by omega);have e6:IntKind.i64.wrap ((n:Int)+((byN b p % 128*2 ^ (7*i):Nat):Int))=(gpN b p n i:Int):=by
        have e0:(n:Int)+((byN b p % 128*2 ^ (7*i):Nat):Int)=((gpN b p n i:Nat):Int):=by unfold gpN;omega
        rw [e0];exact D5P (by omega)
      have e7:IntKind.i64.wrap ((p:Int)+1)=((p+1:Nat):Int):=by rw [w64 (by omega) (by omega)];omega
      have e8:IntKind.i64.wrap ((i:Int)+1)=((i+1:Nat):Int):=by rw [w64 (by omega) (by omega)];omega
      simp only [A17,A0 h,A0 d1,A0 d2,cond_true,bSl,A3 (u64_nonneg _),cond_false,e1,e3,E6S e2,e4,e5,e6,e7,e8,gpL,if_pos h1];by_cases h2:byN b p<128
      · rw [A0 (show (byN b p:Int)<128 by omega),if_pos h2]
        by_cases h3:gpN b p n i>16777216
        · rw [A0 (show (gpN b p n i:Int)>16777216 by omega),if_pos h3];rfl
        · rw [A3 (show ¬ (gpN b p n i:Int)>16777216 by omega),if_neg h3];rfl
      · rw [A3 (show ¬ (byN b p:Int)<128 by omega),if_neg h2]
        exact E52 hb hl k (p+1) _ (i+1) (by omega) hg.1 (by omega)
    · have d1:¬ (p:Int)<(b.length:Int):=by omega
      simp only [A17,A0 h,A3 d1,cond_true,cond_false,D4,gpL,if_neg h1]
theorem B4d{b:List Int}(hb:Byt b)(hl:b.length<=500000000)(p m:Nat)(hp:p<=1000000000)(hm:1<=m/\m<=8):A09 b (p:Int) (m:Int)=some (B3 b p m):=by
  have d1:decide ((1:Int)<=(m:Int)/\(m:Int)<=8)=true:=A0 (by omega);have e1:IntKind.i64.wrap ((b.length:Int)-1)=(b.length:Int)-1:=w64 (by omega) (by omega);simp only [A09,A9j,H1,bO,d1,Bool.not_true,cond_false,e1];unfold B3;by_cases h1:p<b.length
  · have d2:decide ((0:Int)<=(p:Int)/\(p:Int)<=(b.length:Int)-1)=true:=A0 (by omega)
    have d3:(p:Int)<(b.length:Int):=by omega
    obtain ⟨q1,q2⟩:=B7p hb h1;have e2:=D0n (m:=m) (by omega);have e3:IntKind.i64.wrap (byN b p:Int)=(byN b p:Int):=w64 (by omega) (by omega);have e7:IntKind.i64.wrap ((p:Int)+1)=((p+1:Nat):Int):=by rw [w64 (by omega) (by omega)];omega
    have h8:byN b p % 2 ^ m<=255:=by have:=Nat.mod_le (byN b p) (2 ^ m);omega
    simp only [d2,Bool.not_true,cond_false,bSl,A3 (u64_nonneg _),A0 (show (0:Int)<=(p:Int) by omega),A0 d3,cond_true,q1,e2,e3,e7,D8C q2 hm.2,if_pos h1];by_cases h2:byN b p % 2 ^ m<2 ^ m-1
    · rw [A0 (show ((byN b p % 2 ^ m:Nat):Int)<((2 ^ m-1:Nat):Int) by omega),if_pos h2];rfl
    · rw [A3 (show ¬ ((byN b p % 2 ^ m:Nat):Int)<((2 ^ m-1:Nat):Int) by omega),if_neg h2]
      exact E52 hb hl 4 (p+1) _ 0 (by omega) (by omega) (by omega)
  · have d2:decide ((0:Int)<=(p:Int)/\(p:Int)<=(b.length:Int)-1)=false:=A3 (by omega)
    simp only [d2,Bool.not_false,cond_true,bSr,if_neg h1]
def A9G(b:List Int)(p n:Nat):List Int:=(b.take (p+n)).drop p
def J5(b:List Int)(p:Nat):X0×Int×Bool×Unit:=
  if (B3 b p 7).2.2.1=false then (⟨#[]⟩,0,false,()) else if (B3 b p 7).1>4000 then (⟨#[]⟩,0,false,()) else if (B3 b p 7).1>(b.length:Int)-(B3 b p 7).2.1 then (⟨#[]⟩,0,false,())
  else if byN b p<128 then (strOf (A9G b (B3 b p 7).2.1.toNat (B3 b p 7).1.toNat),(B3 b p 7).2.1+(B3 b p 7).1,true,())
  else if (A6E (A9G b (B3 b p 7).2.1.toNat (B3 b p 7).1.toNat)).2.1=false then (⟨#[]⟩,0,false,())
  else if (((A6E (A9G b (B3 b p 7).2.1.toNat (B3 b p 7).1.toNat)).1.size:Int)>4000) then (⟨#[]⟩,0,false,())
  else ((A6E (A9G b (B3 b p 7).2.1.toNat (B3 b p 7).1.toNat)).1,(B3 b p 7).2.1+(B3 b p 7).1,true,())
theorem D9g{b:List Int}(hb:Byt b)(p n:Nat):Byt (A9G b p n):=A89 (B4T hb _) _
theorem D9h(b:List Int)(p n:Nat):(A9G b p n).length<=b.length:=by simp [A9G];omega
theorem A7f{b:List Int}(p:Nat)(h:(J5 b p).2.2.1=true):(J5 b p).1.size<=4000/\(p:Int)<(J5 b p).2.1/\(J5 b p).2.1<=b.length:=by
  unfold J5 at h ⊢;by_cases h1:(B3 b p 7).2.2.1=false
  · rw [if_pos h1] at h;cases h
  have hr:=A23 b p 7 (by omega) (by simpa using h1);rw [if_neg h1] at h ⊢;by_cases h2:(B3 b p 7).1>4000
  · rw [if_pos h2] at h;cases h
  rw [if_neg h2] at h ⊢;by_cases h3:(B3 b p 7).1>(b.length:Int)-(B3 b p 7).2.1
  · rw [if_pos h3] at h;cases h
  rw [if_neg h3] at h ⊢;by_cases h4:byN b p<128
  · rw [if_pos h4]
    refine ⟨?_,by simp only;omega,by simp only;omega⟩;rw [A88];simp only [A9G,List.length_drop,List.length_take];omega
  rw [if_neg h4] at h ⊢;by_cases h5:(A6E (A9G b (B3 b p 7).2.1.toNat (B3 b p 7).1.toNat)).2.1=false
  · rw [if_pos h5] at h;cases h
  rw [if_neg h5] at h ⊢;by_cases h6:(((A6E (A9G b (B3 b p 7).2.1.toNat (B3 b p 7).1.toNat)).1.size:Int)>4000)
  · rw [if_pos h6] at h;cases h
  rw [if_neg h6];refine ⟨by simp only;omega,by simp only;omega,by simp only;omega⟩
end Go.Proofs.YthnfghmjipikhaaGreatDoor.Ev
