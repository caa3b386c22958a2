/- What the plain functions of the program and of the reference answer: laws of plain data. -/
import Derived.Test.YthnfghmjipikhaaGreatDoorPu
import Derived.Laws.Strings
import Derived.Lib.Split
import Derived.Lib.Atoi
import Derived.Laws.BitsLemmas
import Derived.Lib.ItoaNum
set_option linter.unusedVariables false
set_option linter.unusedSimpArgs false
set_option linter.unusedSectionVars false
namespace Go.Proofs.YthnfghmjipikhaaGreatDoor.Ev
open IntKind (i64 u8 u64 u32)
theorem w64{n:Int}(h0:-9223372036854775808<=n)(h1:n<9223372036854775808):i64.wrap n=n:=by
  simp only [IntKind.wrap,IntKind.bits,IntKind.signed,L2];simp;split<;>omega
theorem C8D{α β:Type}(f:α->Option (α⊕β))(μ:α->Nat)(I:α->Prop)(Q:β->Prop)
    (h:∀ x,I x->(∃ y,f x=some (.inl y)/\I y/\μ y<μ x)\/∃ z,f x=some (.inr z)/\Q z):∀ x,I x->∃ z,H8 f x=some z/\Q z:=by
  intro x;generalize hn:μ x=n
  induction n using Nat.strongRecOn generalizing x with
  | ind n ih=>
    intro hx;rw [H9];rcases h x hx with ⟨y,e,hy,hl⟩ | ⟨z,e,hz⟩
    · rw [e];exact ih (μ y) (by omega) y rfl hy
    · rw [e];exact ⟨z,rfl,hz⟩
theorem A0l{α β:Type}(f:α->Option (α⊕β))(s:Nat->α)(n:Nat)(z:β)(h:∀ i,i<n->f (s i)=some (.inl (s (i+1))))(he:f (s n)=some (.inr z)):H8 f (s 0)=some z:=by
  have key:∀ k i,i+k=n->H8 f (s i)=some z:=by
    intro k
    induction k with
    | zero=>intro i hi;rw [H9,show i=n by omega,he]
    | succ k ih=>intro i hi;rw [H9,h i (by omega)];exact ih (i+1) (by omega)
  exact key n 0 (by omega)
theorem A9O{α β:Type}(f:α->Option (α⊕β))(s:Nat->α)(n:Nat)(z:Nat->β)(go:Nat->Bool)(h:∀ i,i<n->f (s i)=if go i then some (.inl (s (i+1))) else some (.inr (z i)))(he:f (s n)=some (.inr (z n))) :
    ∃ i,i<=n/\(∀ j,j<i->go j=true)/\(i<n->go i=false)/\H8 f (s 0)=some (z i):=by
  have key:∀ k i,i+k=n->(∀ j,j<i->go j=true)->∃ i',i'<=n/\(∀ j,j<i'->go j=true)/\(i'<n->go i' = false)/\H8 f (s i)=some (z i'):=by
    intro k
    induction k with
    | zero=>
      intro i hi hg;obtain rfl:i=n:=by omega
      exact ⟨i,C1 _,hg,fun h=>absurd h (by omega),by rw [H9,he]⟩
    | succ k ih=>
      intro i hi hg;cases hgo:go i with
      | true=>
        obtain ⟨i',h1,h2,h3,h4⟩:=ih (i+1) (by omega) (fun j hj=>by
          by_cases h:j<i
          · exact hg j h
          · rw [show j=i by omega];exact hgo)
        refine ⟨i',h1,h2,h3,?_⟩;rw [H9,h i (by omega),A9 hgo];exact h4
      | false=>
        refine ⟨i,by omega,hg,fun _=>hgo,?_⟩;rw [H9,h i (by omega),hgo];rfl
  exact key n 0 (by omega) (fun j hj=>by omega)
theorem D0s(s:X0)(i:Int):0<=bt s i:=by unfold bt;omega
theorem C1R(s:X0)(i:Int):bt s i<256:=by
  have:=(s.data.toList.getD i.toNat 0).toNat_lt;unfold bt;omega
theorem B0p{k:K}{xs:List k.T}{i:Nat}(h:i<xs.length):rd k xs (i:Int)=xs[i]:=by
  unfold rd;rw [E2];simp [List.getD,h]
theorem C9F{κ:IntKind}{xs:List Int}{i:Nat}(h:i<xs.length):rd (.int κ) xs (i:Int)=xs[i]:=B0p (k:=.int κ) h
theorem E3G{xs:List X0}{i:Nat}(h:i<xs.length):rd .str xs (i:Int)=xs[i]:=B0p (k:=.str) h
def Byt(a:List Int):Prop:=∀ x∈a,0<=x/\x<256
theorem A0{p:Prop} [Decidable p] (h:p):decide p=true:=R3 h
theorem A8{p:Prop} [Decidable p] (h:¬ p):decide p=false:=T3 h
def V7(go:Nat->Bool):Nat->Nat->Nat
  | i,0=>i
  | i,k+1=>if go i then V7 go (i+1) k else i
theorem C8E(go:Nat->Bool):∀ k i,V7 go i k<=i+k
  | 0,i=>C1 _
  | k+1,i=>by
    simp only [V7];split
    · have:=C8E go k (i+1);omega
    · omega
theorem B6I(go:Nat->Bool):∀ k i,V7 go i k<i+k->go (V7 go i k)=false
  | 0,i,h=>by simp [V7] at h
  | k+1,i,h=>by
    simp only [V7] at h ⊢;split
    · rename_i hg
      rw [A9 hg] at h;exact B6I go k (i+1) (by omega)
    · rename_i hg
      simpa using hg
theorem B8A{α β:Type}(f:α->Option (α⊕β))(s:Nat->α)(n:Nat)(z:Nat->β)(go:Nat->Bool)(h:∀ i,i<n->f (s i)=if go i then some (.inl (s (i+1))) else some (.inr (z i)))(he:f (s n)=some (.inr (z n))) :
    H8 f (s 0)=some (z (V7 go 0 n)):=by
  have key:∀ k i,i+k=n->H8 f (s i)=some (z (V7 go i k)):=by
    intro k
    induction k with
    | zero=>
      intro i hi;obtain rfl:i=n:=by omega
      rw [H9,he];rfl
    | succ k ih=>
      intro i hi;rw [H9,h i (by omega)];simp only [V7];cases go i with
      | true=>simp only [J4];exact ih (i+1) (by omega)
      | false=>rfl
  exact key n 0 (by omega)
theorem E2W(L:Int×Unit->Option ((Int×Unit)⊕(Bool×Unit)))(n:Nat)(hn:n<=maxLen)(go:Nat->Bool)(hs:∀ i:Nat,i<n->L ((i:Int),())=bif go i then some (.inl (i64.wrap ((i:Int)+1),())) else some (.inr (false,())))
    (he:L ((n:Int),())=some (.inr (true,()))):H8 L (0,())=some ((List.range n).all go,()):=by
  have h:=B8A L (fun i=>((i:Int),())) n (fun i=>(decide (i=n),())) go (fun i hi=>by
    rw [hs i hi,w64 (by omega) (by simp only [maxLen] at hn;omega)];cases go i with
    | true=>rfl
    | false=>simp only [J0,J1,A7];rw [A8 (by omega)]) (by rw [he];simp)
  have h':H8 L (0,())=some (decide (V7 go 0 n=n),()):=h;rw [h'];have key:∀ k i,decide (V7 go i k=i+k)=((List.range k).all fun j=>go (i+j)):=by
    intro k
    induction k with
    | zero=>intro i;simp [V7]
    | succ k ih=>
      intro i;have e:((List.range (k+1)).all fun j=>go (i+j))=(go i&&(List.range k).all fun j=>go (i+1+j)):=by
        rw [List.range_succ_eq_map,List.all_cons,List.all_map];simp only [K7]
        congr 2
        funext j
        simp only [Function.comp]
        congr 1
        omega
      rw [e,<- ih (i+1)];by_cases hg:go i=true
      · have e1:V7 go i (k+1)=V7 go (i+1) k:=by simp only [V7];rw [A9 hg]
        rw [Bool.eq_iff_iff,hg];simp only [I8,L2,e1];omega
      · have e1:V7 go i (k+1)=i:=by simp only [V7];rw [A5 hg]
        rw [Bool.eq_iff_iff];simp only [I8,B5,e1];constructor
        · intro h;omega
        · intro h;exact absurd h.1 hg
  have k0:=key n 0;simp only [E1] at k0;rw [k0]
abbrev D9g:=X0×List Int×Int×Int
theorem D5S(a b c:Int):C1Q a b c=some (decide (b<=a/\a<=c),()):=by
  simp only [C1Q,D0k];by_cases h:b<=a<;>by_cases h2:a<=c<;>simp [h,h2]
theorem O9(a b c:Int):M9 a b c=some (decide (b<=a/\a<=c),()):=D5S a b c
def D3V(s:X0)(i:Nat):Bool:=decide (97<=bt s i/\bt s i<=122)||decide (48<=bt s i/\bt s i<=57)
def idB(s:X0):Bool:=(List.range s.size).all (D3V s)&&decide (1<=(s.size:Int)/\(s.size:Int)<=8)
theorem D72(s:X0)(h:s.size<=maxLen)(i:Nat)(hi:i<s.size):B5e s ((i:Int),())=if D3V s i then some (.inl (((i+1:Nat):Int),())) else some (.inr (.inr (false,()))):=by
  have h1:((i:Int)<(s.size:Int)):=by omega
  have h2:(0:Int)<=(i:Int):=by omega
  simp only [B5e,A0 h1,A0 h2,B2];rw [w64 (by omega) (by simp only [maxLen] at h;omega)];unfold D3V;by_cases a:bt s i>=97<;>by_cases b:bt s i<=122<;>by_cases c:bt s i>=48<;>by_cases d:bt s i<=57<;>simp [a,b,c,d]
theorem E3w{s:X0}{f:Int×Unit->Option ((Int×Unit)⊕(Unit⊕(Bool×Unit)))}(hs:∀ i:Nat,i<s.size->f ((i:Int),())=if D3V s i then some (.inl (((i+1:Nat):Int),())) else some (.inr (.inr (false,()))))
    (he:f ((s.size:Int),())=some (.inr (.inl ()))) (g:Unit->Option (Bool×Unit)) (hg:g ()=some (decide (1<=(s.size:Int)/\(s.size:Int)<=8),())):K9 (H8 f (0,())) g=some (idB s,()):=by
  obtain ⟨i,h1,h2,h3,h4⟩:=A9O f (fun i=>((i:Int),())) s.size (fun i=>if i<s.size then .inr (false,()) else .inl ()) (D3V s) (fun i hi=>by
    simp only [A9 hi];exact hs i hi) (by simp only [A50,J1];exact he)
  have h4':H8 f (0,())=some (if i<s.size then .inr (false,()) else .inl ()):=h4;rw [h4'];unfold idB;by_cases hi:i<s.size
  · rw [A9 hi]
    have:(List.range s.size).all (D3V s)=false:=by
      rw [A8p];exact ⟨i,A1F.2 hi,by simp [h3 hi]⟩
    simp [K9,this]
  · rw [A5 hi]
    have:(List.range s.size).all (D3V s)=true:=by
      rw [C4];intro j hj;exact h2 j (by have:=A1F.1 hj;omega)
    simp only [K9,this,hg,L2]
theorem D5T(s:X0)(h:s.size<=maxLen):B7r s=some (idB s,()):=by
  simp only [B7r,C5b];exact E3w (D72 s h) (by simp [B5e]) _ (by simp only [O9,B3])
theorem D9h{R:Type}(a:Option R):eqO a a=a:=by
  unfold eqO;rw [A9 rfl]
theorem C74(a:List Int)(h:a.length<=140737488355328):G2 a=some (a,()):=by
  simp only [G2,A1f];have e:(bif decide (([]:List Int).length+a.length<=9223372036854775807) then bif decide ((([]:List Int).length+a.length)*1<=140737488355328) then some (([]++a),()) else none else none)=some (a,()):=by
    rw [A0 (by simp;omega),A0 (by simp;omega)];simp
  rw [e];cases a with
  | nil=>simp [D9h]
  | cons x xs=>simp
def C8F(n:Int)(k j:Nat):Int:=u8.wrap (n.fdiv (2 ^ (8*(k-1-j))))
def big(n:Int)(k:Nat):List Int:=(List.range k).map (C8F n k)
theorem A65(n:Int)(k:Nat):(big n k).length=k:=by simp [big]
theorem E4l{n:Int}(h0:0<=n)(h1:n<18446744073709551616):u64.wrap n=n:=by
  simp only [IntKind.wrap,IntKind.bits,IntKind.signed];simp;omega
theorem E1n(v:Int)(b:List Int)(k:Nat)(hk:k<=8)(hb:b.length+8<=140737488355328):H8 (A4K (v,())) ((k:Int)-1,b,())=some (b++big v k,()):=by
  have key:=A0l (A4K (v,())) (fun j=>((k:Int)-1-(j:Int),b++(List.range j).map (C8F v k),())) k (b++big v k,()) (fun j hj=>?_) ?_
  · simpa using key
  · have h1:(k:Int)-1-(j:Int)>=0:=by omega
    have e1:(k:Int)-1-(j:Int)=((k-1-j:Nat):Int):=by omega
    have hs:u64.wrap (i64.wrap (8*((k:Int)-1-(j:Int))))=((8*(k-1-j):Nat):Int):=by
      rw [w64 (by omega) (by omega),E4l (by omega) (by omega)];omega
    have hm:min (8*(k-1-j)) i64.bits=8*(k-1-j):=W4 (by simp only [IntKind.bits];omega);simp only [A4K,A0 h1,B2,hs,E2,hm];rw [A8 (by omega)];simp only [A7];have hl:(b++(List.range j).map (C8F v k)).length=b.length+j:=by simp
    rw [A0 (by rw [hl];simp;omega),A0 (by rw [hl];simp;omega)];simp only [B2];rw [w64 (by omega) (by omega),List.range_succ,A4g,B1];have e2:(k:Int)-1-(j:Int)-1=(k:Int)-1-((j+1:Nat):Int):=by omega
    rw [e2];rfl
  · have h1:¬ ((k:Int)-1-(k:Int)>=0):=by omega
    simp only [A4K,A8 h1,A7];rfl
def B4g(n:Int):Int:=if n<0 then 0 else n
theorem B3F(b:List Int)(n:Int)(k:Nat)(hk:k<=8)(hb:b.length+8<=140737488355328):B20 b n (k:Int)=some (b++big (B4g n) k,()):=by
  simp only [B20,C0C];have e:B5l n=A4K (B4g n,()):=by
    funext l
    have:(bif decide (0>n) then (0:Int) else n)=B4g n:=by
      unfold B4g;by_cases h:n<0<;>simp [h]
    simp only [B5l,A4K,this]
  rw [e,w64 (by omega) (by omega)];exact E1n _ b k hk hb
abbrev Frame:=Int×Int×Int×List Int
def U8(f:Frame):Bool:=decide (0<=f.1/\f.1<=255)&&decide (0<=f.2.1/\f.2.1<=255)&&decide (0<=f.2.2.1/\f.2.2.1<=2147483647)&&decide ((f.2.2.2.length:Int)<=1000)
def M7(f:Frame):List Int:=big (f.2.2.2.length:Int) 3 ++ [u8.wrap f.1,u8.wrap f.2.1]++big (B4g f.2.2.1) 4++f.2.2.2
theorem A6r(b:List Int)(f:Frame)(h:b.length+f.2.2.2.length+24<=140737488355328):U5 b f=some (b++M7 f,()):=by
  simp only [U5,B5m];rw [show (3:Int)=((3:Nat):Int) from rfl,B3F b _ 3 (by omega) (by omega)];have hc:B4g (f.2.2.2.length:Int)=(f.2.2.2.length:Int):=by unfold B4g;rw [A5 (by omega)]
  simp only [B3,hc];have hl:=A65 (f.2.2.2.length:Int) 3;rw [A0 (by simp [hl];omega),A0 (by simp [hl];omega)];simp only [B2];rw [show (4:Int)=((4:Nat):Int) from rfl,B3F _ _ 4 (by omega) (by simp [hl];omega)];simp only [B3];have hl4:=A65 (B4g f.2.2.1) 4;rw [A0 (by simp [hl,hl4];omega),A0 (by simp [hl,hl4];omega)];simp [M7]
theorem D3W{n:Nat}(h:n<9223372036854775808):i64.wrap (n:Int)=(n:Int):=w64 (by omega) (by omega)
theorem bits_nat{w x:Nat}(h:x<2 ^ w):(BitVec.ofInt w (x:Int)).toNat=x:=by
  rw [BitVec.ofInt_natCast,BitVec.toNat_ofNat];exact A1e h
theorem C1S{a:List Int}(h:Byt a)(i:Nat):Byt (a.take i):=fun x hx=>h x (A5c hx)
abbrev E40:=Int×Int
def B6J(r:E40):Bool:=decide (100<=r.1/\r.1<=599)&&decide (-1<=r.2/\r.2<=1000000000)
theorem B8B(r:E40):A9F r=some (B6J r,()):=by
  simp only [A9F,C0G,O9,B3,B6J];cases decide (100<=r.1/\r.1<=599)<;>simp
def far(c:D9g)(off:Int):D9g:=if 0<=off/\off<=(c.2.1.length:Int) then (if off=(c.2.1.length:Int) then (c.1,c.2.1,4,off) else (c.1,c.2.1,3,off)) else (c.1,c.2.1,6,c.2.2.2)
theorem E3H{x y:Int}(hx:0<=x/\x<256)(hy:0<=y/\y<256)(h:UInt8.ofNat x.toNat=UInt8.ofNat y.toNat):x=y:=by
  have:=J7 UInt8.toNat h;simp only [UInt8.toNat_ofNat'] at this;omega
def C2g(c:A1U)(i:Nat):Bool:=
  decide ((rd O8 c.2.2.2.2.2.1 (i:Int)).1.tmod 2=1)&&decide (1<=(rd O8 c.2.2.2.2.2.1 (i:Int)).1/\(rd O8 c.2.2.2.2.2.1 (i:Int)).1<=c.2.2.2.2.2.2.1) &&
  (decide (i=0)||!decide ((rd O8 c.2.2.2.2.2.1 (i:Int)).1<=(rd O8 c.2.2.2.2.2.1 ((i:Int)-1)).1)) &&
  (decide ((rd O8 c.2.2.2.2.2.1 (i:Int)).2.1=1)||decide ((rd O8 c.2.2.2.2.2.1 (i:Int)).2.1=2))&&!decide ((List.length (rd O8 c.2.2.2.2.2.1 (i:Int)).2.2.2:Int)>2000)
theorem E1o{L:Int×Unit->Option ((Int×Unit)⊕(Unit⊕(Bool×Unit)))}{n:Nat}{go:Nat->Bool}(hs:∀ i:Nat,i<n->L ((i:Int),())=bif go i then some (.inl (((i+1:Nat):Int),())) else some (.inr (.inr (false,()))))
    (he:L ((n:Int),())=some (.inr (.inl ()))) (g:Unit->Option (Bool×Unit)) (b:Bool) (hg:g ()=some (b,())):K9 (H8 L (0,())) g=some (decide (V7 go 0 n=n)&&b,()):=by
  have h:=B8A L (fun i=>((i:Int),())) n (fun i=>if i=n then .inl () else .inr (false,())) go (fun i hi=>by
    rw [hs i hi];cases go i with
    | true=>rfl
    | false=>simp only [J0,J1,A7];rw [A5 (by omega)]) (by rw [he,A9 rfl])
  have h':H8 L (0,())=_:=h;rw [h'];by_cases hn:V7 go 0 n=n
  · rw [A9 hn,A0 hn];simp [K9,hg]
  · rw [A5 hn,A8 hn];simp [K9]
theorem D0t(c:A1U)(h:c.2.2.2.2.2.1.length<=maxLen)(i:Nat)(hi:i<c.2.2.2.2.2.1.length):B1K M9 c ((i:Int),())=bif C2g c i then some (.inl (((i+1:Nat):Int),())) else some (.inr (.inr (false,()))):=by
  have h1:((i:Int)<(c.2.2.2.2.2.1.length:Int)):=by omega
  have h2:(0:Int)<=(i:Int):=by omega
  simp only [maxLen] at h;simp only [B1K,A0 h1,A0 h2,B2,O9,B3,C2g];rw [w64 (n:=(i:Int)+1) (by omega) (by omega),w64 (n:=(i:Int)-1) (by omega) (by omega)];have e1:((i+1:Nat):Int)=(i:Int)+1:=by omega
  rw [e1];by_cases hz:i=0
  · have g1:¬ (i:Int)>0:=by omega
    simp only [A8 g1,A0 hz,A7,Bool.true_or,Bool.and_true];generalize decide ((rd O8 c.2.2.2.2.2.1 (i:Int)).1.tmod 2=1)=x1;generalize decide (1<=(rd O8 c.2.2.2.2.2.1 (i:Int)).1/\(rd O8 c.2.2.2.2.2.1 (i:Int)).1<=c.2.2.2.2.2.2.1)=x2;generalize decide ((rd O8 c.2.2.2.2.2.1 (i:Int)).2.1=1)=x4;generalize decide ((rd O8 c.2.2.2.2.2.1 (i:Int)).2.1=2)=x5;generalize decide ((List.length (rd O8 c.2.2.2.2.2.1 (i:Int)).2.2.2:Int)>2000)=x6;cases x1<;>cases x2<;>cases x4<;>cases x5<;>cases x6<;>rfl
  · have g1:(i:Int)>0:=by omega
    have g2:(0:Int)<=(i:Int)-1:=by omega
    have g3:(i:Int)-1<(c.2.2.2.2.2.1.length:Int):=by omega
    simp only [A0 g1,A0 g2,A0 g3,A8 hz,B2,Bool.false_or];generalize decide ((rd O8 c.2.2.2.2.2.1 (i:Int)).1.tmod 2=1)=x1;generalize decide (1<=(rd O8 c.2.2.2.2.2.1 (i:Int)).1/\(rd O8 c.2.2.2.2.2.1 (i:Int)).1<=c.2.2.2.2.2.2.1)=x2;generalize decide ((rd O8 c.2.2.2.2.2.1 (i:Int)).1<=(rd O8 c.2.2.2.2.2.1 ((i:Int)-1)).1)=x3;generalize decide ((rd O8 c.2.2.2.2.2.1 (i:Int)).2.1=1)=x4;generalize decide ((rd O8 c.2.2.2.2.2.1 (i:Int)).2.1=2)=x5;generalize decide ((List.length (rd O8 c.2.2.2.2.2.1 (i:Int)).2.2.2:Int)>2000)=x6;cases x1<;>cases x2<;>cases x3<;>cases x4<;>cases x5<;>cases x6<;>rfl
def D9i(c:A1U):Bool:=decide (V7 (C2g c) 0 c.2.2.2.2.2.1.length=c.2.2.2.2.2.1.length)&&decide ((c.2.2.2.2.2.1.length:Int)<=100)
theorem D73(c:A1U)(h:c.2.2.2.2.2.1.length<=maxLen):B5r c=some (D9i c,()):=by
  simp only [B5r,C0E];exact E1o (D0t c h) (by simp [B1K]) _ _ rfl
theorem D5U{x y:Nat}(hx:x<9223372036854775808)(hy:y<9223372036854775808):bOr .i64 (x:Int) (y:Int)=((x ||| y:Nat):Int):=by
  have h:x ||| y<2 ^ 63:=C2G (by omega) (by omega);unfold bOr;rw [BitVec.toNat_or,bits_nat (by simp only [IntKind.bits];omega),bits_nat (by simp only [IntKind.bits];omega)];exact D3W (by omega)
def R1(b:List Int)(at_:Nat):Nat->Nat
  | 0=>0
  | j+1=>(R1 b at_ j*256) ||| (b.getD (at_+j) 0).toNat
theorem C5m{b:List Int}(hb:Byt b)(i:Nat):0<=b.getD i 0/\b.getD i 0<256:=by
  by_cases h:i<b.length
  · simp only [List.getD,C5 h,A0m]
    exact hb _ (H1 h)
  · simp only [List.getD,B7P (show b.length<=i by omega),Option.getD_none]
    omega
theorem C4b{b:List Int}(hb:Byt b)(at_:Nat):∀ j,R1 b at_ j<2 ^ (8*j)
  | 0=>by simp [R1]
  | j+1=>by
    have h1:=C4b hb at_ j;have h2:=C5m hb (at_+j);have e:2 ^ (8*(j+1))=2 ^ (8*j)*256:=by rw [show 8*(j+1)=8*j+8 by omega,A5f]
    refine C2G ?_ ?_
    · rw [e];exact Nat.mul_lt_mul_of_pos_right h1 (by omega)
    · have:1<=2 ^ (8*j):=Nat.one_le_two_pow
      rw [e];omega
theorem D9j{b:List Int}(hb:Byt b)(at_ j:Nat)(hj:j<7)(x:Int)(hx:x=b.getD (at_+j) 0):bOr .i64 (i64.wrap (((R1 b at_ j:Nat):Int)*256)) (i64.wrap x)=((R1 b at_ (j+1):Nat):Int):=by
  have h1:=C4b hb at_ j;have h2:=C5m hb (at_+j);have h3:2 ^ (8*j)<=2 ^ 48:=A3N (by omega) (by omega);subst hx;rw [show ((R1 b at_ j:Nat):Int)*256=((R1 b at_ j*256:Nat):Int) by omega,D3W (by omega),show b.getD (at_+j) 0=(((b.getD (at_+j) 0).toNat:Nat):Int) by omega,D3W (by omega),D5U (by omega) (by omega)];simp only [R1,E2]
def B2B(b:List Int)(a:Int)(k:Nat):Int×Bool×Unit:=if 0<=a/\a<=(b.length:Int)-k then ((R1 b a.toNat k:Int),true,()) else (0,false,())
theorem B6K(b:List Int)(hb:Byt b)(h:b.length<=1000000000000000)(a:Int)(k:Nat)(hk:1<=k/\k<=7):A9D b a (k:Int)=some (B2B b a k):=by
  simp only [A9D,C0D,O9,B3,B2B];rw [A0 (show (1:Int)<=(k:Int)/\(k:Int)<=7 by omega),w64 (n:=(b.length:Int)-(k:Int)) (by omega) (by omega)];simp only [E0,A7];by_cases h1:a<0
  · rw [A0 h1,A5 (by omega)];rfl
  rw [A8 h1];by_cases h2:a>(b.length:Int)-k
  · rw [A0 h2,A5 (by omega)];rfl
  rw [A8 h2,A9 (by omega)];simp only [A7,K9];rw [w64 (n:=a+(k:Int)) (by omega) (by omega),A0 (show 0<=a by omega),A0 (show a<=a+(k:Int) by omega),A0 (show a+(k:Int)<=(b.length:Int) by omega)];simp only [B2];have hlen:((b.take (a+(k:Int)).toNat).drop a.toNat).length=k:=by simp;omega
  have key:=A0l (A7u b a (k:Int)) (fun j=>((R1 b a.toNat j:Int),(j:Int),())) k ((R1 b a.toNat k:Int),()) (fun j hj=>?_) ?_
  · have e:H8 (A7u b a (k:Int)) (0,0,())=_:=key
    rw [e]
  · have g1:(j:Int)<(k:Int):=by omega
    have g2:(0:Int)<=(j:Int):=by omega
    simp only [A7u];rw [w64 (n:=a+(k:Int)) (by omega) (by omega)];simp only [hlen,A0 g1,A0 g2,B2];rw [D9j hb a.toNat j (by omega) _ (by
      rw [C9F (by rw [hlen];exact hj)];simp [List.getD,show a.toNat+j<b.length by omega]),show (j:Int)+1=((j+1:Nat):Int) by omega,D3W (by omega)]
  · simp only [A7u]
    rw [w64 (n:=a+(k:Int)) (by omega) (by omega)];simp [hlen]
def A6s(b:List Int)(a:Int):E5×Int×Int×Unit:=
  if 0<=a/\a<=(b.length:Int)-9 then
    (if (R1 b a.toNat 3:Int)>1000 then ((0,0,0,[]),a,2,())
      else if (R1 b a.toNat 3:Int)>(b.length:Int)-a-9 then ((0,0,0,[]),a,1,())
      else ((rd (.int .u8) b (a+3),rd (.int .u8) b (a+4),A0V .i64 (R1 b (a+5).toNat 4:Int) 2147483647,(b.take (a+9+(R1 b a.toNat 3:Int)).toNat).drop (a+9).toNat),a+9+(R1 b a.toNat 3:Int),0,()))
  else ((0,0,0,[]),a,1,())
theorem D5V{b:List Int}(hb:Byt b){i:Int}(h0:0<=i)(h1:i<(b.length:Int)):i64.wrap (rd (.int .u8) b i)=rd (.int .u8) b i:=by
  obtain ⟨n,rfl⟩:∃ n:Nat,i=(n:Int):=⟨i.toNat,by omega⟩;rw [C9F (by omega)];have:=hb b[n] (H1 (by omega));exact w64 (by omega) (by omega)
theorem B2C(b:List Int)(hb:Byt b)(h:b.length<=1000000000000000)(a:Int)(ha:-9223372036854775808<=a/\a<9223372036854775808):A3C b a=some (A6s b a):=by
  simp only [A3C,B5o];rw [w64 (n:=(b.length:Int)-9) (by omega) (by omega)];simp only [A6s];by_cases h1:a<0
  · rw [A0 h1,A5 (by omega)];rfl
  rw [A8 h1];by_cases h2:a>(b.length:Int)-9
  · rw [A0 h2,A5 (by omega)];rfl
  rw [A8 h2,A9 (by omega)];have hn:=C4b hb a.toNat 3;simp only [A7,K9];rw [show (3:Int)=((3:Nat):Int) from rfl,B6K b hb h a 3 (by omega),show (4:Int)=((4:Nat):Int) from rfl,B6K b hb h _ 4 (by omega)];have e3:B2B b a 3=((R1 b a.toNat 3:Int),true,()):=by unfold B2B;rw [A9 (by omega)]
  have e5:i64.wrap (a+5)=a+5:=w64 (by omega) (by omega);have e4:B2B b (a+5) 4=((R1 b (a+5).toNat 4:Int),true,()):=by unfold B2B;rw [A9 (by omega)]
  have w9:i64.wrap (a+9)=a+9:=w64 (by omega) (by omega);simp only [B3,e5,e3,e4,w9];by_cases h3:(R1 b a.toNat 3:Int)>1000
  · rw [A0 h3,A9 h3];rfl
  rw [A8 h3,A5 h3,w64 (n:=(b.length:Int)-(a+9)) (by omega) (by omega)];by_cases h4:(R1 b a.toNat 3:Int)>(b.length:Int)-a-9
  · rw [A0 (show (R1 b a.toNat 3:Int)>(b.length:Int)-(a+9) by omega),A9 h4];rfl
  rw [A8 (show ¬ (R1 b a.toNat 3:Int)>(b.length:Int)-(a+9) by omega),A5 h4];simp only [A7];have w3:i64.wrap (a+((3:Nat):Int))=a+3:=w64 (by omega) (by omega);have w4:i64.wrap (a+((4:Nat):Int))=a+4:=w64 (by omega) (by omega);have wn:i64.wrap (a+9+(R1 b a.toNat 3:Int))=a+9+(R1 b a.toNat 3:Int):=w64 (by omega) (by omega);simp only [w3,w4,wn];rw [A0 (show 0<=a+3 by omega),A0 (show a+3<(b.length:Int) by omega),A0 (show 0<=a+4 by omega),A0 (show a+4<(b.length:Int) by omega),A0 (show 0<=a+9 by omega),A0 (show a+9<=a+9+(R1 b a.toNat 3:Int) by omega),A0 (show a+9+(R1 b a.toNat 3:Int)<=(b.length:Int) by omega)];simp only [B2];rw [C74 _ (by simp;omega),D5V hb (show 0<=a+3 by omega) (by omega),D5V hb (show 0<=a+4 by omega) (by omega)];rfl
theorem D0u(b:List Int)(hb:Byt b)(h:b.length<=1048576)(a:Int)(k:Nat)(hk:1<=k/\k<=7):A9D b a (k:Int)=some (B2B b a k):=B6K b hb (by omega) a k hk
theorem B6L(xs:List Int):(strOf xs).size=xs.length:=strOfNums_size xs
theorem D0v(x:Int):0<=A0V .i64 x 255/\A0V .i64 x 255<=255:=by
  unfold A0V;have h:(BitVec.ofInt i64.bits x &&& BitVec.ofInt i64.bits 255).toNat<=255:=by
    rw [BitVec.toNat_and];have:(BitVec.ofInt i64.bits (255:Int)).toNat=255:=bits_nat (w:=64) (x:=255) (by omega);rw [this];exact Nat.and_le_right
  rw [D3W (by omega)];omega
def Cur(c:P4):Prop:=List.length c.1<=1048576/\0<=c.2.1/\c.2.1<=1048576
theorem B4h(c:P4)(h:Cur c):∃ r c',A9G c=some (r,c',())/\Cur c'/\0<=r/\r<=255:=by
  obtain ⟨h1,h2,h3⟩:=h;simp only [A9G,C0H];by_cases hi:c.2.1<(List.length c.1:Int)
  · simp only [A0 hi,A0 h2,B2]
    refine ⟨_,_,rfl,⟨h1,?_,?_⟩,D0v _⟩
    · simp only;rw [w64 (by omega) (by omega)];omega
    · simp only;rw [w64 (by omega) (by omega)];omega
  · simp only [A8 hi,A7]
    exact ⟨_,_,rfl,⟨h1,h2,h3⟩,D0v _⟩
theorem B2D(c:P4)(n:Int)(h:Cur c)(hn:0<n/\n<9223372036854775808):∃ r c',A49 c n=some (r,c',())/\Cur c'/\0<=r/\r<n:=by
  simp only [A49,B81];rw [A8 (show ¬ n<=0 by omega)];have hz:(n == 0)=false:=by simp;omega
  simp only [A7,hz];by_cases h1:n<=256
  · rw [A0 h1]
    obtain ⟨r,c',e,hc,hr⟩:=B4h c h;simp only [B2,e,B3];refine ⟨_,_,rfl,hc,?_⟩;rw [A5g hr.1];exact ⟨Int.emod_nonneg _ (by omega),C12 _ (by omega)⟩
  · rw [A8 h1]
    obtain ⟨r1,c1,e1,hc1,hr1⟩:=B4h c h;obtain ⟨r2,c2,e2,hc2,hr2⟩:=B4h c1 hc1;obtain ⟨r3,c3,e3,hc3,hr3⟩:=B4h c2 hc2;simp only [A7,e1,e2,e3,B3];refine ⟨_,_,rfl,hc3,?_⟩;rw [w64 (n:=r1*65536) (by omega) (by omega),w64 (n:=r2*256) (by omega) (by omega),w64 (n:=r1*65536+r2*256) (by omega) (by omega),w64 (n:=r1*65536+r2*256+r3) (by omega) (by omega)];rw [A5g (by omega)];exact ⟨Int.emod_nonneg _ (by omega),C12 _ (by omega)⟩
theorem D9k(c:P4)(xs:List X0)(h:Cur c)(hx:0<xs.length/\xs.length<=1048576):∃ s c',B9B c xs=some (s,c',())/\Cur c'/\s∈xs:=by
  obtain ⟨r,c',e,hc,h0,h1⟩:=B2D c (xs.length:Int) h (by omega);simp only [B9B,C2d,e,B3,A0 h0,A0 h1,B2];refine ⟨_,_,rfl,hc,?_⟩;obtain ⟨n,rfl⟩:∃ n:Nat,r=(n:Int):=⟨r.toNat,by omega⟩;rw [E3G (by omega)];exact H1 _
theorem C1T(c:P4)(xs:List Int)(h:Cur c)(hx:0<xs.length/\xs.length<=1048576):∃ s c',B1m c xs=some (s,c',())/\Cur c'/\s∈xs:=by
  obtain ⟨r,c',e,hc,h0,h1⟩:=B2D c (xs.length:Int) h (by omega);simp only [B1m,C2c,e,B3,A0 h0,A0 h1,B2];refine ⟨_,_,rfl,hc,?_⟩;obtain ⟨n,rfl⟩:∃ n:Nat,r=(n:Int):=⟨r.toNat,by omega⟩;rw [C9F (by omega)];exact H1 _
theorem wrap_u8(x:Int):0<=u8.wrap x/\u8.wrap x<256:=by
  simp only [IntKind.wrap,IntKind.bits,IntKind.signed];simp;omega
theorem D3a(c:P4)(n:Int)(h:Cur c)(hn:0<=n/\n<=1048576):∃ b c',A64 c n=some (b,c',())/\Cur c'/\(List.length b:Int)=n/\Byt b:=by
  simp only [A64,A9M];obtain ⟨z,e,hz⟩:=C8D (A7Q A9G n) (fun l=>(n-l.1).toNat) (fun l=>0<=l.1/\l.1<=n/\Cur (l.2.1,l.2.2.1,l.2.2.2.1)/\(List.length l.2.2.2.2.1:Int)=l.1/\Byt l.2.2.2.2.1)
    (fun z=>Cur z.2.1/\(List.length z.1:Int)=n/\Byt z.1) (fun l hl=>by
      obtain ⟨h0,h1,hc,hlen,hb⟩:=hl;simp only [A7Q];by_cases hi:l.1<n
      · obtain ⟨r,c',e,hc',hr⟩:=B4h _ hc
        refine .inl ⟨(l.1+1,c'.1,c'.2.1,c'.2.2,l.2.2.2.2.1 ++ [u8.wrap r],()),?_,⟨by simp only;omega,by simp only;omega,hc',by simp;omega,?_⟩,by simp only;omega⟩
        · rw [A0 hi,e]
          simp only [B2,B3];rw [A0 (by simp;omega),A0 (by simp;omega),w64 (by omega) (by omega)];rfl
        · intro x hx
          rcases C6.1 hx with hx | hx
          · exact hb x hx
          · rw [B0.1 hx];exact wrap_u8 _
      · rw [A8 hi]
        exact .inr ⟨_,rfl,hc,by simp only;omega,hb⟩) (0,c.1,c.2.1,c.2.2,[],()) ⟨by simp,hn.1,h,by simp,fun x hx=>by cases hx⟩
  exact ⟨z.1,z.2.1,e,hz⟩
theorem D0w(a:List Int)(h:a.length<=1048576):∃ c,B4c a=some (c,())/\Cur c:=by
  simp only [B4c,C2b];obtain ⟨z,e,_⟩:=C8D (B80 a) (fun l=>((a.length:Int)-l.2.1).toNat) (fun l=>0<=l.2.1) (fun _=>True) (fun l hl=>by
    simp only [B80];by_cases hi:l.2.1<(a.length:Int)
    · by_cases h4:l.2.1<4000
      · rw [A0 hi,A0 h4]
        simp only [B2,K9];rw [A0 hl,w64 (n:=l.2.1+1) (by omega) (by omega)];exact .inl ⟨_,rfl,by simp only;omega,by simp only;omega⟩
      · rw [A0 hi,A8 h4]
        exact .inr ⟨_,rfl,trivial⟩
    · rw [A8 hi]
      exact .inr ⟨_,rfl,trivial⟩) (i64.wrap (369369+(a.length:Int)),0,()) (by simp)
  rw [e];exact ⟨_,rfl,h,by simp,by simp⟩
theorem A3F{a b:List Int}(ha:Byt a)(hb:Byt b):Byt (a++b):=fun x hx=>(C6.1 hx).elim (ha x) (hb x)
theorem D5W(n:Int)(k:Nat):Byt (big n k):=by
  intro x hx;obtain ⟨j,_,rfl⟩:=D6.1 hx;exact wrap_u8 _
theorem B8C(s:X0):Byt (bytesOf s):=by
  intro x hx;obtain ⟨b,_,rfl⟩:=D6.1 hx;have:=b.toNat_lt;omega
theorem B4i{a:List Int}(h:Byt a)(i:Nat):Byt (a.drop i):=fun x hx=>h x (A1w hx)
theorem C3b(go:Nat->Bool):∀ k i j,i<=j->j<V7 go i k->go j=true
  | 0,i,j,h1,h2=>by simp only [V7] at h2;omega
  | k+1,i,j,h1,h2=>by
    simp only [V7] at h2;split at h2
    · rename_i hg
      by_cases e:j=i
      · rw [e];exact hg
      · exact C3b go k (i+1) j (by omega) h2
    · omega
theorem C3c(go:Nat->Bool)(n p:Nat)(hp:p<=n)(h1:∀ j,j<p->go j=true)(h2:p<n->go p=false):V7 go 0 n=p:=by
  have hl:=C8E go n 0;rcases C2H (V7 go 0 n) p with h | h | h
  · have:=B6I go n 0 (by omega)
    rw [h1 _ h] at this;cases this
  · exact h
  · have:=C3b go n 0 p (by omega) h
    rw [h2 (by omega)] at this;cases this
def C9G(op:Int):Int:=if op=1 then 1000000000 else if op=3 then 1000000000 else if op=4 then 4294967295 else 0
def C0S(r:A5D):Bool:=decide (1<=r.1/\r.1<=6)&&idB r.2.1&&decide (0<=r.2.2/\r.2.2<=C9G r.1)
theorem C5n(r:A5D)(h:r.2.1.size<=maxLen):B4W r=some (C0S r,()):=by
  simp only [B4W,C2a,O9,D5T _ h,B3,C0S,A2A,A75,C9G];by_cases h1:r.1=1
  · simp [h1];cases idB r.2.1<;>simp
  by_cases h3:r.1=3
  · simp [h3];cases idB r.2.1<;>simp
  by_cases h4:r.1=4
  · simp [h4];cases idB r.2.1<;>simp
  simp only [A8 h1,A8 h3,A8 h4,A5 h1,A5 h3,A5 h4,A7];cases decide (1<=r.1/\r.1<=6)<;>cases idB r.2.1<;>simp
theorem D74{a b:List Int}(ha:Byt a)(hb:Byt b)(h:(strOf a).toList=(strOf b).toList):a=b:=by
  rw [A0F,A0F] at h;have h2:(a.map fun n=>UInt8.ofNat n.toNat)=b.map fun n=>UInt8.ofNat n.toNat:=h
  have hl:a.length=b.length:=by simpa using J7 List.length h2
  refine A45 hl fun i h1 h3=>?_
  have h4:=J7 (fun l=>l[i]?) h2;simp only [L7,C5 h1,C5 h3,M4,H2] at h4;exact E3H (ha _ (H1 h1)) (hb _ (H1 h3)) h4
theorem D5a{a b:X0}(h:a.toList=b.toList):a=b:=by
  rw [A0F,A0F] at h;obtain ⟨⟨a⟩⟩:=a;obtain ⟨⟨b⟩⟩:=b;have h:a=b:=h;rw [h]
theorem B00(s:X0):strOf (bytesOf s)=s:=by
  refine D5a ?_;rw [A0F,A0F];show ((bytesOf s).map fun n=>UInt8.ofNat n.toNat)=s.data.toList;rw [bytesOf,C2F];refine (List.map_congr_left fun x hx=>?_).trans (List.map_id _);simp
theorem D10(n:Nat):u8.wrap (n:Int)=((n % 256:Nat):Int):=by
  simp only [IntKind.wrap,IntKind.bits,IntKind.signed];simp
theorem D11(x y:Nat)(h:y<256):(x*256) ||| y=x*256+y:=by
  have:=V2 (i:=8) (b:=y) (by simpa using h) x;rw [A05 x 256];exact this.symm
theorem D12(p q:List Int)(n k:Nat):∀ j,j<=k->R1 (p++(big (n:Int) k++q)) p.length j=n / 2 ^ (8*(k-j)) % 2 ^ (8*j)
  | 0,_=>by simp [R1,Nat.mod_one]
  | j+1,hj=>by
    have ih:=D12 p q n k j (by omega);have hget:(p++(big (n:Int) k++q)).getD (p.length+j) 0=C8F (n:Int) k j:=by
      simp only [List.getD];rw [E9 (by omega),R5,E8 (by rw [A65];omega)];simp only [big,L7,B9T (show j<k by omega),M4,A0m]
    have hat:C8F (n:Int) k j=((n / 2 ^ (8*(k-1-j)) % 256:Nat):Int):=by
      unfold C8F;rw [<- D10]
      congr 1
      rw [show (2:Int) ^ (8*(k-1-j))=((2 ^ (8*(k-1-j)):Nat):Int) by rw [Int.natCast_pow];rfl,A1G _ (A4T _),<- B5H]
    simp only [R1];rw [ih,hget,hat,E2,D11 _ _ (A2r _ (by omega))];rw [show k-1-j=k-(j+1) by omega];have e1:2 ^ (8*(k-j))=2 ^ (8*(k-(j+1)))*256:=by rw [show 8*(k-j)=8*(k-(j+1))+8 by omega,A5f]
    have e2:2 ^ (8*(j+1))=256*2 ^ (8*j):=by rw [show 8*(j+1)=8+8*j by omega,A5f]
    rw [e1,<- Nat.div_div_eq_div_mul,e2,Nat.mod_mul];omega
theorem C8G{b:List Int}(p q:List Int)(n:Int)(k a:Nat)(h:b=p++(big n k++q))(ha:a=p.length)(h0:0<=n)(h1:n<2 ^ (8*k)):(R1 b a k:Int)=n:=by
  subst h;subst ha;obtain ⟨m,rfl⟩:∃ m:Nat,n=(m:Int):=⟨n.toNat,by omega⟩;rw [D12 p q m k k (C1 _),Nat.sub_self,Nat.mul_zero,Nat.pow_zero,Nat.div_one];rw [show (2:Int) ^ (8*k)=((2 ^ (8*k):Nat):Int) by rw [Int.natCast_pow];rfl] at h1;rw [A1e (by omega)]
def pri:List Int:= [80,82,73,32,42,32,72,84,84,80,47,50,46,48,13,10,13,10,83,77,13,10,13,10]
def prefaceB:List Int:=pri++M7 (4,0,0,[])
theorem C3d:prefaceB.length=33:=by simp [prefaceB,M7,pri,A65]
theorem C9H:B0R=some (prefaceB,()):=by
  simp only [B0R,B87];rw [A6r _ _ (by simp)];rfl
set_option maxRecDepth 100000
def lensT:List Int:= [13,23,28,28,28,28,28,28,28,24,30,28,28,30,28,28,28,28,28,28,28,28,30,28,28,28,28,28,28,28,28,28,6,10,10,12,13,6,8,11,10,10,8,11,8,6,6,6,5,5,5,6,6,6,6,6,6,6,7,8,15,6,12,10,13,6,7,7,7,7,7,7,7,7,7,7,7,7,7,7,7,7,7,7,7,7,7,7,8,7,8,13,19,13,14,6,15,5,6,5,6,5,6,6,6,5,7,7,6,6,6,5,6,7,6,5,5,6,7,7,7,7,7,15,11,14,13,28,20,22,20,20,22,22,22,23,22,23,23,23,23,23,24,23,24,24,22,23,24,23,23,23,23,21,22,23,22,23,23,24,22,21,20,22,22,23,23,21,23,22,22,24,21,22,23,23,21,21,22,21,23,22,23,23,20,22,22,22,23,22,22,23,26,26,20,19,22,23,22,25,26,26,26,27,27,26,24,25,19,21,26,27,27,26,27,24,21,21,26,26,28,27,27,27,20,24,20,21,22,21,21,23,22,22,25,25,24,24,26,23,26,27,26,26,27,27,27,27,27,28,27,27,27,27,27,26,30]
theorem A0L:lensT.length=257:=by kernel_rfl
theorem C8H:(lensT.all fun x=>decide (5<=x)&&decide (x<=30))=true:=by kernel_rfl
theorem u64_nonneg(x:Int):¬ (u64.wrap x<0):=by
  simp only [IntKind.wrap,IntKind.bits,IntKind.signed,A8q];simp;omega
def cst(n:Int)(st:Int×Int×List Int)(sym:Nat):Int×Int×List Int:=
  if (lensT.getD sym 0)=n then
    (let code:=if st.2.1>0 then i64.wrap ((i64.wrap (st.1+1))*2 ^ (min (u64.wrap (i64.wrap (n-st.2.1))).toNat i64.bits)) else st.1
     (code,n,st.2.2.set sym code)) else st
def D9l(n:Int)(st:Int×Int×List Int):Nat->Int×Int×List Int
  | 0=>st
  | k+1=>cst n (D9l n st k) k
def lvl(st:Int×Int×List Int):Nat->Int×Int×List Int
  | 0=>st
  | k+1=>D9l ((k:Int)+1) (lvl st k) 257
def E1p(b:Int×Int×List Int):List Int:=(lvl b 30).2.2
theorem D9m(b:Int×Int×List Int):E1p b=(lvl b 30).2.2:=rfl
def codesT:List Int:=E1p (0,0,List.replicate 257 0)
theorem E1q(n:Int)(st:Int×Int×List Int)(sym:Nat):(cst n st sym).2.2.length=st.2.2.length:=by
  unfold cst;split<;>simp
theorem D13(n:Int)(st:Int×Int×List Int):∀ k,(D9l n st k).2.2.length=st.2.2.length
  | 0=>rfl
  | k+1=>by rw [D9l,E1q,D13 n st k]
theorem D5b(st:Int×Int×List Int):∀ k,(lvl st k).2.2.length=st.2.2.length
  | 0=>rfl
  | k+1=>by rw [lvl,D13,D5b st k]
theorem A3V:codesT.length=257:=by
  show (E1p (0,0,List.replicate 257 0)).length=257;rw [D9m,D5b];simp
set_option maxRecDepth 100000
def lensS:X0:=⟨#[49,51,32,50,51,32,50,56,32,50,56,32,50,56,32,50,56,32,50,56,32,50,56,32,50,56,32,50,52,32,51,48,32,50,56,32,50,56,32,51,48,32,50,56,32,50,56,32,50,56,32,50,56,32,50,56,32,50,56,32,50,56,32,50,56,32,51,48,32,50,56,32,50,56,32,50,56,32,50,56,32,50,56,32,50,56,32,50,56,32,50,56,32,50,56,32,54,32,49,48,32,49,48,32,49,50,32,49,51,32,54,32,56,32,49,49,32,49,48,32,49,48,32,56,32,49,49,32,56,32,54,32,54,32,54,32,53,32,53,32,53,32,54,32,54,32,54,32,54,32,54,32,54,32,54,32,55,32,56,32,49,53,32,54,32,49,50,32,49,48,32,49,51,32,54,32,55,32,55,32,55,32,55,32,55,32,55,32,55,32,55,32,55,32,55,32,55,32,55,32,55,32,55,32,55,32,55,32,55,32,55,32,55,32,55,32,55,32,55,32,56,32,55,32,56,32,49,51,32,49,57,32,49,51,32,49,52,32,54,32,49,53,32,53,32,54,32,53,32,54,32,53,32,54,32,54,32,54,32,53,32,55,32,55,32,54,32,54,32,54,32,53,32,54,32,55,32,54,32,53,32,53,32,54,32,55,32,55,32,55,32,55,32,55,32,49,53,32,49,49,32,49,52,32,49,51,32,50,56,32,50,48,32,50,50,32,50,48,32,50,48,32,50,50,32,50,50,32,50,50,32,50,51,32,50,50,32,50,51,32,50,51,32,50,51,32,50,51,32,50,51,32,50,52,32,50,51,32,50,52,32,50,52,32,50,50,32,50,51,32,50,52,32,50,51,32,50,51,32,50,51,32,50,51,32,50,49,32,50,50,32,50,51,32,50,50,32,50,51,32,50,51,32,50,52,32,50,50,32,50,49,32,50,48,32,50,50,32,50,50,32,50,51,32,50,51,32,50,49,32,50,51,32,50,50,32,50,50,32,50,52,32,50,49,32,50,50,32,50,51,32,50,51,32,50,49,32,50,49,32,50,50,32,50,49,32,50,51,32,50,50,32,50,51,32,50,51,32,50,48,32,50,50,32,50,50,32,50,50,32,50,51,32,50,50,32,50,50,32,50,51,32,50,54,32,50,54,32,50,48,32,49,57,32,50,50,32,50,51,32,50,50,32,50,53,32,50,54,32,50,54,32,50,54,32,50,55,32,50,55,32,50,54,32,50,52,32,50,53,32,49,57,32,50,49,32,50,54,32,50,55,32,50,55,32,50,54,32,50,55,32,50,52,32,50,49,32,50,49,32,50,54,32,50,54,32,50,56,32,50,55,32,50,55,32,50,55,32,50,48,32,50,52,32,50,48,32,50,49,32,50,50,32,50,49,32,50,49,32,50,51,32,50,50,32,50,50,32,50,53,32,50,53,32,50,52,32,50,52,32,50,54,32,50,51,32,50,54,32,50,55,32,50,54,32,50,54,32,50,55,32,50,55,32,50,55,32,50,55,32,50,55,32,50,56,32,50,55,32,50,55,32,50,55,32,50,55,32,50,55,32,50,54,32,51,48]⟩
def lensP:List (List UInt8):=Lib.splitK [32] 0 (Lib.count lensS.data.toList [32]) lensS.data.toList
theorem D9n:(lensP.map Lib.atoi)=lensT.map some:=by kernel_rfl
theorem D9o:(lensP.all fun x=>Nat.ble x.length 18)=true:=by kernel_rfl
theorem D14:(Lib.splitB ⟨#[32]⟩ 0 (Lib.countB lensS ⟨#[32]⟩) lensS).map (·.data.toList)=lensP:=by
  rw [Lib.splitB_data];rfl
theorem D75(s:X0)(P:List (List UInt8))(hs:s.size<4294967281)(h0:(Lib.splitB ⟨#[32]⟩ 0 (Lib.countB s ⟨#[32]⟩) s).map (·.data.toList)=P)(hP:(P.map Lib.atoi)=lensT.map some)(hz:(P.all fun x=>Nat.ble x.length 18)=true) :
    ∃ c:List X0,A9k s ⟨#[32]⟩=some (c,())/\c.length=257/\∀ k (h:k<c.length),B5L c[k]=some (lensT.getD k 0,(),()):=by
  have h1:(decide (s.size<4294967281)&&decide (1<=(⟨#[32]⟩:X0).size))=true:=by
    rw [A0 hs];rfl
  refine ⟨_,by simp only [A9k,h1,B2];rfl,?_,fun k hk=>?_⟩
  · have:=J7 List.length h0
    rw [T5] at this;rw [this];have h2:=J7 List.length hP;rw [T5,T5,A0L] at h2;exact h2
  · generalize hc:Lib.splitB ⟨#[32]⟩ 0 (Lib.countB s ⟨#[32]⟩) s=c at *
    have e:=h0;have hk2:k<P.length:=by rw [<- e,T5];exact hk
    have e1:(c[k]).data.toList=P[k]:=by
      have:(c.map (·.data.toList))[k]? = P[k]?:=by rw [e]
      rw [L7,C5 hk,C5 hk2] at this;simpa using this
    have e2:Lib.atoi P[k]=some (lensT.getD k 0):=by
      have:(P.map Lib.atoi)[k]? = (lensT.map some)[k]?:=by rw [hP]
      rw [L7,C5 hk2,L7] at this;cases hq:lensT[k]? with
      | none=>rw [hq] at this;cases this
      | some v=>
        rw [hq] at this;simp only [M4,H2] at this;rw [this,D5,hq];rfl
    have e3:(c[k]).size<=18:=by
      have h4:=C4.1 hz P[k] (H1 hk2);have h5:=D7 h4;rw [<- e1] at h5;exact h5
    simp only [B5L,A0 e3,B2,e1,e2]
theorem D9p:lensS.size<4294967281:=by
  have:Nat.ble (lensS.size+1) 4294967281=true:=by kernel_rfl
  exact D7 this
theorem D9q:∃ c:List X0,A9k lensS ⟨#[32]⟩=some (c,())/\c.length=257/\∀ k (h:k<c.length),B5L c[k]=some (lensT.getD k 0,(),()):=
  D75 lensS lensP D9p D14 D9n D9o
set_option maxRecDepth 100000
def szs(r:List (Int×Int)):Nat->List (Int×Int)
  | 0=>r
  | k+1=>(szs r k).set k (((szs r k).getD k (0,0)).1,lensT.getD k 0)
theorem D5c(r:List (Int×Int)):∀ k,(szs r k).length=r.length
  | 0=>rfl
  | k+1=>by rw [szs,A39,D5c r k]
theorem E1r:szs (List.replicate 257 (0,0)) 257=lensT.map fun n=>(0,n):=by kernel_rfl
def ist(n:Int)(st:Int×List (Int×Int))(sym:Nat):Int×List (Int×Int):=
  if (st.2.getD sym (0,0)).2=n then (i64.wrap (st.1+1),st.2.set sym (st.1,(st.2.getD sym (0,0)).2)) else st
def C2h(n:Int)(st:Int×List (Int×Int)):Nat->Int×List (Int×Int)
  | 0=>st
  | k+1=>ist n (C2h n st k) k
def C2i(st:Int×List (Int×Int)):Nat->Int×List (Int×Int)
  | 0=>st
  | k+1=>C2h ((k:Int)+1) (i64.wrap ((C2i st k).1*2),(C2i st k).2) 257
theorem E1s(n:Int)(st:Int×List (Int×Int))(sym:Nat):(ist n st sym).2.length=st.2.length:=by
  unfold ist;split<;>simp
theorem C5o(n:Int)(st:Int×List (Int×Int)):∀ k,(C2h n st k).2.length=st.2.length
  | 0=>rfl
  | k+1=>by rw [C2h,E1s,C5o n st k]
theorem D15(st:Int×List (Int×Int)):∀ k,(C2i st k).2.length=st.2.length
  | 0=>rfl
  | k+1=>by rw [C2i,C5o,D15 st k]
def D16(a:Int×List (Int×Int)):List (Int×Int):=(C2i a 30).2
theorem D76(a:Int×List (Int×Int)):D16 a=(C2i a 30).2:=rfl
def E3I:List (Int×Int):=D16 (0,lensT.map fun n=>(0,n))
def D17(n:Int)(a:Int×List (Int×Int))(b:Int×Int×List Int):Prop:=
  a.2=b.2.2.zip lensT/\b.2.2.length=257/\((b.2.1=0/\b.1=0/\a.1=0)\/(1<=b.2.1/\b.2.1<=n/\a.1=i64.wrap ((b.1+1)*2 ^ (n-b.2.1).toNat)))
theorem D18(x y:Int):i64.wrap (i64.wrap x*y)=i64.wrap (x*y):=by
  simp only [B5K];generalize hq:(x+9223372036854775808) / 18446744073709551616=q;have e:(x+9223372036854775808) % 18446744073709551616-9223372036854775808=x-18446744073709551616*q:=by omega
  rw [e,Int.sub_mul,Int.mul_assoc];generalize x*y=z;generalize q*y=r;omega
theorem E1t{xs ys:List Int}{k:Nat}{c:Int}(h:k<ys.length):(xs.zip ys).set k (c,ys.getD k 0)=(xs.set k c).zip ys:=by
  refine A45 (by simp) fun i h1 h2=>?_
  simp only [List.getElem_set,List.getElem_zip];split
  · rename_i e
    subst e;rw [D5,C5 h];rfl
  · rfl
theorem E1u{xs:List Int}{k:Nat}(hx:xs.length=257)(hk:k<257):((xs.zip lensT).getD k (0,0)).2=lensT.getD k 0:=by
  have h1:k<(xs.zip lensT).length:=by rw [A2H,hx,A0L];omega
  have h2:k<lensT.length:=by rw [A0L];exact hk
  rw [D5,D5,C5 h1,C5 h2];simp
theorem D9r{n:Int}(hn:1<=n/\n<=30){a:Int×List (Int×Int)}{b:Int×Int×List Int}(h:D17 n a b){k:Nat}(hk:k<257):D17 n (ist n a k) (cst n b k):=by
  obtain ⟨c,tab⟩:=a;obtain ⟨code,p,codes⟩:=b;obtain ⟨h1,h2,h3⟩:=h;simp only at h1 h2 h3;subst h1;have hg:=E1u h2 hk;unfold ist cst;simp only [hg];by_cases hq:lensT.getD k 0=n
  case neg=>rw [A5 hq,A5 hq];exact ⟨rfl,h2,h3⟩
  rw [A9 hq,A9 hq];have hc:(if p>0 then i64.wrap (i64.wrap (code+1)*2 ^ (min (u64.wrap (i64.wrap (n-p))).toNat i64.bits)) else code)=c:=by
    rcases h3 with ⟨e1,e2,e3⟩ | ⟨e1,e2,e3⟩
    · rw [A5 (by omega),e2,e3]
    · rw [A9 (by omega),w64 (n:=n-p) (by omega) (by omega),D18,e3]
      have e4:min (u64.wrap (n-p)).toNat i64.bits=(n-p).toNat:=by
        simp only [IntKind.wrap,IntKind.bits,IntKind.signed,A8q];simp;omega
      rw [e4]
  simp only [hc];refine ⟨?_,by simpa using h2,.inr ⟨hn.1,B8n _,by simp⟩⟩;rw [<- E1t (by rw [A0L];exact hk),hq]
theorem D5d{n:Int}(hn:1<=n/\n<=30){a:Int×List (Int×Int)}{b:Int×Int×List Int}(h:D17 n a b):∀ k,k<=257->D17 n (C2h n a k) (D9l n b k)
  | 0,_=>h
  | k+1,hk=>D9r hn (D5d hn h k (by omega)) (by omega)
theorem D5e{a:Int×List (Int×Int)}{b:Int×Int×List Int}(h:D17 0 a b):∀ k:Nat,k<=30->D17 (k:Int) (C2i a k) (lvl b k)
  | 0,_=>h
  | k+1,hk=>by
    obtain ⟨h1,h2,h3⟩:=D5e h k (by omega);refine D5d (by omega) (a:=(i64.wrap ((C2i a k).1*2),(C2i a k).2)) ⟨h1,h2,?_⟩ 257 (C1 _);rcases h3 with ⟨e1,e2,e3⟩ | ⟨e1,e2,e3⟩
    · exact .inl ⟨e1,e2,by simp only [e3];rfl⟩
    · refine .inr ⟨e1,by omega,?_⟩
      simp only [e3];rw [D18,show (((k+1:Nat):Int)-(lvl b k).2.1).toNat=((k:Int)-(lvl b k).2.1).toNat+1 by omega,Int.pow_succ,Int.mul_assoc]
theorem D19:∀ xs:List Int,(xs.map fun n=>((0:Int),n))=(List.replicate xs.length (0:Int)).zip xs
  | []=>rfl
  | x::xs=>by simp only [H7,E4,A3p,List.zip_cons_cons,D19 xs]
theorem D77{a:Int×List (Int×Int)}{b:Int×Int×List Int}(h:D17 0 a b):D16 a=(E1p b).zip lensT:=(D5e h 30 (C1 _)).1
theorem E4m:D17 0 (0,lensT.map fun n=>(0,n)) (0,0,List.replicate 257 0):=⟨by have h:=D19 lensT;rw [A0L] at h;exact h,U2,.inl ⟨rfl,rfl,rfl⟩⟩
theorem D78:E3I=codesT.zip lensT:=D77 E4m
theorem D1A{xs:List (Int×Int)}{i:Nat}:rd L3 xs (i:Int)=xs.getD i (0,0):=by
  simp [rd,zd]
theorem D3b(c n:Int)(o:List (Int×Int))(ho:o.length=257)(hn:n<1000)(hn0:0<=n)(a:Int)(e:List (Int×Int)) :
    H8 (A6i (a,n,e,())) (c,0,o,())=some (.inl ((C2h n (c,o) 257).1,n+1,(C2h n (c,o) 257).2,())):=by
  have hl:∀ k,(C2h n (c,o) k).2.length=257:=fun k=>by rw [C5o];exact ho
  refine A0l (A6i (a,n,e,())) (fun k=>((C2h n (c,o) k).1,(k:Int),(C2h n (c,o) k).2,())) 257 _ (fun k hk=>?_) ?_
  · have h1:(k:Int)<257:=by omega
    have h2:(0:Int)<=(k:Int):=by omega
    have h5:i64.wrap ((k:Int)+1)=((k+1:Nat):Int):=by rw [w64 (by omega) (by omega)];omega
    simp only [A6i,A0 h1,A0 h2,B2,D1A,h5,E2];have e1:C2h n (c,o) (k+1)=ist n (C2h n (c,o) k) k:=rfl;rw [e1];unfold ist;by_cases hq:((C2h n (c,o) k).2.getD k (0,0)).2=n
    · simp only [A0 hq,B2,A9 hq]
    · simp only [A8 hq,A7,A5 hq]
  · have h1:¬ ((257:Nat):Int)<257:=by omega
    simp only [A6i,A8 h1,A7];rw [w64 (by omega) (by omega)]
theorem C9I(a:Int×List (Int×Int))(ha:a.2.length=257):H8 (A4n) (a.1,1,a.2,())=some (D16 a,()):=by
  have hl:∀ k,(C2i a k).2.length=257:=fun k=>by rw [D15,ha]
  rw [D76];refine A0l A4n (fun k=>((C2i a k).1,((k:Int)+1),(C2i a k).2,())) 30 _ (fun k hk=>?_) ?_
  · have h1:(k:Int)+1<=30:=by omega
    simp only [A4n,A0 h1,B2];rw [D3b _ _ _ (hl k) (by omega) (by omega)];simp only [C2i]
    congr 4
  · have h1:¬ ((30:Nat):Int)+1<=30:=by omega
    simp only [A4n,A8 h1,A7]
theorem C1U:A7d=some (codesT.zip lensT,()):=by
  obtain ⟨c,hc,hcl,hca⟩:=D9q;rw [<- D78];show A7d=some (D16 (0,lensT.map fun n=>(0,n)),());have e0:A7d=B3 (B3 (A9k lensS ⟨#[32]⟩) fun c7=>H8 (A4m B5L c7) (0,(List.replicate 257 (0,0)),())) fun (m1:List A08×Unit)=>H8 (A4n) (0,1,m1.1,()):=rfl
  rw [e0,hc];have f1:H8 (A4m B5L (c,())) (0,(List.replicate 257 (0,0)),())=some (lensT.map fun n=>(0,n),()):=by
    have hl:∀ k,(szs (List.replicate 257 (0,0)) k).length=257:=fun k=>by rw [D5c];simp
    refine A0l (A4m B5L (c,())) (fun k=>((k:Int),szs (List.replicate 257 (0,0)) k,())) 257 _ (fun k hk=>?_) ?_
    · have h1:(k:Int)<257:=by omega
      have h2:(0:Int)<=(k:Int):=by omega
      have h3:(k:Int)<(c.length:Int):=by rw [hcl];omega
      have h5:i64.wrap ((k:Int)+1)=((k+1:Nat):Int):=by rw [w64 (by omega) (by omega)];omega
      have h6:rd .str c (k:Int)=c[k]'(by omega):=B0p (k:=.str) (by omega);simp only [A4m,A0 h1,A0 h2,A0 h3,B2,h6,hca k (by omega),B3,D1A,h5,E2];rfl
    · have h1:¬ ((257:Nat):Int)<(c.length:Int):=by rw [hcl];omega
      simp only [A4m,A8 h1,A7,E1r]
  simp only [B3,f1];exact C9I (0,lensT.map fun n=>(0,n)) (by simp only [T5,A0L])
set_option maxRecDepth 100000
theorem gA{R:Type}{n:Nat}{X:Option R}(h:n<=140737488355328):(bif decide (n<=9223372036854775807) then bif decide (n*1<=140737488355328) then X else none else none)=X:=by
  rw [A0 (by omega),A0 (by omega)];rfl
theorem D3c{R:Type}{n:Nat}{X:Option R}(h:n<=1000000000000):(bif decide (n<=9223372036854775807) then bif decide (n*32<=140737488355328) then X else none else none)=X:=by
  rw [A0 (by omega),A0 (by omega)];rfl
theorem E4n{R:Type}{n:Nat}{X:Option R}(h:n<=1000000000000):(bif decide (n<=9223372036854775807) then bif decide (n*48<=140737488355328) then X else none else none)=X:=by
  rw [A0 (by omega),A0 (by omega)];rfl
theorem D9s(k:IntKind)(x y:Int):bOr k x y=bOr k y x:=by
  unfold bOr;rw [BitVec.or_comm]
def more:Nat->Int->List Int
  | 0,v=> [u8.wrap v]
  | k+1,v=>if v>127 then u8.wrap (bOr .i64 (A0V .i64 v 127) 128)::more k (v.fdiv 128) else [u8.wrap v]
theorem D1B:∀ k v,(more k v).length<=k+1
  | 0,v=>by simp [more]
  | k+1,v=>by
    have:=D1B k (v.fdiv 128);simp only [more];split<;>simp<;>omega
theorem D1C:∀ k v,Byt (more k v)
  | 0,v=>fun x hx=>by rcases B0.1 hx with rfl;exact wrap_u8 _
  | k+1,v=>by
    have ih:=D1C k (v.fdiv 128);simp only [more];split
    · intro x hx
      rcases C3.1 hx with rfl | hx
      · exact wrap_u8 _
      · exact ih x hx
    · exact fun x hx=>by rcases B0.1 hx with rfl;exact wrap_u8 _
theorem C2j:∀ (k:Nat) (v:Int) (b:List Int),0<=v->v<128 ^ (k+1)->b.length+k+2<=140737488355328->
    ∃ v' ex,H8 A2E (v,b,())=some (v',b++ex,())/\ex ++ [u8.wrap v']=more k v/\ex.length<=k
  | 0,v,b,h0,h1,hb=>by
    have h1':v<128:=by simpa using h1
    have h2:¬ v>127:=by omega
    refine ⟨v,[],?_,rfl,by simp⟩;rw [H9];simp only [A2E,A8 h2,A7,E7]
  | k+1,v,b,h0,h1,hb=>by
    by_cases h2:v>127
    · have h3:v.fdiv 128=v / 128:=A1G _ (by omega)
      obtain ⟨v',ex,e1,e2,e3⟩:=C2j k (v.fdiv 128) (b ++ [u8.wrap (bOr .i64 (A0V .i64 v 127) 128)]) (by omega) (by rw [h3];rw [Int.pow_succ] at h1;omega) (by simp;omega);refine ⟨v',u8.wrap (bOr .i64 (A0V .i64 v 127) 128)::ex,?_,?_,by simp;omega⟩
      · rw [H9]
        simp only [A2E,A0 h2,B2];rw [gA (by simp;omega)];simp only [e1];simp
      · simp only [more,A9 h2,D4,e2]
    · refine ⟨v,[],?_,by simp only [more,A5 h2,G0],by simp⟩
      rw [H9];simp only [A2E,A8 h2,A7,E7]
def pfx(M F v:Int):List Int:=if v<M then [u8.wrap (bOr .i64 F v)] else u8.wrap (bOr .i64 F M)::more 3 (v-M)
theorem B9E(M F v:Int):(pfx M F v).length<=5:=by
  unfold pfx;split
  · simp
  · have:=D1B 3 (v-M);simp;omega
theorem C4c(M F v:Int):Byt (pfx M F v):=by
  unfold pfx;split
  · exact fun x hx=>by rcases B0.1 hx with rfl;exact wrap_u8 _
  · intro x hx
    rcases C3.1 hx with rfl | hx
    · exact wrap_u8 _
    · exact D1C _ _ x hx
theorem D5f(n f M F v:Int)(b:List Int)(h1:¬ (u64.wrap n<0))(h2:i64.wrap (i64.wrap (1*2 ^ (min (u64.wrap n).toNat i64.bits))-1)=M)(h3:A55 .i64 f M=F)(h5:1<=n/\n<=8)(h6:0<=f/\f<=255)
    (hM:15<=M/\M<=127) (hv:0<=v/\v<=16777216) (hb:b.length+16<=140737488355328):B41 b n f v=some (b++pfx M F v,()):=by
  have a1:¬ v>16777216:=by omega
  have a2:¬ v<0:=by omega
  simp only [B41,B9d,D5S,A0 h5,A0 h6,B3,K9,E0,A7,A8 h1,h2,h3,A8 a1,A8 a2,G0];rw [gA (by simp;omega)];by_cases hq:v<M
  · rw [A0 hq,B2,gA (by simp;omega),pfx,A9 hq]
  · rw [A8 hq,A7,gA (by simp;omega),w64 (by omega) (by omega)]
    obtain ⟨v',ex,e1,e2,e3⟩:=C2j 3 (v-M) (b ++ [u8.wrap (bOr .i64 F M)]) (by omega) (by omega) (by simp;omega);rw [e1];simp only [B3];rw [gA (by simp;omega),pfx,A5 hq,<- e2];simp
theorem D5g(n f M F v:Int)(b:List Int)(h1:¬ (u64.wrap n<0))(h2:i64.wrap (i64.wrap (1*2 ^ (min (u64.wrap n).toNat i64.bits))-1)=M)(h3:A0V .i64 f (A55 .i64 255 M)=F)
    (hM:15<=M/\M<=127) (hv:0<=v/\v<=16777216) (hb:b.length+16<=140737488355328):A3Q b n f v=some (b++pfx M F v,()):=by
  have a1:¬ 16777216<v:=by omega
  have a2:(bif decide (v>0) then v else 0)=v:=by
    by_cases h:v>0
    · rw [A0 h,B2]
    · rw [A8 h,A7];omega
  have e0:B0m=A2E:=by
    funext l
    simp only [B0m,A2E,D9s .i64 128]
  simp only [A3Q,B3j,B3,A8 h1,A7,h2,h3,A8 a1,a2,e0];by_cases hq:v<M
  · rw [A0 hq,B2,gA (by simp;omega),pfx,A9 hq]
  · rw [A8 hq,A7,gA (by simp;omega),w64 (by omega) (by omega)]
    obtain ⟨v',ex,e1,e2,e3⟩:=C2j 3 (v-M) (b ++ [u8.wrap (bOr .i64 F M)]) (by omega) (by omega) (by simp;omega);rw [e1];simp only [B3];rw [gA (by simp;omega),pfx,A5 hq,<- e2];simp
def Pf(n f M:Int):Prop:=∀ (v:Int) (b:List Int),0<=v->v<=16777216->b.length+16<=140737488355328->B41 b n f v=some (b++pfx M f v,())/\A3Q b n f v=some (b++pfx M f v,())
theorem D1D:Pf 7 128 127:=fun v b h0 h1 hb=>⟨D5f 7 128 127 128 v b (by decide) (by rfl) (by rfl) (by omega) (by omega) (by omega) ⟨h0,h1⟩ hb,D5g 7 128 127 128 v b (by decide) (by rfl) (by rfl) (by omega) ⟨h0,h1⟩ hb⟩
theorem E3J:Pf 7 0 127:=fun v b h0 h1 hb=>⟨D5f 7 0 127 0 v b (by decide) (by rfl) (by rfl) (by omega) (by omega) (by omega) ⟨h0,h1⟩ hb,D5g 7 0 127 0 v b (by decide) (by rfl) (by rfl) (by omega) ⟨h0,h1⟩ hb⟩
theorem E1v:Pf 6 64 63:=fun v b h0 h1 hb=>⟨D5f 6 64 63 64 v b (by decide) (by rfl) (by rfl) (by omega) (by omega) (by omega) ⟨h0,h1⟩ hb,D5g 6 64 63 64 v b (by decide) (by rfl) (by rfl) (by omega) ⟨h0,h1⟩ hb⟩
theorem E1w:Pf 4 16 15:=fun v b h0 h1 hb=>⟨D5f 4 16 15 16 v b (by decide) (by rfl) (by rfl) (by omega) (by omega) (by omega) ⟨h0,h1⟩ hb,D5g 4 16 15 16 v b (by decide) (by rfl) (by rfl) (by omega) ⟨h0,h1⟩ hb⟩
set_option maxRecDepth 100000
def leA(s:X0)(k:Nat):Int:=lensT.getD (bt s k).toNat 0
def coA(s:X0)(k:Nat):Int:=codesT.getD (bt s k).toNat 0
theorem C2k(s:X0)(k:Int):(bt s k).toNat<257:=by have:=D0s s k;have:=C1R s k;omega
theorem C1V(s:X0)(k:Nat):5<=leA s k/\leA s k<=30:=by
  have h:=C4.1 C8H (leA s k) (by
    unfold leA;rw [D5,C5 (by rw [A0L];exact C2k s k)];exact H1 _)
  simpa using h
theorem D9t(s:X0)(k:Nat):rd (.int .i64) lensT (bt s k)=leA s k:=by
  simp [rd,zd,leA]
theorem D9u(s:X0)(k:Nat):rd (.int .i64) codesT (bt s k)=coA s k:=by
  simp [rd,zd,coA]
theorem D5h(s:X0)(k:Nat)(xs:List (Int×Int))(hx:xs=codesT.zip lensT):rd L3 xs (bt s k)=(coA s k,leA s k):=by
  subst hx;have h1:(bt s k).toNat<codesT.length:=by rw [A3V];exact C2k s k
  have h2:(bt s k).toNat<lensT.length:=by rw [A0L];exact C2k s k
  have h3:(bt s k).toNat<(codesT.zip lensT).length:=by rw [A2H];omega
  unfold rd;rw [D5,C5 h3];simp [coA,leA,D5,C5 h1,C5 h2]
def dr:Nat->Int->Int->Int×Int×List Int
  | 0,v,n=>(v,n,[])
  | k+1,v,n=>if n>=8 then ((dr k (A0V .i64 v (i64.wrap ((i64.wrap (1*2 ^ (min (u64.wrap (n-8)).toNat i64.bits)))-1))) (n-8)).1,(dr k (A0V .i64 v (i64.wrap ((i64.wrap (1*2 ^ (min (u64.wrap (n-8)).toNat i64.bits)))-1))) (n-8)).2.1,
      u8.wrap (v.fdiv (2 ^ (min (u64.wrap (n-8)).toNat i64.bits)))::(dr k (A0V .i64 v (i64.wrap ((i64.wrap (1*2 ^ (min (u64.wrap (n-8)).toNat i64.bits)))-1))) (n-8)).2.2) else (v,n,[])
theorem E41:∀ (k:Nat) (v n:Int),0<=n->n<8*(k+1)->(dr k v n).2.1=n % 8/\((dr k v n).2.2.length:Int)=n / 8
  | 0,v,n,h0,h1=>⟨by simp only [dr];omega,by simp only [dr,J2];omega⟩
  | k+1,v,n,h0,h1=>by
    by_cases h:n>=8
    · have:=E41 k (A0V .i64 v (i64.wrap ((i64.wrap (1*2 ^ (min (u64.wrap (n-8)).toNat i64.bits)))-1))) (n-8) (by omega) (by omega)
      simp only [dr,A9 h,E4];omega
    · simp only [dr,A5 h,J2]
      omega
theorem D5i(l0:Int×Int×Int×List Int×Unit):∀ (k:Nat) (v n:Int) (o:List Int),0<=n->n<8*(k+1)->n<1000->o.length+k+1<=140737488355328->
    H8 (A9N l0) (v,n,o,())=some (.inl ((dr k v n).1,(dr k v n).2.1,i64.wrap (l0.2.2.1+1),o++(dr k v n).2.2,()))
  | 0,v,n,o,h0,h1,h2,hb=>by
    have h:¬ n>=8:=by omega
    rw [H9];simp only [A9N,A8 h,A7,dr,E7]
  | k+1,v,n,o,h0,h1,h2,hb=>by
    rw [H9];by_cases h:n>=8
    · have e1:i64.wrap (n-8)=n-8:=w64 (by omega) (by omega)
      simp only [A9N,A0 h,B2,e1,A8 (u64_nonneg _),A7];rw [gA (by simp;omega)];simp only [];rw [D5i l0 k _ (n-8) _ (by omega) (by omega) (by omega) (by simp;omega)];simp only [dr,A9 h,B1,B7O,D4,G0]
    · simp only [A9N,A8 h,A7,dr,A5 h,E7]
theorem D9v(l0:Int×Int×Int×List Int×Unit):C5e l0=A9N l0:=rfl
def hst(s:X0):Nat->Int×Int×List Int
  | 0=>(0,0,[])
  | k+1=>let d:=dr 5 (bOr .i64 (i64.wrap ((hst s k).1*2 ^ (min (u64.wrap (leA s k)).toNat i64.bits))) (coA s k)) ((hst s k).2.1+leA s k);(d.1,d.2.1,(hst s k).2.2++d.2.2)
def bits(s:X0):Nat->Int
  | 0=>0
  | k+1=>bits s k+leA s k
theorem B4j(s:X0):∀ k:Nat,0<=bits s k/\bits s k<=30*(k:Int)
  | 0=>⟨by simp [bits],by simp [bits]⟩
  | k+1=>by
    have:=B4j s k;have:=C1V s k;simp only [bits];omega
theorem D1E(s:X0):∀ k:Nat,(hst s k).2.1=bits s k % 8/\((hst s k).2.2.length:Int)=bits s k / 8
  | 0=>⟨by simp [hst,bits],by simp [hst,bits]⟩
  | k+1=>by
    have h1:=D1E s k;have h2:=C1V s k;have h3:=B4j s k;have h4:=E41 5 (bOr .i64 (i64.wrap ((hst s k).1*2 ^ (min (u64.wrap (leA s k)).toNat i64.bits))) (coA s k)) ((hst s k).2.1+leA s k) (by omega) (by omega);simp only [hst,bits,A3];omega
theorem D5j(s:X0)(k:Nat)(h:k<=1000000000):(hst s k).2.2.length<=4000000000:=by
  have:=D1E s k;have:=B4j s k;omega
theorem D79(s:X0)(a:List Int)(ha:a.length<=1000000000000)(hs:s.size<=1000000000)(k:Nat)(hk:k<s.size) :
    A3U s (lensT,()) (codesT,()) ((hst s k).1,(hst s k).2.1,(k:Int),a++(hst s k).2.2,())=some (.inl ((hst s (k+1)).1,(hst s (k+1)).2.1,((k+1:Nat):Int),a++(hst s (k+1)).2.2,())):=by
  have h1:(k:Int)<(s.size:Int):=by omega
  have h2:(0:Int)<=(k:Int):=by omega
  have h3:=D0s s k;have h4:bt s k<(lensT.length:Int):=by rw [A0L];have:=C1R s k;omega
  have h5:bt s k<(codesT.length:Int):=by rw [A3V];have:=C1R s k;omega
  have h6:=C1V s k;have h7:=D1E s k;have h8:=D5j s k (by omega);simp only [A3U,A0 h1,A0 h2,A0 h3,A0 h4,A0 h5,B2,D9t,D9u,A8 (u64_nonneg _),A7];rw [w64 (n:=(hst s k).2.1+leA s k) (by omega) (by omega),D5i _ 5 _ _ _ (by omega) (by omega) (by omega) (by simp;omega),w64 (n:=(k:Int)+1) (by omega) (by omega)];simp only [hst,B1];rfl
theorem D3d(s:X0)(l:Int×Int×Int×List Int×Unit):B5i s (codesT.zip lensT) l=A3U s (lensT,()) (codesT,()) l:=by
  obtain ⟨v,n,k,o,u⟩:=l;simp only [B5i,A3U];by_cases h1:k<(s.size:Int)
  · by_cases h2:0<=k
    · obtain ⟨k,rfl⟩:=Int.eq_ofNat_of_zero_le h2
      have h3:=D0s s k;have h4:bt s k<(lensT.length:Int):=by rw [A0L];have:=C1R s k;omega
      have h5:bt s k<(codesT.length:Int):=by rw [A3V];have:=C1R s k;omega
      have h6:bt s k<((codesT.zip lensT).length:Int):=by rw [A2H,A3V,A0L];have:=C1R s k;omega
      have h7:0<(codesT.zip lensT).length:=by rw [A2H,A3V,A0L];omega
      simp only [A0 h1,A0 h2,A0 h3,A0 h4,A0 h5,A0 h6,A0 h7,B2,D9t,D9u,D5h s k (codesT.zip lensT) rfl,D9v]
    · simp only [A8 h2,A7]
  · simp only [A8 h1,A7]
def A22(s:X0):List Int:=
  if (hst s s.size).2.1>0 then (hst s s.size).2.2 ++ [u8.wrap (bOr .i64 (i64.wrap ((hst s s.size).1*2 ^ (min (u64.wrap (i64.wrap (8-(hst s s.size).2.1))).toNat i64.bits))) (i64.wrap ((i64.wrap (1*2 ^ (min (u64.wrap (i64.wrap (8-(hst s s.size).2.1))).toNat i64.bits)))-1)))] else (hst s s.size).2.2
theorem D7A(s:X0):((A22 s).length:Int)=(bits s s.size+7) / 8:=by
  have h:=D1E s s.size;have h2:=B4j s s.size;unfold A22;split
  · simp only [A3,G3]
    omega
  · omega
theorem D9w(s:X0)(a:List Int)(ha:a.length<=1000000000000)(hs:s.size<=1000000000) :
    (B3 (H8 (A3U s (lensT,()) (codesT,())) (0,0,0,a,())) fun (m2:Int×Int×List Int×Unit)=>bif (decide (m2.2.1>0)) then bif decide ((u64.wrap (i64.wrap (8-m2.2.1)))<0) then none else bif decide ((u64.wrap (i64.wrap (8-m2.2.1)))<0) then none else bif decide (m2.2.2.1.length+([(u8.wrap (bOr .i64 (i64.wrap (m2.1*2 ^ (min (u64.wrap (i64.wrap (8-m2.2.1))).toNat i64.bits))) (i64.wrap ((i64.wrap (1*2 ^ (min (u64.wrap (i64.wrap (8-m2.2.1))).toNat i64.bits)))-1))))]:List Int).length<=9223372036854775807) then bif decide ((m2.2.2.1.length+([(u8.wrap (bOr .i64 (i64.wrap (m2.1*2 ^ (min (u64.wrap (i64.wrap (8-m2.2.1))).toNat i64.bits))) (i64.wrap ((i64.wrap (1*2 ^ (min (u64.wrap (i64.wrap (8-m2.2.1))).toNat i64.bits)))-1))))]:List Int).length)*1<=140737488355328) then some ((m2.2.2.1 ++ [(u8.wrap (bOr .i64 (i64.wrap (m2.1*2 ^ (min (u64.wrap (i64.wrap (8-m2.2.1))).toNat i64.bits))) (i64.wrap ((i64.wrap (1*2 ^ (min (u64.wrap (i64.wrap (8-m2.2.1))).toNat i64.bits)))-1))))]),()) else none else none else some (m2.2.2.1,()))=some (a++A22 s,()):=by
  have h1:H8 (A3U s (lensT,()) (codesT,())) (0,0,0,a,())=some ((hst s s.size).1,(hst s s.size).2.1,a++(hst s s.size).2.2,()):=by
    have:=A0l (A3U s (lensT,()) (codesT,())) (fun k=>((hst s k).1,(hst s k).2.1,(k:Int),a++(hst s k).2.2,())) s.size ((hst s s.size).1,(hst s s.size).2.1,a++(hst s s.size).2.2,()) (fun k hk=>D79 s a ha hs k hk) (by
      have h:¬ ((s.size:Nat):Int)<(s.size:Int):=by omega
      simp only [A3U,A8 h,A7])
    simpa [hst] using this
  have h8:=D5j s s.size (by omega);rw [h1];simp only [B3,A8 (u64_nonneg _),A7];by_cases h:(hst s s.size).2.1>0
  · rw [A0 h,B2,gA (by simp;omega),A22,A9 h]
    simp
  · rw [A8 h,A7,A22,A5 h]
theorem C8I(s:X0)(a:List Int)(ha:a.length<=1000000000000)(hs:s.size<=1000000000):B7u (codesT.zip lensT) a s=some (a++A22 s,()):=by
  simp only [B7u,C5f];rw [show B5i s (codesT.zip lensT)=A3U s (lensT,()) (codesT,()) from funext fun l=>D3d s l];exact D9w s a ha hs
theorem C9J(s:X0)(hs:s.size<=1000000000):B32 (codesT.zip lensT) s=some (((A22 s).length:Int),()):=by
  simp only [B32,B7t];have h1:H8 (A6j s (codesT.zip lensT)) (0,0,())=some (bits s s.size,()):=by
    refine A0l (A6j s (codesT.zip lensT)) (fun k=>(bits s k,(k:Int),())) s.size _ (fun k hk=>?_) ?_
    · have h1:(k:Int)<(s.size:Int):=by omega
      have h2:(0:Int)<=(k:Int):=by omega
      have h3:=D0s s k;have h6:bt s k<((codesT.zip lensT).length:Int):=by rw [A2H,A3V,A0L];have:=C1R s k;omega
      have h7:0<(codesT.zip lensT).length:=by rw [A2H,A3V,A0L];omega
      have h8:=B4j s k;have h9:=C1V s k;simp only [A6j,A0 h1,A0 h2,A0 h3,A0 h6,A0 h7,B2,D5h s k (codesT.zip lensT) rfl];rw [w64 (by omega) (by omega),w64 (by omega) (by omega)];rfl
    · have h:¬ ((s.size:Nat):Int)<(s.size:Int):=by omega
      simp only [A6j,A8 h,A7]
  rw [h1];have h2:=B4j s s.size;simp only [B3];rw [w64 (n:=bits s s.size+7) (by omega) (by omega),D7A,Int.tdiv_eq_ediv_of_nonneg (by omega),w64 (by omega) (by omega)]
theorem E00:∀ (k:Nat) (v n:Int),Byt (dr k v n).2.2
  | 0,v,n=>fun x hx=>by simp [dr] at hx
  | k+1,v,n=>by
    by_cases h:n>=8
    · have ih:=E00 k (A0V .i64 v (i64.wrap ((i64.wrap (1*2 ^ (min (u64.wrap (n-8)).toNat i64.bits)))-1))) (n-8)
      simp only [dr,A9 h];intro x hx;rcases C3.1 hx with rfl | hx
      · exact wrap_u8 _
      · exact ih x hx
    · simp only [dr,A5 h]
      exact fun x hx=>by cases hx
theorem C9K(s:X0):∀ k,Byt (hst s k).2.2
  | 0=>fun x hx=>by simp [hst] at hx
  | k+1=>A3F (C9K s k) (E00 _ _ _)
theorem D7B(s:X0):Byt (A22 s):=by
  unfold A22;split
  · exact A3F (C9K s _) fun x hx=>by rcases B0.1 hx with rfl;exact wrap_u8 _
  · exact C9K s _
def B6M(s:X0):List Int:=if (A22 s).length<s.size then pfx 127 128 ((A22 s).length:Int)++A22 s else pfx 127 0 (s.size:Int)++bytesOf s
theorem D1F(s:X0):(B6M s).length<=s.size+5:=by
  unfold B6M;split
  · have:=B9E 127 128 ((A22 s).length:Int);simp only [A3];omega
  · have:=B9E 127 0 (s.size:Int);simp only [A3,bytesOf_length];omega
theorem D1G(s:X0):Byt (B6M s):=by
  unfold B6M;split
  · exact A3F (C4c _ _ _) (D7B s)
  · exact A3F (C4c _ _ _) (B8C s)
theorem B8D(s:X0)(a:List Int)(ha:a.length<=100000000000)(hs:s.size<=16777216):A6k a s=some (a++B6M s,()):=by
  simp only [A6k,B3k,C1U,C9J s (by omega),B3];by_cases h:(A22 s).length<s.size
  · have h':((A22 s).length:Int)<(s.size:Int):=by omega
    have hp:=B9E 127 128 ((A22 s).length:Int);rw [A0 h',B2,(D1D ((A22 s).length:Int) a (by omega) (by omega) (by omega)).2];simp only [];rw [C8I s _ (by simp only [A3];omega) (by omega)];simp only [B6M,A9 h,B1]
  · have h':¬ ((A22 s).length:Int)<(s.size:Int):=by omega
    have hp:=B9E 127 0 (s.size:Int);rw [A8 h',A7,(E3J (s.size:Int) a (by omega) (by omega) (by omega)).2];simp only [];rw [A0 (by simp only [A3];omega),B2,B6M,A5 h,B1]
set_option maxRecDepth 100000
def fstS:X0:=⟨#[58,97,117,116,104,111,114,105,116,121,124,58,109,101,116,104,111,100,61,71,69,84,124,58,109,101,116,104,111,100,61,80,79,83,84,124,58,112,97,116,104,61,47,124,58,112,97,116,104,61,47,105,110,100,101,120,46,104,116,109,108,124,58,115,99,104,101,109,101,61,104,116,116,112,124,58,115,99,104,101,109,101,61,104,116,116,112,115,124,58,115,116,97,116,117,115,61,50,48,48,124,58,115,116,97,116,117,115,61,50,48,52,124,58,115,116,97,116,117,115,61,50,48,54,124,58,115,116,97,116,117,115,61,51,48,52,124,58,115,116,97,116,117,115,61,52,48,48,124,58,115,116,97,116,117,115,61,52,48,52,124,58,115,116,97,116,117,115,61,53,48,48,124,97,99,99,101,112,116,45,99,104,97,114,115,101,116,124,97,99,99,101,112,116,45,101,110,99,111,100,105,110,103,61,103,122,105,112,44,32,100,101,102,108,97,116,101,124,97,99,99,101,112,116,45,108,97,110,103,117,97,103,101,124,97,99,99,101,112,116,45,114,97,110,103,101,115,124,97,99,99,101,112,116,124,97,99,99,101,115,115,45,99,111,110,116,114,111,108,45,97,108,108,111,119,45,111,114,105,103,105,110,124,97,103,101,124,97,108,108,111,119,124,97,117,116,104,111,114,105,122,97,116,105,111,110,124,99,97,99,104,101,45,99,111,110,116,114,111,108,124,99,111,110,116,101,110,116,45,100,105,115,112,111,115,105,116,105,111,110,124,99,111,110,116,101,110,116,45,101,110,99,111,100,105,110,103,124,99,111,110,116,101,110,116,45,108,97,110,103,117,97,103,101,124,99,111,110,116,101,110,116,45,108,101,110,103,116,104,124,99,111,110,116,101,110,116,45,108,111,99,97,116,105,111,110,124,99,111,110,116,101,110,116,45,114,97,110,103,101,124,99,111,110,116,101,110,116,45,116,121,112,101,124,99,111,111,107,105,101,124,100,97,116,101,124,101,116,97,103,124,101,120,112,101,99,116,124,101,120,112,105,114,101,115,124,102,114,111,109,124,104,111,115,116,124,105,102,45,109,97,116,99,104,124,105,102,45,109,111,100,105,102,105,101,100,45,115,105,110,99,101,124,105,102,45,110,111,110,101,45,109,97,116,99,104,124,105,102,45,114,97,110,103,101,124,105,102,45,117,110,109,111,100,105,102,105,101,100,45,115,105,110,99,101,124,108,97,115,116,45,109,111,100,105,102,105,101,100,124,108,105,110,107,124,108,111,99,97,116,105,111,110,124,109,97,120,45,102,111,114,119,97,114,100,115,124,112,114,111,120,121,45,97,117,116,104,101,110,116,105,99,97,116,101,124,112,114,111,120,121,45,97,117,116,104,111,114,105,122,97,116,105,111,110,124,114,97,110,103,101,124,114,101,102,101,114,101,114,124,114,101,102,114,101,115,104,124,114,101,116,114,121,45,97,102,116,101,114,124,115,101,114,118,101,114,124,115,101,116,45,99,111,111,107,105,101,124,115,116,114,105,99,116,45,116,114,97,110,115,112,111,114,116,45,115,101,99,117,114,105,116,121,124,116,114,97,110,115,102,101,114,45,101,110,99,111,100,105,110,103,124,117,115,101,114,45,97,103,101,110,116,124,118,97,114,121,124,118,105,97,124,119,119,119,45,97,117,116,104,101,110,116,105,99,97,116,101]⟩
noncomputable def firstT:List B9:=match D0p with
  | some (x,_)=>x
  | none=> []
theorem A9P:firstT.length=61:=rfl
theorem D7C:(firstT.all fun f=>Nat.ble (f.1.size+f.2.size) 100)=true:=by kernel_rfl
def fstP:List (List UInt8):=Lib.splitK [124] 0 (Lib.count fstS.data.toList [124]) fstS.data.toList
theorem E01:(fstP.map fun x=>((Lib.cut x [61]).1,(Lib.cut x [61]).2.1))=firstT.map fun f=>(f.1.data.toList,f.2.data.toList):=by kernel_rfl
theorem E20:(fstP.all fun x=>Nat.ble x.length 100)=true:=by kernel_rfl
theorem D3e:(Lib.splitB ⟨#[124]⟩ 0 (Lib.countB fstS ⟨#[124]⟩) fstS).map (·.data.toList)=fstP:=by
  rw [Lib.splitB_data];rfl
theorem E21:fstS.size<4294967281:=by
  have:Nat.ble (fstS.size+1) 4294967281=true:=by kernel_rfl
  exact D7 this
theorem A7g{α β:Type}{f:α->Option (α⊕β)}{x y:α}(h:f x=some (.inl y)):H8 f x=H8 f y:=by rw [H9,h]
theorem E2a{l:List UInt8}{b:X0}(h:l=b.data.toList):(⟨l.toArray⟩:X0)=b:=by
  subst h;simp
theorem D7D(s:X0)(P:List (List UInt8))(F:List B9)(hs:s.size<4294967281)(h0:(Lib.splitB ⟨#[124]⟩ 0 (Lib.countB s ⟨#[124]⟩) s).map (·.data.toList)=P)
    (hP:(P.map fun x=>((Lib.cut x [61]).1,(Lib.cut x [61]).2.1))=F.map fun f=>(f.1.data.toList,f.2.data.toList)) (hz:(P.all fun x=>Nat.ble x.length 100)=true) :
    ∃ c:List X0,A9k s ⟨#[124]⟩=some (c,())/\c.length=F.length/\∀ k (h:k<c.length) (h2:k<F.length),∃ b,C4i c[k] ⟨#[61]⟩=some (F[k].1,F[k].2,b,()):=by
  have h1:(decide (s.size<4294967281)&&decide (1<=(⟨#[124]⟩:X0).size))=true:=by
    rw [A0 hs];rfl
  refine ⟨_,by simp only [A9k,h1,B2];rfl,?_,fun k hk hk3=>?_⟩
  · have:=J7 List.length h0
    rw [T5] at this;rw [this];have h2:=J7 List.length hP;rw [T5,T5] at h2;exact h2
  · generalize hc:Lib.splitB ⟨#[124]⟩ 0 (Lib.countB s ⟨#[124]⟩) s=c at *
    have e:=h0;have hk2:k<P.length:=by rw [<- e,T5];exact hk
    have e1:(c[k]).data.toList=P[k]:=by
      have:(c.map (·.data.toList))[k]? = P[k]?:=by rw [e]
      rw [L7,C5 hk,C5 hk2] at this;simpa using this
    have e2:((Lib.cut P[k] [61]).1,(Lib.cut P[k] [61]).2.1)=(F[k].1.data.toList,F[k].2.data.toList):=by
      have:(P.map fun x=>((Lib.cut x [61]).1,(Lib.cut x [61]).2.1))[k]? = (F.map fun f=>(f.1.data.toList,f.2.data.toList))[k]?:=by rw [hP]
      rw [L7,C5 hk2,L7,C5 hk3] at this;simpa only [M4,H2] using this
    have e3:(c[k]).size<=100:=by
      have h4:=C4.1 hz P[k] (H1 hk2);have h5:=D7 h4;rw [<- e1] at h5;exact h5
    refine ⟨(Lib.cut P[k] [61]).2.2,?_⟩;have e4:(c[k]).size<4294967281:=by omega
    have e5:(⟨#[61]⟩:X0).data.toList = [61]:=rfl;simp only [C4i,A0 e4,B2,e1,e5];rw [E2a (J7 Prod.fst e2),E2a (J7 Prod.snd e2)]
theorem B4k:A4W=some (firstT,()):=by
  obtain ⟨c,hc,hcl,hca⟩:=D7D fstS fstP firstT E21 D3e E01 E20;have e0:A4W=B3 (A9k fstS ⟨#[124]⟩) fun c7=>H8 (A3B C4i c7) (0,[],()):=rfl
  rw [e0,hc];simp only [B3];have hF:=A9P;generalize firstT=F at *
  refine (A0l (A3B C4i (c,())) (fun k=>((k:Int),F.take k,())) 61 (F,()) (fun k hk=>?_) ?_)
  · have h1:(k:Int)<(c.length:Int):=by omega
    have h2:(0:Int)<=(k:Int):=by omega
    obtain ⟨b,hb⟩:=hca k (by omega) (by omega);have h6:rd .str c (k:Int)=c[k]'(by omega):=B0p (k:=.str) (by omega);simp only [A3B,A0 h1,A0 h2,B2,h6,hb,B3];rw [D3c (by simp;omega),w64 (by omega) (by omega)];have e7:F.take (k+1)=F.take k ++ [(F[k]'(by omega))]:=by
      rw [L9 (by omega)]
    rw [e7];rfl
  · have h1:¬ ((61:Nat):Int)<(c.length:Int):=by omega
    simp only [A3B,A8 h1,A7];rw [G1 (by omega)]
theorem D1H(F T:List B9)(h1:F.length<=1000000000)(h2:T.length<=1000000000):Q2 [F,T]=some (F++T,()):=by
  have r0:rd (.sl 150 C8) ([F,T]:List (List B9)) 0=F:=rfl;have r1:rd (.sl 150 C8) ([F,T]:List (List B9)) 1=T:=rfl;have hl:(([F,T]:List (List B9)).length:Int)=2:=rfl;have d0:decide ((0:Int)<2)=true:=rfl;have d1:decide ((0:Int)<=0)=true:=rfl;have d2:decide ((1:Int)<2)=true:=rfl;have d3:decide ((0:Int)<=1)=true:=rfl;have a1:H8 (O6 [F,T]) (0,0,())=some ((F.length:Int)+T.length,()):=by
    rw [A7g (y:=((F.length:Int),1,())) (by
      simp only [O6,hl,r0,d0,d1,B2,A8r];rw [w64 (n:=(F.length:Int)) (by omega) (by omega),A8 (p:=(F.length:Int)<0) (by omega)];rfl)]
    rw [A7g (y:=((F.length:Int)+T.length,2,())) (by
      simp only [O6,hl,r1,d2,d3,B2];rw [w64 (n:=(F.length:Int)+T.length) (by omega) (by omega),A8 (p:=(F.length:Int)+T.length<0) (by omega)];rfl)]
    rw [H9];rfl
  have a2:B0i ([]:List B9) ((F.length:Int)+T.length)=some ([],()):=by
    have:(([]:List B9).isEmpty&&decide (0<=(F.length:Int)+T.length)&&decide ((F.length:Int)+T.length<=1000000000000))=true:=by
      rw [A0 (by omega),A0 (by omega)];rfl
    simp only [B0i,this,B2]
  have a3:H8 (O7 [F,T]) (0,[],())=some (F++T,()):=by
    rw [A7g (y:=(1,F,())) (by
      simp only [O7,hl,r0,d0,d1,B2];rw [D3c (by simp;omega)];rfl)]
    rw [A7g (y:=(2,F++T,())) (by
      simp only [O7,hl,r1,d2,d3,B2];rw [D3c (by omega)];rfl)]
    rw [H9];rfl
  simp only [Q2,W9,a1,B3];rw [show A0N=B0i from rfl,a2];exact a3
def B8E(all:List B9)(f:B9):Nat->Int
  | 0=>0
  | k+1=>if B8E all f k=0 then (if ((rd C8 all (k:Int)).1.toList == f.1.toList) then (k:Int)+1 else 0) else B8E all f k
theorem D1I(all:List B9)(f:B9):∀ k:Nat,0<=B8E all f k/\B8E all f k<=k
  | 0=>⟨B8n _,B8n _⟩
  | k+1=>by
    have:=D1I all f k;simp only [B8E];split
    · split<;>omega
    · omega
def exa(all:List B9)(f:B9)(k:Nat):Bool:=!eqB [(rd C8 all (k:Int)).1,(rd C8 all (k:Int)).2] [f.1,f.2]
def fnd(all:List B9)(f:B9)(k:Nat):(Int×Unit)⊕(Int×Bool×Unit):=if k<all.length then .inr ((k:Int)+1,true,()) else .inl (B8E all f all.length,())
def A42(all:List B9)(f:B9):Int×Bool:=
  if V7 (exa all f) 0 all.length<all.length then ((V7 (exa all f) 0 all.length:Int)+1,true) else (B8E all f all.length,false)
theorem C8J(all:List B9)(f:B9):0<=(A42 all f).1/\(A42 all f).1<=all.length:=by
  unfold A42;split
  · exact ⟨by simp only [];omega,by simp only [];omega⟩
  · exact D1I all f all.length
theorem D1J(all:List B9)(f:B9)(hl:all.length<=1000000000)(k:Nat)(hk:k<all.length) :
    A36 (all,()) f (B8E all f k,(k:Int),())=if exa all f k then some (.inl (B8E all f (k+1),((k+1:Nat):Int),())) else some (.inr (fnd all f k)):=by
  have h1:(k:Int)<(all.length:Int):=by omega
  have h2:(0:Int)<=(k:Int):=by omega
  simp only [A36,A0 h1,A0 h2,B2];rw [w64 (by omega) (by omega)];unfold exa fnd;cases eqB [(rd C8 all (k:Int)).1,(rd C8 all (k:Int)).2] [f.1,f.2] with
  | true=>simp only [B2,E0,A9 hk];rfl
  | false=>
    simp only [A7,L6,J4,B8E];by_cases hb:B8E all f k=0
    · simp only [hb,V9,B2,J4]
      cases ((rd C8 all (k:Int)).1.toList == f.1.toList)<;>simp
    · simp only [A8 hb,A7,A5 hb]
      rfl
theorem E22(all:List B9)(f:B9):(K9 (some (fnd all f (V7 (exa all f) 0 all.length))) fun (m1:Int×Unit)=>some (m1.1,false,()))=some ((A42 all f).1,(A42 all f).2,()):=by
  unfold A42 fnd;by_cases h:V7 (exa all f) 0 all.length<all.length
  · simp only [A9 h,K9]
  · simp only [A5 h,K9]
theorem D3f(all:List B9)(f:B9)(hl:all.length<=1000000000):(K9 (H8 (A36 (all,()) f) (0,0,())) fun (m1:Int×Unit)=>some (m1.1,false,()))=some ((A42 all f).1,(A42 all f).2,()):=by
  have:=B8A (A36 (all,()) f) (fun k=>(B8E all f k,(k:Int),())) all.length (fnd all f) (exa all f) (fun k hk=>D1J all f hl k hk) (by
    have h1:¬ ((all.length:Nat):Int)<(all.length:Int):=by omega
    have h2:¬ all.length<all.length:=by omega
    simp only [A36,A8 h1,A7,fnd,A5 h2])
  rw [show ((0:Int),(0:Int),())=(fun k:Nat=>(B8E all f k,(k:Int),())) 0 from rfl,this];exact E22 all f
theorem C5p(t:F5)(f:B9)(h:t.2.length<=900000000):A9n t f=some ((A42 (firstT++t.2) f).1,(A42 (firstT++t.2) f).2,()):=by
  have hF:=A9P;have:=D3f (firstT++t.2) f (by rw [A3];omega);simp only [A9n,B3i,B4k,B3,D1H firstT t.2 (by omega) (by omega)];exact this
theorem E23{F T:List B9}{k:Nat}(h:k<F.length):rd C8 (F++T) (k:Int)=rd C8 F (k:Int):=by
  unfold rd;simp only [E2,D5];rw [E8 h]
theorem E24{F T:List B9}{k:Nat}{i:Int}(h:F.length<=k)(hi:i=(k:Int)-F.length):rd C8 (F++T) (k:Int)=rd C8 T i:=by
  subst hi;unfold rd;rw [show ((k:Int)-F.length).toNat=k-F.length by omega];simp only [E2,D5];rw [E9 h]
set_option maxRecDepth 100000
def ofF(f:B9):Int:=(f.1.size:Int)+f.2.size+32
def szT:List B9->Int
  | []=>0
  | f::fs=>ofF f+szT fs
theorem C1W(f:B9):32<=ofF f:=by unfold ofF;omega
theorem B01:∀ fs:List B9,32*(fs.length:Int)<=szT fs
  | []=>by simp [szT]
  | f::fs=>by
    have:=B01 fs;have:=C1W f;simp only [szT,E4];omega
theorem C9L:∀ a b:List B9,szT (a++b)=szT a+szT b
  | [],b=>by simp [szT]
  | f::a,b=>by simp only [D4,szT,C9L a b];omega
theorem E02(fs:List B9)(i:Nat):szT (fs.take i)<=szT fs:=by
  have h:=C9L (fs.take i) (fs.drop i);rw [M0] at h;have:=B01 (fs.drop i);omega
theorem D1K(fs:List B9){i:Nat}(h:i<fs.length):szT (fs.take (i+1))=szT (fs.take i)+ofF fs[i]:=by
  rw [L9 h,C9L];simp [szT]
theorem E25(f:B9)(h:ofF f<=10000000000000):D0m f=some (ofF f,()):=by
  unfold ofF at *
  simp only [D0m,D0l];rw [w64 (n:=(f.1.size:Int)+f.2.size) (by omega) (by omega),w64 (by omega) (by omega)]
theorem C3e(f:B9)(h:ofF f<=10000000000000):A9A f=some (ofF f,()):=E25 f h
theorem D1L(xs:List B9)(h:xs.length<=1000000000):K0 xs=some (xs,()):=by
  simp only [K0,A0C];rw [D3c (by simp;omega)];by_cases h0:0<xs.length
  · rw [A0 h0,B2];rfl
  · rw [A8 h0,A7]
    have:xs = []:=V5.1 (by omega);subst this;simp [eqO]
theorem A8E(t:F5)(h:t.2.length<=1000000000):A2c t=some (t,()):=by
  simp only [A2c,B3g,D1L t.2 h,B3]
theorem E2b(m:Int)(fs:List B9)(hm:0<=m)(hm2:m<=1000000)(hs:szT fs<=1000000000) :
    ∃ k,k<=fs.length/\(k<fs.length->decide (0<=m-szT (fs.take (k+1)))=false)/\A2l (m,fs)=some ((m,fs.take k),())/\szT (fs.take k)<=m:=by
  have hl:=B01 fs;obtain ⟨k,hk,ht,hf,he⟩:=A9O (A5l A9A K0 (m,fs)) (fun i=>(m-szT (fs.take i),(i:Int),())) fs.length (fun i=>((m,fs.take i),())) (fun i=>decide (0<=m-szT (fs.take (i+1)))) (fun i hi=>by
    have h1:(i:Int)<(fs.length:Int):=by omega
    have h2:(0:Int)<=(i:Int):=by omega
    have h22:(i:Int)<=(fs.length:Int):=by omega
    have h3:=D1K fs hi;have h4:=E02 fs (i+1);have h5:=B01 (fs.take i);have h6:rd C8 fs (i:Int)=fs[i]:=B0p (k:=C8) hi;have h7:=C1W fs[i];have h8:=B01 (fs.take (i+1));simp only [A5l,A0 h1,A0 h2,A0 h22,B2,h6,T4,E2];rw [C3e _ (by omega),D1L _ (by simp;omega)];simp only [B3];rw [w64 (n:=m-szT (fs.take i)-ofF fs[i]) (by omega) (by omega),w64 (n:=(i:Int)+1) (by omega) (by omega)];by_cases hq:0<=m-szT (fs.take (i+1))
    · rw [A8 (by omega),A7,A0 hq,A9 rfl,h3]
      rw [show m-szT (fs.take i)-ofF fs[i]=m-(szT (fs.take i)+ofF fs[i]) by omega];rfl
    · rw [A0 (by omega),B2,A8 hq]
      rfl) (by
    have h1:¬ ((fs.length:Nat):Int)<(fs.length:Int):=by omega
    simp only [A5l,A8 h1,A7];rw [G1 (by omega)])
  have hkm:szT (fs.take k)<=m:=by
    cases k with
    | zero=>simp [szT];omega
    | succ k=>have:=B8 (ht k (by omega));omega
  refine ⟨k,hk,hf,?_,hkm⟩;simp only [A2l,B1w];have e0:(m,(0:Int),())=(fun i:Nat=>(m-szT (fs.take i),(i:Int),())) 0:=by simp [szT]
  rw [e0];exact he
theorem E42(t:F5)(f:B9)(hm:0<=t.1)(hm2:t.1<=1000000)(hs:szT t.2+ofF f<=1000000000) :
    ∃ T,A3P t f=some ((t.1,T),())/\szT T<=t.1:=by
  obtain ⟨m,fs⟩:=t;have hl:=B01 fs;have hf:=C1W f;simp only at hm hm2 hs;obtain ⟨k,_,_,h1,h3⟩:=E2b m (f::fs) hm hm2 (by simp only [szT];omega);refine ⟨(f::fs).take k,?_,h3⟩;have e:C8B fs 0 [f]=some (f::fs,()):=by
    simp only [C8B];rw [A0 (by omega),A0 (by omega),A0 (by simp),A0 (by simp;omega)];rfl
  simp only [A3P,B3h,show W8=C8B from rfl,e,B3,h1]
def A1M(t:F5):Prop:=0<=t.1/\t.1<=4096/\szT t.2<=t.1
theorem A7C{t:F5}(h:A1M t):t.2.length<=128:=by
  have:=B01 t.2;obtain ⟨h0,h1,h2⟩:=h;omega
theorem bO{A B:Type}(x:A)(f:A->Option B):B3 (some x) f=f x:=rfl
theorem bSl{A B:Type}(x:A)(f:A->Option B):K9 (some (Sum.inl x)) f=f x:=rfl
theorem bSr{A B:Type}(y:B)(f:A->Option B):K9 (some (Sum.inr y)) f=some y:=rfl
set_option maxRecDepth 100000
def itB(n:Int):X0:=⟨(Lib.itoa n).toArray⟩
theorem C4d(n:Int)(h0:0<=n)(h1:n<=4294967295):A3s n=some (itB n,()):=by
  have e:(decide (-9223372036854775808<=n)&&decide (n<=9223372036854775807))=true:=by
    rw [A0 (by omega),A0 (by omega)];rfl
  rw [show A3s n=C4j n from rfl];simp only [C4j,e,B2];rfl
theorem C3f{r:A5D}(h:C0S r=true):(1<=r.1/\r.1<=6)/\r.2.1.size<=8/\0<=r.2.2/\r.2.2<=4294967295:=by
  simp only [C0S,idB,B5,I8] at h;refine ⟨h.1.1,by omega,h.2.1,?_⟩;have:=h.2.2;unfold C9G at this;split at this
  · omega
  · split at this
    · omega
    · split at this<;>omega
set_option maxRecDepth 100000
def czN(a:Int):Nat:=if a<1 then 1 else if a>1000 then 1000 else a.toNat
theorem C1a(a:Int):1<=czN a/\czN a<=1000:=by
  unfold czN;split
  · omega
  · split<;>omega
theorem E03(a:Int):(bif decide ((bif decide (1000<a) then 1000 else a)>1) then (bif decide (1000<a) then 1000 else a) else 1)=(czN a:Int):=by
  unfold czN;by_cases h2:1000<a
  · rw [A0 h2,B2,A5 (by omega),A9 (by omega)];rfl
  · rw [A8 h2,A7]
    by_cases h:a>1
    · rw [A0 h,B2,A5 (by omega),A5 (by omega)];omega
    · rw [A8 h,A7]
      by_cases h3:a<1
      · rw [A9 h3];rfl
      · rw [A5 h3,A5 (by omega)];omega
theorem D3g(a:Int):czN ((czN a:Nat):Int)=czN a:=by
  have:=C1a a;generalize czN a=n at *
  unfold czN;rw [A5 (by omega),A5 (by omega)];omega
def ceN(n L:Nat):Nat:=(L+n-1) / n
theorem B8F{n L j:Nat}(hn:0<n):j<ceN n L↔j*n<L:=by
  unfold ceN;rw [Nat.lt_iff_add_one_le,A8w hn,I2];omega
theorem C9M{n L:Nat}(hn:0<n):L<=ceN n L*n:=by
  have h:¬ ceN n L<ceN n L:=A50 _;rw [B8F hn] at h;omega
theorem C5q{n L:Nat}(hn:0<n):ceN n L<=L:=by
  have h:¬ L<ceN n L:=by
    rw [B8F hn];have:=A7l L hn;omega
  omega
def frx(id fl:Int)(n:Nat)(xs:List Int)(j:Nat):E5:=(if j=0 then 1 else 9,if j=0 then fl else 0,id,A0t n xs j)
def frs(id fl:Int)(n:Nat)(xs:List Int):Nat->List E5
  | 0=> []
  | j+1=>frs id fl n xs j ++ [frx id fl n xs j]
theorem C1b(id fl:Int)(n:Nat)(xs:List Int):∀ j,(frs id fl n xs j).length=j
  | 0=>rfl
  | j+1=>by simp only [frs,A3,C1b id fl n xs j,G3]
def D7E(f:E5):E5:=(f.1,bOr .i64 f.2.1 4,f.2.2)
def B0S(id fl:Int)(n:Nat)(xs:List Int):List E5:=frs id fl n xs (max 1 (ceN n xs.length)-1) ++ [D7E (frx id fl n xs (max 1 (ceN n xs.length)-1))]
theorem C9N{A:List E5}{x:E5}:rd W7 (A ++ [x]) (A.length:Int)=x:=by
  simp [rd]
theorem D1M{A:List E5}{x y:E5}:(A ++ [x]).set A.length y=A ++ [y]:=by
  simp [List.set_append_right]
theorem A7h(xs:List Int)(h:xs.length<=1000000000):G2 xs=some (xs,()):=by
  simp only [G2,A1f];rw [gA (by simp;omega)];by_cases h0:0<xs.length
  · rw [A0 h0,B2];rfl
  · rw [A8 h0,A7]
    have:xs = []:=V5.1 (by omega);subst this;simp [eqO]
theorem A66(n:Nat)(xs:List Int)(j:Nat):(A0t n xs j).length=min (j*n+n) xs.length-j*n:=by
  simp [A0t]
theorem C5r{X Y:Type}(G:X->Y->Option Y):∀ (xs:List X) (x:X) (y:Y),B76 G (xs ++ [x]) y=B3 (B76 G xs y) (G x)
  | [],x,y=>by
    simp only [G0,B76,bO];cases G x y<;>rfl
  | z::xs,x,y=>by
    simp only [D4,B76];cases G z y with
    | none=>rfl
    | some y'=>exact C5r G xs x y'
theorem D1N(id fl:Int)(n:Nat)(xs:List Int)(hn:0<n)(hx:xs.length<=100000000):∀ j,j<=ceN n xs.length->
    B76 (B5n G2 id) ((List.range j).map (A0t n xs)) ([(1,(fl,(id,[])))],())=some (if j=0 then [(1,(fl,(id,[])))] else frs id fl n xs j,()):=by
  have hC:=C5q (n:=n) (L:=xs.length) hn;intro j
  induction j with
  | zero=>intro _;rfl
  | succ j ih=>
    intro hj;have hlt:=(B8F (n:=n) (L:=xs.length) (j:=j) hn).1 (by omega);have hpl:=A66 n xs j;rw [List.range_succ,A4g,H7,B71,C5r,ih (by omega),bO,A5 (Nat.succ_ne_zero j)];have hcl:=A7h (A0t n xs j) (by omega);cases j with
    | zero=>
      simp only [J4,B5n,G3];rw [show i64.wrap (((1:Nat):Int)-1)=0 from rfl];have r0:rd W7 ([(1,(fl,(id,[])))]:List E5) 0=(1,(fl,(id,[]))):=rfl;rw [A0 (by omega),A0 (by omega),r0];simp only [B2,J2];rw [A8 (by omega),A7,hcl];rfl
    | succ j=>
      have hpl':=A66 n xs j;have hlt':=(B8F (n:=n) (L:=xs.length) (j:=j) hn).1 (by omega);rw [A5 (Nat.succ_ne_zero j)];have hfl:=C1b id fl n xs j;have e1:frs id fl n xs (j+1)=frs id fl n xs j ++ [frx id fl n xs j]:=rfl;have hl2:=C1b id fl n xs (j+1);have w1:i64.wrap (((frs id fl n xs (j+1)).length:Int)-1)=((frs id fl n xs j).length:Int):=by rw [hl2,hfl,w64 (by omega) (by omega)];omega
      have hl3:∀ y:E5,(frs id fl n xs (j+1) ++ [y]).length=j+2:=fun y=>by rw [A3,hl2];rfl
      have w2:∀ y:E5,i64.wrap (((frs id fl n xs (j+1) ++ [y]).length:Int)-1)=((frs id fl n xs (j+1)).length:Int):=fun y=>by rw [hl3,hl2,w64 (by omega) (by omega)];omega
      have hq:((rd W7 (frs id fl n xs (j+1)) ((frs id fl n xs j).length:Int)).2.2.2.length:Int)>0:=by
        rw [e1,C9N];simp only [frx];rw [hpl'];have:=I2 j n;omega
      simp only [B5n,w1,w2];rw [A0 (by omega),A0 (by rw [hfl,hl2];omega)];simp only [B2];rw [A0 hq,B2,E4n (by rw [hl2];simp;omega),A0 (by omega),A0 (by rw [hl2,hl3];omega),hcl];simp only [B2,bO,E2,C9N,D1M];rfl
theorem C8K(id:Int)(a1:Bool)(xs:List Int)(a3:Int)(hid:1<=id/\id<=2147483647)(hx:xs.length<=100000000) :
    B7v id a1 xs a3=some (B0S id (if a1 then 1 else 0) (czN a3) xs,()):=by
  have hn:=C1a a3;have hn0:0<czN a3:=by omega
  have hC:=C5q (n:=czN a3) (L:=xs.length) hn0;have e1:(bif a1 then bif decide (0<(([(1,(0,(id,[])))]:List E5).length:Int)) then B3 (some (([(1,(0,(id,[])))]).set 0 ((rd W7 ([(1,(0,(id,[])))]) 0).1,(1,(rd W7 ([(1,(0,(id,[])))]) 0).2.2)))) fun (c9002:List E5)=>some (c9002,()) else none else some ([(1,(0,(id,[])))],()))=some (([(1,((if a1 then 1 else 0),(id,[])))]:List E5),()):=by
    cases a1<;>rfl
  simp only [bO] at e1;simp only [B7v,C5g,O9,A0 hid,bO,E0,A7,E03];rw [e1];simp only [bO];have f1:=D1N id (if a1 then 1 else 0) (czN a3) xs hn0 hx (ceN (czN a3) xs.length) (C1 _);generalize (if a1 then (1:Int) else 0)=fl at *
  unfold B0S;generalize czN a3=n at *
  have hpc:pieces n xs=(List.range (ceN n xs.length)).map (A0t n xs):=rfl;rw [A0 (by omega),A0 (by omega),A0 (by omega)];simp only [B2,E2];rw [hpc,f1];simp only [bO];have e2:(if ceN n xs.length=0 then ([(1,(fl,(id,[])))]:List E5) else frs id fl n xs (ceN n xs.length))=frs id fl n xs (max 1 (ceN n xs.length)-1) ++ [frx id fl n xs (max 1 (ceN n xs.length)-1)]:=by
    by_cases h:ceN n xs.length=0
    · rw [A9 h,h]
      have hx0:xs = []:=by
        have:=C9M (n:=n) (L:=xs.length) hn0;rw [h] at this;exact V5.1 (by omega)
      subst hx0;simp [frs,frx,A0t]
    · rw [A5 h,show max 1 (ceN n xs.length)=(max 1 (ceN n xs.length)-1)+1 by omega]
      have:ceN n xs.length=(max 1 (ceN n xs.length)-1)+1:=by omega
      conv=>lhs;rw [this]
      rfl
  have hl:=C1b id fl n xs (max 1 (ceN n xs.length)-1);rw [e2];generalize frs id fl n xs (max 1 (ceN n xs.length)-1)=A at *
  generalize frx id fl n xs (max 1 (ceN n xs.length)-1)=x at *
  have hl1:(A ++ [x]).length=A.length+1:=by simp
  have w1:i64.wrap (((A ++ [x]).length:Int)-1)=(A.length:Int):=by rw [hl1,w64 (by omega) (by omega)];omega
  simp only [w1,C9N,D1M,E2];rw [A0 (by omega),A0 (by omega)];rfl
theorem fok(k fl id:Int)(q:List Int)(h1:0<=k/\k<=255)(h2:0<=fl/\fl<=255)(h3:0<=id/\id<=2147483647)(h4:(q.length:Int)<=1000):U8 (k,fl,id,q)=true:=by
  simp only [U8,A0 h1,A0 h2,A0 h3,A0 h4];rfl
theorem E04(id:Int)(a1:Bool)(n:Nat)(xs:List Int)(hid:1<=id/\id<=2147483647)(hn:n<=1000)(j:Nat) :
    U8 (frx id (if a1 then 1 else 0) n xs j)=true/\U8 (D7E (frx id (if a1 then 1 else 0) n xs j))=true:=by
  have hpl:=A66 n xs j;have h1:((A0t n xs j).length:Int)<=1000:=by omega
  have h2:0<=id/\id<=2147483647:=by omega
  have b0:bOr .i64 0 4=4:=rfl;have b1:bOr .i64 1 4=5:=rfl;unfold D7E frx;rcases C13 j with h | h
  · subst h
    cases a1
    · exact ⟨fok 1 0 id _ (by omega) (by omega) h2 h1,fok 1 (bOr .i64 0 4) id _ (by omega) (by rw [b0];omega) h2 h1⟩
    · exact ⟨fok 1 1 id _ (by omega) (by omega) h2 h1,fok 1 (bOr .i64 1 4) id _ (by omega) (by rw [b1];omega) h2 h1⟩
  · simp only [A5 (show ¬ j=0 by omega)]
    exact ⟨fok 9 0 id _ (by omega) (by omega) h2 h1,fok 9 (bOr .i64 0 4) id _ (by omega) (by rw [b0];omega) h2 h1⟩
theorem E05(id:Int)(a1:Bool)(n:Nat)(xs:List Int)(hid:1<=id/\id<=2147483647)(hn:n<=1000):∀ j,∀ f∈frs id (if a1 then 1 else 0) n xs j,U8 f=true
  | 0,f,hf=>by simp [frs] at hf
  | j+1,f,hf=>by
    simp only [frs,C6,B0] at hf;rcases hf with h | h
    · exact E05 id a1 n xs hid hn j f h
    · subst h;exact (E04 id a1 n xs hid hn j).1
theorem C5s(id:Int)(a1:Bool)(n:Nat)(xs:List Int)(hid:1<=id/\id<=2147483647)(hn:n<=1000):∀ f∈B0S id (if a1 then 1 else 0) n xs,U8 f=true:=by
  intro f hf;simp only [B0S,C6,B0] at hf;rcases hf with h | h
  · exact E05 id a1 n xs hid hn _ f h
  · subst h;exact (E04 id a1 n xs hid hn _).2
theorem C8L(id fl:Int)(n:Nat)(xs:List Int)(hn:0<n):(B0S id fl n xs).length<=xs.length+1:=by
  have:=C5q (n:=n) (L:=xs.length) hn;simp only [B0S,A3,C1b,G3];omega
def C75(fs:List E5):Nat->List Int
  | 0=> []
  | k+1=>C75 fs k++M7 (fs.getD k (0,0,0,[]))
theorem A9Q(f:E5)(h:U8 f=true):(M7 f).length<=1009:=by
  simp only [U8,B5,I8] at h;simp only [M7,A3,A65,E4,J2];omega
theorem C0T{f:E5}(h:Byt f.2.2.2):Byt (M7 f):=by
  unfold M7;refine A3F (A3F (A3F (D5W _ _) fun x hx=>?_) (D5W _ _)) h;simp only [C3,P3,A4f] at hx;rcases hx with rfl | rfl<;>exact wrap_u8 _
theorem C2l{xs:List Int}(h:Byt xs)(n j:Nat):Byt (A0t n xs j):=B4i (C1S h _) _
theorem D5k{id fl:Int}{n:Nat}{xs:List Int}(h:Byt xs):∀ j,∀ f∈frs id fl n xs j,Byt f.2.2.2
  | 0,f,hf=>by cases hf
  | j+1,f,hf=>by
    rcases C6.1 hf with hf | hf
    · exact D5k h j f hf
    · rcases B0.1 hf with rfl;exact C2l h n j
theorem C8M{id fl:Int}{n:Nat}{xs:List Int}(h:Byt xs):∀ f∈B0S id fl n xs,Byt f.2.2.2:=fun f hf=>by
  rcases C6.1 hf with hf | hf
  · exact D5k h _ f hf
  · rcases B0.1 hf with rfl;exact C2l h n _
theorem C5t(fs:List E5)(h:∀ f∈fs,U8 f=true):∀ k,k<=fs.length->(C75 fs k).length<=1009*k
  | 0,_=>by simp [C75]
  | k+1,hk=>by
    have h1:=C5t fs h k (by omega);have h2:fs.getD k (0,0,0,[])=fs[k]:=by rw [D5,C5 (by omega)];rfl
    have h3:=A9Q fs[k] (h _ (H1 (by omega)));simp only [C75,A3,h2];omega
theorem D1O{f:E5}(h:U8 f=true):f.2.2.2.length<=1000:=by
  simp only [U8,B5,I8] at h;omega
theorem B8G(fs:List E5)(h:∀ f∈fs,U8 f=true)(hl:fs.length<=1000000000):A6n [] fs=some (C75 fs fs.length,()):=by
  simp only [A6n,B3n];refine A0l (A76 U5 fs) (fun k=>((k:Int),C75 fs k,())) fs.length _ (fun k hk=>?_) ?_
  · have h1:(k:Int)<(fs.length:Int):=by omega
    have h2:(0:Int)<=(k:Int):=by omega
    have h3:rd W7 fs (k:Int)=fs[k]:=B0p (k:=W7) hk;have h4:fs.getD k (0,0,0,[])=fs[k]:=by rw [D5,C5 (by omega)];rfl
    have h5:=C5t fs h k (by omega);have h6:=D1O (h _ (H1 hk));simp only [A76,A0 h1,A0 h2,B2,h3];rw [A6r _ _ (by omega),bO,w64 (by omega) (by omega)];simp only [C75,h4];rfl
  · have h1:¬ ((fs.length:Nat):Int)<(fs.length:Int):=by omega
    simp only [A76,A8 h1,A7]
set_option maxRecDepth 100000
def B2E(id:Int)(n:Nat)(xs:List Int):Nat->List Int
  | 0=> []
  | j+1=>B2E id n xs j++M7 (0,(if xs.length<=j*n+n then 1 else 0),id,A0t n xs j)
theorem C9O(id:Int)(n:Nat)(xs:List Int)(hid:1<=id/\id<=2147483647)(hn:n<=1000)(j:Nat):U8 (0,(if xs.length<=j*n+n then 1 else 0),id,A0t n xs j)=true:=by
  have hpl:=A66 n xs j;refine fok _ _ _ _ (by omega) ?_ (by omega) (by omega);split<;>omega
theorem D1P(id:Int)(n:Nat)(xs:List Int)(hid:1<=id/\id<=2147483647)(hn:n<=1000):∀ j,(B2E id n xs j).length<=1009*j
  | 0=>by simp [B2E]
  | j+1=>by
    have h1:=D1P id n xs hid hn j;have h2:=A9Q _ (C9O id n xs hid hn j);simp only [B2E,A3];omega
theorem E3K(id:Int)(a4:Int)(xs o:List Int)(hid:1<=id/\id<=2147483647)(hx:xs.length<=100000000)(ho:o.length<=1000000000000) :
    H8 (A2d U5 a4 id) (xs,o,())=some (o++B2E id (czN a4) xs (ceN (czN a4) xs.length),()):=by
  have hn:=C1a a4;have hcz:=E03 a4;have hn0:0<czN a4:=by omega
  have hC:=C5q (n:=czN a4) (L:=xs.length) hn0;have hstep:∀ l,A2d U5 a4 id l=A2d U5 ((czN a4:Nat):Int) id l:=by
    intro l;have h2:=E03 ((czN a4:Nat):Int);rw [D3g] at h2;simp only [A2d,hcz,h2]
  rw [funext hstep];generalize hnn:czN a4=n at *
  have hcz2:=E03 ((n:Nat):Int);rw [<- hnn,D3g,hnn] at hcz2;refine (A0l (A2d U5 (n:Int) id) (fun j=>(xs.drop (j*n),o++B2E id n xs j,())) (ceN n xs.length) _ (fun j hj=>?_) ?_ |> fun h=>by
    rw [show (xs,o,())=(fun j:Nat=>(xs.drop (j*n),o++B2E id n xs j,())) 0 by simp [B2E]];exact h)
  · have hlt:=(B8F (n:=n) (L:=xs.length) (j:=j) hn0).1 hj
    have hpl:=A66 n xs j;have hok:=C9O id n xs hid hn.2 j;have hbl:=D1P id n xs hid hn.2 j;have hfl:=A9Q _ hok;have hol:(o++B2E id n xs j).length<=1000000000000+1009*j:=by rw [A3];omega
    have e1:(B2E id n xs (j+1))=B2E id n xs j++M7 (0,(if xs.length<=j*n+n then 1 else 0),id,A0t n xs j):=rfl;have hdl:(xs.drop (j*n)).length=xs.length-j*n:=C9;have hm:(bif decide (((xs.drop (j*n)).length:Int)<(n:Int)) then ((xs.drop (j*n)).length:Int) else (n:Int))=((min (xs.length-j*n) n:Nat):Int):=by
      by_cases h:((xs.drop (j*n)).length:Int)<(n:Int)
      · rw [A0 h,B2,hdl];omega
      · rw [A8 h,A7];omega
    have hp:(xs.drop (j*n)).take (min (xs.length-j*n) n)=A0t n xs j:=by
      unfold A0t;rw [A0T];by_cases h:xs.length-j*n<=n
      · rw [W4 h,G1 (by omega),G1 (by omega)]
      · rw [Nat.min_eq_right (by omega),show j*n+n-j*n=n by omega]
    have hd:((xs.drop (j*n)).take (xs.drop (j*n)).length).drop (min (xs.length-j*n) n)=xs.drop ((j+1)*n):=by
      rw [G1 (C1 _),L5];by_cases h:xs.length-j*n<=n
      · rw [I2,P7 (by omega),P7 (by omega)]
      · rw [Nat.min_eq_right (by omega),I2]
    have hd2:(xs.drop ((j+1)*n)).length=xs.length-(j*n+n):=by rw [C9,I2]
    have hpf:∀ fl:Int,fl=(if xs.length<=j*n+n then 1 else 0)->U5 (o++B2E id n xs j) (0,(fl,(id,A0t n xs j)))=some (o++B2E id n xs (j+1),()):=by
      intro fl hfl2;subst hfl2;rw [A6r _ _ (by simp only [];omega),e1,B1]
    simp only [A2d,hcz2,hm];rw [A0 (p:=((xs.drop (j*n)).length:Int)>0) (by omega),A0 (p:=(0:Int)<=((min (xs.length-j*n) n:Nat):Int)) (by omega),A0 (p:=((min (xs.length-j*n) n:Nat):Int)<=((xs.drop (j*n)).length:Int)) (by omega)];simp only [B2,E2,T4,hp,hd];by_cases hL:xs.length<=j*n+n
    · rw [A0 (by omega),B2,hpf 1 (by rw [A9 hL])]
      rfl
    · rw [A8 (by omega),A7,hpf 0 (by rw [A5 hL])]
      rfl
  · have h:=C9M (n:=n) (L:=xs.length) hn0
    have hdl:(xs.drop (ceN n xs.length*n)).length=xs.length-ceN n xs.length*n:=C9;have h1:¬ ((xs.drop (ceN n xs.length*n)).length:Int)>0:=by omega
    simp only [A2d,A8 h1,A7]
set_option maxRecDepth 100000
set_option maxRecDepth 100000
set_option maxRecDepth 100000
theorem E06{R:Type}{n:Nat}{X:Option R}(h:n<=1000000000000):(bif decide (n<=9223372036854775807) then bif decide (n*72<=140737488355328) then X else none else none)=X:=by
  rw [A0 (by omega),A0 (by omega)];rfl
def E43(c:A1U):Prop:=c.2.1.length<=2000000/\c.2.2.1.2.2.length<=2000000/\c.2.2.2.1.2.length<=2000000/\c.2.2.2.2.1.2.length<=2000000/\c.2.2.2.2.2.1.length<=2000000/\∀ x∈c.2.2.2.2.2.1,x.2.2.2.length<=2000000
theorem B9e(g:T7)(h:g.2.2.length<=2000000):A5K g=some (g,()):=by
  simp only [A5K,B22,A7h g.2.2 (by omega),B3]
theorem B8H(c:A1U)(h:E43 c):A80 c=some (c,()):=by
  obtain ⟨h1,h2,h3,h4,h5,h6⟩:=h;simp only [A80,B5s,A7h c.2.1 (by omega),B9e _ h2,A8E c.2.2.2.1 (by omega),A8E c.2.2.2.2.1 (by omega),bO];refine A0l (A7w G2 c) (fun k=>((k:Int),c.1,c.2.2.1.1,c.2.2.1.2.1,c.2.2.2.1.1,c.2.2.2.2.1.1,c.2.2.2.2.2.2.1,c.2.2.2.2.2.2.2,c.2.1,c.2.2.1.2.2,c.2.2.2.1.2,c.2.2.2.2.1.2,c.2.2.2.2.2.1.take k,())) c.2.2.2.2.2.1.length (c,()) (fun k hk=>?_) ?_
  · have a1:(k:Int)<(c.2.2.2.2.2.1.length:Int):=by omega
    have a2:(0:Int)<=(k:Int):=by omega
    have a3:rd O8 c.2.2.2.2.2.1 (k:Int)=c.2.2.2.2.2.1[k]:=B0p (k:=O8) hk;have a4:=h6 _ (H1 hk);simp only [A7w,A0 a1,A0 a2,B2,a3,A7h _ (show (c.2.2.2.2.2.1[k]).2.2.2.length<=1000000000 by omega),bO];rw [E06 (by simp;omega),w64 (by omega) (by omega),L9 hk];rfl
  · have a1:¬ ((c.2.2.2.2.2.1.length:Nat):Int)<(c.2.2.2.2.2.1.length:Int):=by omega
    simp only [A7w,A8 a1,A7];rw [G1 (C1 _)]
def E07(c:A1U)(j:Nat):Int:=(rd O8 c.2.2.2.2.2.1 (j:Int)).1
theorem str_eq(c:A1U)(id:Int)(h:c.2.2.2.2.2.1.length<=2000000):∃ i,i<=c.2.2.2.2.2.1.length/\(∀ j,j<i->E07 c j<id)/\(i<c.2.2.2.2.2.1.length->¬ E07 c i<id)/\
    A2M c id=some ((i:Int),(decide (i<c.2.2.2.2.2.1.length)&&decide (E07 c i=id)),c,()):=by
  obtain ⟨i,h1,h2,h3,h4⟩:=A9O (A81 c id) (fun j=>((j:Int),())) c.2.2.2.2.2.1.length (fun j=>((j:Int),())) (fun j=>decide (E07 c j<id)) (fun j hj=>by
    have a1:(j:Int)<(c.2.2.2.2.2.1.length:Int):=by omega
    have a2:(0:Int)<=(j:Int):=by omega
    simp only [A81,A0 a1,A0 a2,B2];rw [w64 (by omega) (by omega)];unfold E07;cases decide ((rd O8 c.2.2.2.2.2.1 (j:Int)).1<id)<;>rfl) (by
    have a1:¬ ((c.2.2.2.2.2.1.length:Nat):Int)<(c.2.2.2.2.2.1.length:Int):=by omega
    simp only [A81,A8 a1,A7])
  refine ⟨i,h1,fun j hj=>by simpa using h2 j hj,fun hi=>by simpa using h3 hi,?_⟩;simp only [A2M,B1L];rw [show ((0:Int),())=(fun j:Nat=>((j:Int),())) 0 from rfl,h4];simp only [bO];by_cases hi:i<c.2.2.2.2.2.1.length
  · rw [A0 (p:=(i:Int)<(c.2.2.2.2.2.1.length:Int)) (by omega),A0 (p:=(0:Int)<=(i:Int)) (by omega),A0 hi]
    rfl
  · rw [A8 (p:=(i:Int)<(c.2.2.2.2.2.1.length:Int)) (by omega),A8 hi]
    rfl
set_option maxRecDepth 100000
def S1:Nat->Nat->List Bool
  | 0,_=> []
  | n+1,v=>v.testBit n::S1 n v
theorem A67:∀ n v,(S1 n v).length=n
  | 0,_=>rfl
  | n+1,v=>by simp only [S1,E4,A67 n v]
theorem A7i(m:Nat):∀ (n v:Nat),n<=m->S1 n (v % 2 ^ m)=S1 n v
  | 0,_,_=>rfl
  | n+1,v,h=>by
    simp only [S1];rw [A7i m n v (by omega),Nat.testBit_mod_two_pow,A0 (show n<m by omega),L2]
theorem B4l:∀ a b v,S1 (a+b) v=S1 a (v / 2 ^ b)++S1 b v
  | 0,b,v=>by simp [S1]
  | a+1,b,v=>by
    rw [show a+1+b=(a+b)+1 by omega];simp only [S1,D4];rw [B4l a b v,B5I]
theorem C2m:∀ n v w,v<2 ^ n->w<2 ^ n->S1 n v=S1 n w->v=w
  | 0,v,w,hv,hw,_=>by simp at hv hw;omega
  | n+1,v,w,hv,hw,h=>by
    simp only [S1,List.cons.injEq] at h;obtain ⟨h1,h2⟩:=h;rw [<- A7i n n v (C1 _),<- A7i n n w (C1 _)] at h2;have h3:=C2m n _ _ (A2r _ (W5 n)) (A2r _ (W5 n)) h2;rw [A3O,A3O] at h1;rw [A4U] at hv hw;have h0:=W5 n;generalize 2 ^ n=p at *
    have h4:=A38 v p;have h5:=A38 w p;have h6:v / p<2:=A5h hv;have h7:w / p<2:=A5h hw;have h8:v / p=w / p:=by
      clear h4 h5
      generalize v / p=a at *
      generalize w / p=b at *
      have q1:a=0\/a=1:=by omega
      have q2:b=0\/b=1:=by omega
      rcases q1 with rfl | rfl<;>rcases q2 with rfl | rfl<;>simp_all
    rw [h8] at h4;omega
theorem B6N:∀ n m,n<=m->S1 n (2 ^ m-1)=List.replicate n true
  | 0,_,_=>rfl
  | n+1,m,h=>by
    simp only [S1,A3p];rw [B6N n m (by omega),Nat.testBit_two_pow_sub_one,A0 (show n<m by omega)]
def O5(l:List Int):List Bool:=l.flatMap fun x=>S1 8 x.toNat
theorem C1c(a b:List Int):O5 (a++b)=O5 a++O5 b:=by simp [O5]
theorem A6t(x:Int)(b:List Int):O5 (x::b)=S1 8 x.toNat++O5 b:=by simp [O5]
theorem C9P(x:Int):O5 [x]=S1 8 x.toNat:=by simp [O5]
theorem A3G:∀ l:List Int,(O5 l).length=8*l.length
  | []=>rfl
  | x::l=>by
    have:=A3G l;rw [A6t,A3,A67,E4];omega
theorem C1d:∀ {a b:List Int},Byt a->Byt b->O5 a=O5 b->a=b
  | [],[],_,_,_=>rfl
  | [],y::b,_,_,h=>by have:=J7 List.length h;rw [A3G,A3G] at this;simp at this
  | x::a,[],_,_,h=>by have:=J7 List.length h;rw [A3G,A3G] at this;simp at this
  | x::a,y::b,ha,hb,h=>by
    rw [A6t,A6t] at h;have h1:=List.append_inj h (by rw [A67,A67]);have hx:=ha x A6;have hy:=hb y A6;have h2:=C2m 8 _ _ (by omega) (by omega) h1.1;have h3:=C1d (fun z hz=>ha z (B6 _ hz)) (fun z hz=>hb z (B6 _ hz)) h1.2;rw [h3,show x=y by omega]
def coN(x:Nat):Nat:=(codesT.getD x 0).toNat
def leN(x:Nat):Nat:=(lensT.getD x 0).toNat
def cod(x:Nat):List Bool:=S1 (leN x) (coN x)
theorem E08:(List.range 257).all (fun x=>decide (0<=codesT.getD x 0)&&decide ((codesT.getD x 0).toNat<2 ^ (lensT.getD x 0).toNat))=true:=by kernel_rfl
theorem C4e{x:Nat}(h:x<257):0<=codesT.getD x 0/\coN x<2 ^ leN x:=by
  have:=C4.1 E08 x (A1F.2 h);simpa [coN,leN] using this
theorem B4m{x:Nat}(h:x<257):5<=lensT.getD x 0/\lensT.getD x 0<=30:=by
  have h:=C4.1 C8H (lensT.getD x 0) (by
    rw [D5,C5 (by rw [A0L];exact h)];exact H1 _)
  simpa using h
def A0q(l:List Nat):List Bool:=l.flatMap cod
theorem C3g(a b:List Nat):A0q (a++b)=A0q a++A0q b:=by simp [A0q]
theorem B4n{x y:Nat}(hx:x<9223372036854775808)(hy:y<9223372036854775808):A0V .i64 (x:Int) (y:Int)=((x &&& y:Nat):Int):=by
  have h:x &&& y<9223372036854775808:=B2b Nat.and_le_left hx;unfold A0V;rw [BitVec.toNat_and,bits_nat (by simp only [IntKind.bits];omega),bits_nat (by simp only [IntKind.bits];omega)];exact D3W h
theorem C1e{x y:Nat}(hx:x<9223372036854775808)(hy:y<9223372036854775808):bOr .i64 (x:Int) (y:Int)=((x ||| y:Nat):Int):=D5U hx hy
theorem C9Q{m:Nat}(h:m<64):(min (u64.wrap (m:Int)).toNat i64.bits)=m:=by
  have:u64.wrap (m:Int)=m:=by
    simp only [IntKind.wrap,IntKind.bits,IntKind.signed,A8q];simp;omega
  rw [this];simp only [IntKind.bits];omega
theorem C1f(m:Nat):((2:Int) ^ m)=((2 ^ m:Nat):Int):=by simp
theorem C1g{m n:Nat}(h:m<=n):2 ^ m<=2 ^ n:=A3N (by omega) h
theorem p62{m:Nat}(h:m<=62):2 ^ m<=4611686018427387904:=K8 (C1g h) (by decide)
theorem D5l{v m:Nat}(hm:m<62)(h:v*2 ^ m<9223372036854775808):i64.wrap ((v:Int)*2 ^ (min (u64.wrap (m:Int)).toNat i64.bits))=((v*2 ^ m:Nat):Int):=by
  rw [C9Q (by omega),C1f,<- Int.natCast_mul,w64 (by omega) (by omega)]
theorem C9R{m:Nat}(hm:m<62):i64.wrap (i64.wrap (1*2 ^ (min (u64.wrap (m:Int)).toNat i64.bits))-1)=((2 ^ m-1:Nat):Int):=by
  have h1:=p62 (show m<=62 by omega);have h2:=W5 m;have:=D5l (v:=1) hm (by omega);rw [show ((1:Nat):Int)=1 from rfl] at this;rw [this,w64 (by omega) (by omega)];omega
theorem C1h{x:Nat}(h:x<256):u8.wrap (x:Int)=x:=by
  simp only [IntKind.wrap,IntKind.bits,IntKind.signed,A8q];simp;omega
theorem D5m:∀ (k v n:Nat),v<2 ^ n->n<8*(k+1)->n<=60->∃ v' n':Nat,(dr k (v:Int) (n:Int)).1=v'/\(dr k (v:Int) (n:Int)).2.1=n'/\v'<2 ^ n'/\Byt (dr k (v:Int) (n:Int)).2.2/\O5 (dr k (v:Int) (n:Int)).2.2++S1 n' v' = S1 n v
  | 0,v,n,hv,h1,h2=>⟨v,n,rfl,rfl,hv,(fun x hx=>by cases hx),rfl⟩
  | k+1,v,n,hv,h1,h2=>by
    by_cases h:8<=n
    · have e:((n:Int)-8)=((n-8:Nat):Int):=by omega
      have hp:=p62 (show n<=62 by omega);have hq:=C1g (show n-8<=n by omega);have h0:=W5 (n-8);have e1:A0V .i64 (v:Int) (i64.wrap (i64.wrap (1*2 ^ (min (u64.wrap ((n:Int)-8)).toNat i64.bits))-1))=((v % 2 ^ (n-8):Nat):Int):=by
        rw [e,C9R (by omega),B4n (by omega) (by omega),A06]
      have e2:u8.wrap ((v:Int).fdiv (2 ^ (min (u64.wrap ((n:Int)-8)).toNat i64.bits)))=((v / 2 ^ (n-8):Nat):Int):=by
        rw [e,C9Q (by omega),A1G _ (by rw [C1f];omega),C1f,<- B5H,C1h];refine A5h ?_;rw [show n=(n-8)+8 by omega,A5f] at hv;exact hv
      have e3:v / 2 ^ (n-8)<256:=by
        refine A5h ?_;rw [show n=(n-8)+8 by omega,A5f] at hv;exact hv
      obtain ⟨v',n',i1,i2,i3,i4,i5⟩:=D5m k (v % 2 ^ (n-8)) (n-8) (A2r _ h0) (by omega) (by omega);have hge:(n:Int)>=8:=by omega
      have hd:dr (k+1) (v:Int) (n:Int)=((dr k ((v % 2 ^ (n-8):Nat):Int) ((n-8:Nat):Int)).1,(dr k ((v % 2 ^ (n-8):Nat):Int) ((n-8:Nat):Int)).2.1,((v / 2 ^ (n-8):Nat):Int)::(dr k ((v % 2 ^ (n-8):Nat):Int) ((n-8:Nat):Int)).2.2):=by
        simp only [dr,A9 hge];rw [e1,e2,e]
      rw [hd];refine ⟨v',n',i1,i2,i3,?_,?_⟩
      · intro x hx
        rcases C3.1 hx with rfl | hx
        · generalize v / 2 ^ (n-8)=y at e3
          omega
        · exact i4 x hx
      · simp only []
        rw [A6t,B1,i5,E2,A7i (n-8) (n-8) v (C1 _),<- B4l 8 (n-8) v]
        congr 1
        omega
    · have hge:¬ (n:Int)>=8:=by omega
      refine ⟨v,n,?_,?_,hv,?_,?_⟩
      · simp only [dr,A5 hge]
      · simp only [dr,A5 hge]
      · simp only [dr,A5 hge]
        intro x hx;cases hx
      · simp only [dr,A5 hge]
        rfl
def C9S(s:X0):Nat->List Nat
  | 0=> []
  | k+1=>C9S s k ++ [(bt s k).toNat]
theorem C9T(s:X0)(k:Nat):leA s k=((leN (bt s k).toNat:Nat):Int):=by
  have:=B4m (C2k s k);simp only [leA,leN];omega
theorem E26(s:X0)(k:Nat):coA s k=((coN (bt s k).toNat:Nat):Int):=by
  have:=C4e (C2k s k);simp only [coA,coN];omega
theorem D1Q(s:X0):∀ k:Nat,∃ v n:Nat,(hst s k).1=v/\(hst s k).2.1=n/\v<2 ^ n/\n<8/\Byt (hst s k).2.2/\O5 (hst s k).2.2++S1 n v=A0q (C9S s k)
  | 0=>⟨0,0,rfl,rfl,by decide,by omega,(fun x hx=>by cases hx),rfl⟩
  | k+1=>by
    obtain ⟨v,n,h1,h2,h3,h4,h5,h6⟩:=D1Q s k;have hl:=C1V s k;have hf:=(C4e (C2k s k)).2;rw [C9T] at hl;have hle:leN (bt s k).toNat<=30:=by omega
    generalize hL:leN (bt s k).toNat=L at *
    generalize hC:coN (bt s k).toNat=C at *
    have hp:v*2 ^ L+C<2 ^ (n+L):=by
      rw [A5f];have:v*2 ^ L+2 ^ L<=2 ^ n*2 ^ L:=by rw [<- I2];exact F2 _ h3
      omega
    have hq:2 ^ (n+L)<=2 ^ 38:=C1g (by omega);have hq':(2:Nat) ^ 38=274877906944:=by decide
    have e1:bOr .i64 (i64.wrap ((hst s k).1*2 ^ (min (u64.wrap (leA s k)).toNat i64.bits))) (coA s k)=((v*2 ^ L+C:Nat):Int):=by
      rw [h1,C9T,E26,hL,hC,D5l (by omega) (by omega),C1e (by omega) (by omega),A05 v,V2 hf]
    obtain ⟨v',n',i1,i2,i3,i4,i5⟩:=D5m 5 (v*2 ^ L+C) (n+L) hp (by omega) (by omega);have e2:(hst s k).2.1+leA s k=((n+L:Nat):Int):=by rw [h2,C9T,hL];omega
    have h7:=D1E s (k+1);simp only [hst,e1,e2] at h7;refine ⟨v',n',?_,?_,i3,?_,?_,?_⟩
    · simp only [hst,e1,e2];exact i1
    · simp only [hst,e1,e2];exact i2
    · omega
    · simp only [hst,e1,e2]
      intro x hx;rcases C6.1 hx with q | q
      · exact h5 x q
      · exact i4 x q
    · simp only [hst,e1,e2]
      rw [C1c,B1,i5,B4l n L];have a1:(v*2 ^ L+C) / 2 ^ L=v:=by
        rw [A05,Nat.mul_add_div (W5 L),Nat.div_eq_of_lt hf,K7]
      have a2:S1 L (v*2 ^ L+C)=S1 L C:=by
        rw [<- A7i L L (v*2 ^ L+C) (C1 _),A05,B7J,A7i L L C (C1 _)]
      rw [a1,a2,<- B1,h6];simp only [C9S,C3g]
      congr 1
      simp only [A0q,B3W,List.flatMap_nil,E7,cod,hL,hC]
theorem C0U(s:X0):Byt (A22 s)/\∃ p,p<8/\O5 (A22 s)=A0q (C9S s s.size)++List.replicate p true:=by
  obtain ⟨v,n,h1,h2,h3,h4,h5,h6⟩:=D1Q s s.size;unfold A22;by_cases h:(hst s s.size).2.1>0
  · rw [A9 h]
    have hn:0<n:=by omega
    have e1:i64.wrap (8-(hst s s.size).2.1)=((8-n:Nat):Int):=by rw [h2,w64 (by omega) (by omega)];omega
    have hp:v*2 ^ (8-n)+(2 ^ (8-n)-1)<2 ^ (n+(8-n)):=by
      rw [A5f];have:v*2 ^ (8-n)+2 ^ (8-n)<=2 ^ n*2 ^ (8-n):=by rw [<- I2];exact F2 _ h3
      have:=W5 (8-n);omega
    rw [show n+(8-n)=8 by omega] at hp;have hq:2 ^ (8-n)<=2 ^ 8:=C1g (by omega);have h0:=W5 (8-n);have hm:v*2 ^ (8-n)<256:=by omega
    rw [e1,h1,C9R (by omega),D5l (by omega) (by omega),C1e (by omega) (by omega),A05 v,<- V2 (show 2 ^ (8-n)-1<2 ^ (8-n) by omega),A05 _ v,C1h hp];refine ⟨fun x hx=>?_,8-n,by omega,?_⟩
    · rcases C6.1 hx with q | q
      · exact h5 x q
      · rcases B0.1 q with rfl
        omega
    · rw [C1c,C9P,E2,show (8:Nat)=n+(8-n) by omega,B4l n (8-n)]
      rw [show n+(8-n)-n=8-n by omega];have a1:(v*2 ^ (8-n)+(2 ^ (8-n)-1)) / 2 ^ (8-n)=v:=by
        rw [A05,Nat.mul_add_div h0,Nat.div_eq_of_lt (by omega),K7]
      have a2:S1 (8-n) (v*2 ^ (8-n)+(2 ^ (8-n)-1))=List.replicate (8-n) true:=by
        rw [<- A7i (8-n) (8-n) _ (C1 _),A05,B7J,A7i (8-n) (8-n) _ (C1 _),B6N _ _ (C1 _)]
      rw [a1,a2,<- B1,h6]
  · rw [A5 h]
    refine ⟨h5,0,by omega,?_⟩;have:n=0:=by omega
    subst this;simpa [S1] using h6
set_option maxRecDepth 100000
def fdC:Nat->Nat->Int->Int->Option Nat
  | 0,_,_,_=>none
  | k+1,i,c,n=>if codesT.getD i 0=c/\lensT.getD i 0=n then some i else fdC k (i+1) c n
theorem C5u:∀ (k i:Nat) (c n:Int) (j:Nat),fdC k i c n=some j->i<=j/\j<i+k/\codesT.getD j 0=c/\lensT.getD j 0=n
  | 0,_,_,_,_,h=>by cases h
  | k+1,i,c,n,j,h=>by
    unfold fdC at h;by_cases hc:codesT.getD i 0=c/\lensT.getD i 0=n
    · rw [A9 hc] at h
      injection h with h
      subst h;exact ⟨C1 _,by omega,hc⟩
    · rw [A5 hc] at h
      have:=C5u k (i+1) c n j h;omega
def A7j(c n:Nat):Option Nat:=fdC 257 0 (c:Int) (n:Int)
theorem A9R{c n j:Nat}(h:A7j c n=some j):j<257/\coN j=c/\leN j=n:=by
  obtain ⟨h1,h2,h3,h4⟩:=C5u _ _ _ _ _ h;refine ⟨by omega,?_,?_⟩
  · simp only [coN,h3];omega
  · simp only [leN,h4];omega
theorem D7F{c n:Nat}(h:A7j c n=some 256):n=30:=by
  have:=(A9R h).2.2;have e:leN 256=30:=by kernel_rfl
  omega
abbrev RdS:=Nat×Nat×List Int
def B18(st:RdS)(x:Bool):Option RdS:=
  if st.2.1+1>30 then none else match A7j (2*st.1+x.toNat) (st.2.1+1) with
  | some j=>if j<256 then some (0,0,st.2.2 ++ [(j:Int)]) else some (2*st.1+x.toNat,st.2.1+1,st.2.2)
  | none=>some (2*st.1+x.toNat,st.2.1+1,st.2.2)
def R2(st:RdS)(x:Bool):Option RdS:=
  match A7j (2*st.1+x.toNat) (st.2.1+1) with
  | some j=>if j=256 then none else if st.2.1+1>30 then none else some (0,0,st.2.2 ++ [(j:Int)])
  | none=>if st.2.1+1>30 then none else some (2*st.1+x.toNat,st.2.1+1,st.2.2)
def A1P(f:RdS->Bool->Option RdS):List Bool->RdS->RdS×Bool
  | [],st=>(st,false)
  | x::xs,st=>match f st x with
    | some st'=>A1P f xs st'
    | none=>(st,true)
theorem C5v(f:RdS->Bool->Option RdS):∀ (xs ys:List Bool) (st:RdS),A1P f (xs++ys) st=bif (A1P f xs st).2 then A1P f xs st else A1P f ys (A1P f xs st).1
  | [],ys,st=>by simp [A1P]
  | x::xs,ys,st=>by
    simp only [D4,A1P];cases f st x with
    | none=>rfl
    | some st'=>exact C5v f xs ys st'
def B2F(l:List Int):List Nat:=l.map Int.toNat
theorem C5w(n v:Nat)(x:Bool):S1 (n+1) (2*v+x.toNat)=S1 n v ++ [x]:=by
  rw [B4l n 1];cases x<;>simp [S1,Nat.testBit_zero]<;>(try (congr 1;omega))<;>omega
def RdI(done:List Bool)(st:RdS):Prop:=st.1<2 ^ st.2.1/\st.2.1<=30/\Byt st.2.2/\A0q (B2F st.2.2)++S1 st.2.1 st.1=done
theorem E09{done:List Bool}{st:RdS}(h:RdI done st)(x:Bool)(h30:st.2.1+1<=30):RdI (done ++ [x]) (2*st.1+x.toNat,st.2.1+1,st.2.2):=by
  obtain ⟨h1,h2,h3,h4⟩:=h;refine ⟨?_,h30,h3,?_⟩
  · simp only [A4U]
    have:x.toNat<=1:=by cases x<;>simp
    omega
  · simp only [C5w]
    rw [<- B1,h4]
theorem E27{done:List Bool}{st:RdS}(h:RdI done st)(x:Bool){j:Nat}(hj:A7j (2*st.1+x.toNat) (st.2.1+1)=some j)(h2:j<256):RdI (done ++ [x]) (0,0,st.2.2 ++ [(j:Int)]):=by
  obtain ⟨h1,h30,h3,h4⟩:=h;obtain ⟨e1,e2,e3⟩:=A9R hj;refine ⟨by simp,by simp,?_,?_⟩
  · intro y hy
    rcases C6.1 hy with q | q
    · exact h3 y q
    · rcases B0.1 q with rfl
      omega
  · simp only [B2F,A4g,C3g,S1,E7]
    rw [show A0q (List.map Int.toNat [(j:Int)])=S1 (st.2.1+1) (2*st.1+x.toNat) by simp [A0q,cod,e2,e3],C5w,<- B1];exact J7 (· ++ [x]) h4
theorem C1i:∀ (xs done:List Bool) (st:RdS),RdI done st->
    ((A1P R2 xs st).2=false/\A1P B18 xs st=A1P R2 xs st/\RdI (done++xs) (A1P R2 xs st).1)\/
    ((A1P R2 xs st).2=true/\((A1P B18 xs st).2=true\/(A1P B18 xs st).1.2.1>=30)/\(A0q (B2F (A1P R2 xs st).1.2.2)).length+30<=(done++xs).length/\Byt (A1P R2 xs st).1.2.2)
  | [],done,st,h=>.inl ⟨rfl,rfl,by simpa [A1P] using h⟩
  | x::xs,done,st,h=>by
    have hd:done++x::xs=(done ++ [x])++xs:=by simp
    have hlen:(A0q (B2F st.2.2)).length+st.2.1=done.length:=by
      have:=J7 List.length h.2.2.2;rw [A3,A67] at this;exact this
    have hlost:∀ (ys:List Bool) (s:RdS),s.2.1>=30->(A1P B18 ys s).2=true\/(A1P B18 ys s).1.2.1>=30:=fun ys s hs=>by
      cases ys with
      | nil=>exact .inr hs
      | cons y ys=>
        left;simp only [A1P];have:B18 s y=none:=by unfold B18;rw [A9 (by omega)]
        rw [this]
    rw [hd];by_cases h30:st.2.1+1>30
    · right
      have e1:B18 st x=none:=by unfold B18;rw [A9 h30]
      have e2:R2 st x=none:=by
        unfold R2;cases A7j (2*st.1+x.toNat) (st.2.1+1) with
        | none=>simp only [];rw [A9 h30]
        | some j=>simp only [A9 h30];split<;>rfl
      simp only [A1P,e1,e2];exact ⟨trivial,.inl trivial,by simp only [A3,G3];omega,h.2.2.1⟩
    · cases hj:A7j (2*st.1+x.toNat) (st.2.1+1) with
      | none=>
        have e1:B18 st x=some (2*st.1+x.toNat,st.2.1+1,st.2.2):=by simp only [B18,A5 h30,hj]
        have e2:R2 st x=some (2*st.1+x.toNat,st.2.1+1,st.2.2):=by simp only [R2,A5 h30,hj]
        simp only [A1P,e1,e2];exact C1i xs _ _ (E09 h x (by omega))
      | some j=>
        by_cases h256:j<256
        · have e1:B18 st x=some (0,0,st.2.2 ++ [(j:Int)]):=by simp only [B18,A5 h30,hj,A9 h256]
          have e2:R2 st x=some (0,0,st.2.2 ++ [(j:Int)]):=by simp only [R2,A5 h30,hj,A5 (show ¬ j=256 by omega)]
          simp only [A1P,e1,e2];exact C1i xs _ _ (E27 h x hj h256)
        · have hj':j=256:=by have:=(A9R hj).1;omega
          subst hj';have e0:=D7F hj;right;have e1:B18 st x=some (2*st.1+x.toNat,st.2.1+1,st.2.2):=by simp only [B18,A5 h30,hj,A5 h256]
          have e2:R2 st x=none:=by simp only [R2,hj,J4]
          simp only [A1P,e1,e2];exact ⟨trivial,hlost xs _ (by simp only;omega),by simp only [A3,G3];omega,h.2.2.1⟩
theorem E0A{l:List Int}(hl:Byt l){k:Nat}(hk:k<l.length):bt (strOf l) (k:Int)=l[k]:=by
  have hb:=hl _ (H1 hk);unfold bt strOf strOfNums;simp [List.getD,hk];omega
theorem C60{l:List Int}(hl:Byt l):∀ k,k<=l.length->C9S (strOf l) k=(B2F l).take k
  | 0,_=>by simp [C9S]
  | k+1,h=>by
    rw [C9S,C60 hl k (by omega),E0A hl (by omega),L9 (show k<(B2F l).length by simp [B2F];omega)];simp [B2F]
theorem D1R{l:List Int}(hl:Byt l):C9S (strOf l) (strOf l).size=B2F l:=by
  rw [B6L,C60 hl _ (C1 _),G1 (by simp [B2F])]
def unH(b:List Int):List Int:=(A1P R2 (O5 b) (0,0,[])).1.2.2
def C76(b:List Int):RdS×Bool:=A1P B18 (O5 b) (0,0,[])
def C9U(b:List Int):Bool:=!(C76 b).2&&decide ((C76 b).1.2.1<=7)&&decide ((C76 b).1.1=2 ^ (C76 b).1.2.1-1)
theorem D5n(b:List Int):Byt (unH b):=by
  rcases C1i (O5 b) [] (0,0,[]) ⟨by simp,by simp,(fun x hx=>by cases hx),by simp [B2F,A0q,S1]⟩ with ⟨_,_,h⟩ | ⟨_,_,_,h⟩
  · exact h.2.2.1
  · exact h
theorem D5o(b:List Int):5*(unH b).length<=8*b.length:=by
  have hs:∀ l:List Int,Byt l->5*l.length<=(A0q (B2F l)).length:=by
    intro l
    induction l with
    | nil=>intro _;simp
    | cons x l ih=>
      intro hb;have h1:=ih fun y hy=>hb y (B6 _ hy)
      have h2:=hb x A6;have h3:=B4m (show x.toNat<257 by omega);simp only [B2F,H7,A0q,B3W,A3,E4,cod,A67,leN] at h1 ⊢;omega
  have hb:=D5n b;have h1:=hs _ hb;have h2:=A3G b;rcases C1i (O5 b) [] (0,0,[]) ⟨by simp,by simp,(fun x hx=>by cases hx),by simp [B2F,A0q,S1]⟩ with ⟨_,_,h⟩ | ⟨_,_,h,_⟩
  · have:=J7 List.length h.2.2.2
    rw [A3] at this;simp only [G0] at this;unfold unH at h1 ⊢;omega
  · simp only [G0] at h
    unfold unH at h1 ⊢;omega
theorem E0B(b:List Int)(hb:Byt b):(A22 (strOf (unH b))=b↔C9U b=true)/\(C9U b=true->(C76 b).1.2.2=unH b):=by
  have hu:=D5n b;obtain ⟨c1,p,c2,c3⟩:=C0U (strOf (unH b));rw [D1R hu] at c3;have hl:=A3G b;rcases C1i (O5 b) [] (0,0,[]) ⟨by simp,by simp,(fun x hx=>by cases hx),by simp [B2F,A0q,S1]⟩ with ⟨h1,h2,h3⟩ | ⟨h1,h2,h3,h4⟩
  · obtain ⟨i1,i2,i3,i4⟩:=h3
    simp only [G0] at i4;have e:C76 b=A1P R2 (O5 b) (0,0,[]):=h2;have e2:(C76 b).2=false:=by rw [e];exact h1
    refine ⟨⟨fun hq=>?_,fun hq=>?_⟩,fun _=>by rw [e];rfl⟩
    · rw [hq,<- i4] at c3
      have c4:S1 _ _=List.replicate p true:=A46 (show A0q (B2F (unH b))++_=A0q (B2F (unH b))++_ from c3);have c5:=J7 List.length c4;rw [A67,U2] at c5;unfold C9U;rw [e2,e,c5];have c6:S1 p (A1P R2 (O5 b) (0,0,[])).1.1=S1 p (2 ^ p-1):=by
        rw [B6N p p (C1 _),<- c4,c5]
      have c7:=C2m p _ _ (by rw [<- c5];exact i1) (by have:=W5 p;omega) c6;simp only [L6,L2,B5,I8];exact ⟨by omega,c7⟩
    · unfold C9U at hq
      rw [e2,e] at hq;simp only [L6,L2,B5,I8] at hq;obtain ⟨q1,q2⟩:=hq;refine C1d c1 hb ?_;rw [c3,<- i4];have hn:(A1P R2 (O5 b) (0,0,[])).1.2.1=p:=by
        have d1:=J7 List.length c3;have d2:=J7 List.length i4;rw [A3G,A3,U2] at d1;rw [A3,A67,hl] at d2;unfold unH at d1;omega
      rw [q2,hn,B6N p p (C1 _)];rfl
  · have hno:C9U b=false:=by
      unfold C9U;rcases h2 with h2 | h2
      · rw [show (C76 b).2=true from h2];rfl
      · rw [show decide ((C76 b).1.2.1<=7)=false from A8 (by have:(C76 b).1.2.1>=30:=h2;omega)];simp
    refine ⟨⟨fun hq=>?_,fun hq=>by rw [hno] at hq;cases hq⟩,fun hq=>by rw [hno] at hq;cases hq⟩;exfalso;have d1:=J7 List.length c3;rw [hq,hl,A3,U2] at d1;simp only [G0] at h3;unfold unH at d1;omega
set_option maxRecDepth 100000
def E2c:List ((Int×Int)×Int):=(List.range 257).map fun k=>((codesT.getD k 0,lensT.getD k 0),(k:Int))
theorem D7G:mkM (codesT.zip lensT) 257=E2c:=by kernel_rfl
theorem C8N(c n:Int):∀ (k i j:Nat),fdM ((List.range' i k).map fun q=>((codesT.getD q 0,lensT.getD q 0),(q:Int))) (c,n) j=(fdC k i c n).map fun (q:Nat)=>(j+(q-i),(q:Int))
  | 0,i,j=>rfl
  | k+1,i,j=>by
    rw [B5E,H7,fdM,fdC];by_cases h:codesT.getD i 0=c/\lensT.getD i 0=n
    · rw [A9 ⟨h.1.symm,h.2.symm⟩,A9 h]
      simp
    · rw [A5 (fun e=>h ⟨e.1.symm,e.2.symm⟩),A5 h,C8N c n k (i+1) (j+1)]
      cases hq:fdC k (i+1) c n with
      | none=>rfl
      | some q=>
        have:=(C5u k (i+1) c n q hq).1;simp only [M4,H2,B4F,and_true];omega
theorem C8O(c n:Nat):fdM (mkM (codesT.zip lensT) 257) ((c:Int),(n:Int)) 0=(A7j c n).map fun (q:Nat)=>(q,(q:Int)):=by
  rw [D7G,E2c,B0e,C8N];unfold A7j;cases fdC 257 0 (c:Int) (n:Int)<;>simp
theorem D7H(c n:Nat):lkO (mkM (codesT.zip lensT) 257) ((c:Int),(n:Int))=(A7j c n).isSome:=by
  unfold lkO;rw [C8O];cases A7j c n<;>rfl
theorem D7I{c n j:Nat}(h:A7j c n=some j):lkV (mkM (codesT.zip lensT) 257) ((c:Int),(n:Int))=(j:Int):=by
  unfold lkV;rw [C8O,h];rfl
theorem E0C{x:Nat}(h:x<9223372036854775808):A0V .i64 (x:Int) 1=(((x.testBit 0).toNat:Nat):Int):=by
  rw [show (1:Int)=((1:Nat):Int) from rfl,B4n h (by omega)]
  congr 1
  rw [Nat.and_one_is_mod,Nat.testBit_zero];rcases Nat.mod_two_eq_zero_or_one x with e | e<;>simp [e]
theorem E0D{x k:Nat}(h:x<256):((x:Int).fdiv (2 ^ k))=((x / 2 ^ k:Nat):Int):=by
  rw [A1G _ (by rw [C1f];exact A4T _),C1f,<- B5H]
theorem E3L{x k:Nat}(h:x<256)(hk:k<8):A0V .i64 (((x:Int).fdiv (2 ^ (min (u64.wrap (k:Int)).toNat i64.bits)))) 1=(((x.testBit k).toNat:Nat):Int):=by
  rw [C9Q (by omega),E0D h,E0C (B2b (Nat.div_le_self _ _) (by omega)),B5I,E1]
theorem E3M{v n:Nat}(hv:v<2 ^ n)(hn:n<=30)(x:Bool):bOr .i64 (i64.wrap ((v:Int)*2)) ((x.toNat:Nat):Int)=((2*v+x.toNat:Nat):Int):=by
  have h1:=p62 (show n<=62 by omega);have h2:2 ^ n<=2 ^ 30:=C1g hn;have h3:(2:Nat) ^ 30=1073741824:=by decide
  have h4:x.toNat<2 ^ 1:=by cases x<;>simp
  rw [show (v:Int)*2=((v*2:Nat):Int) by omega,w64 (by omega) (by omega),C1e (by omega) (by cases x<;>simp),A05 v]
  congr 1
  have:=V2 h4 v;simpa using this.symm
def RdG(st:RdS):Prop:=st.1<2 ^ st.2.1/\st.2.1<=30
theorem C61{st st':RdS}{x:Bool}(h:RdG st)(e:R2 st x=some st'):RdG st'/\st'.2.2.length<=st.2.2.length+1:=by
  unfold R2 at e;have hx:x.toNat<=1:=by cases x<;>simp
  have hp:2*st.1+x.toNat<2 ^ (st.2.1+1):=by have:=h.1;rw [A4U];omega
  cases hj:A7j (2*st.1+x.toNat) (st.2.1+1) with
  | none=>
    rw [hj] at e;by_cases h30:st.2.1+1>30
    · simp only [A9 h30] at e;cases e
    · simp only [A5 h30,H2] at e
      subst e;exact ⟨⟨hp,by simp only;omega⟩,by simp⟩
  | some j=>
    rw [hj] at e;by_cases h256:j=256
    · simp only [A9 h256] at e;cases e
    · by_cases h30:st.2.1+1>30
      · simp only [A5 h256,A9 h30] at e;cases e
      · simp only [A5 h256,A5 h30,H2] at e
        subst e;exact ⟨⟨by simp,by simp⟩,by simp⟩
theorem C2n(a:List Int)(j:Nat)(x:Nat)(hx:x<256)(hj:rd (.int .u8) a (j:Int)=(x:Int))(q1 q2:Int)(q3:List Int):∀ (k:Nat) (st:RdS),k<=8->RdG st->st.2.2.length+k<=1000000000000->j<1000000000000->
    H8 (B1M (codesT.zip lensT) a ((j:Int),q1,q2,q3,())) ((k:Int)-1,(st.1:Int),(st.2.1:Int),st.2.2,()) =
      (if (A1P R2 (S1 k x) st).2 then some (.inr (.inr (strOf (A1P R2 (S1 k x) st).1.2.2,()))) else some (.inl (((j+1:Nat):Int),((A1P R2 (S1 k x) st).1.1:Int),((A1P R2 (S1 k x) st).1.2.1:Int),(A1P R2 (S1 k x) st).1.2.2,())))
  | 0,st,_,_,_,hj2=>by
    rw [H9];have h:¬ ((0:Nat):Int)-1>=0:=by omega
    simp only [B1M,A8 h,A7,S1,A1P];rw [w64 (n:=(j:Int)+1) (by omega) (by omega),show (j:Int)+1=((j+1:Nat):Int) by omega];rfl
  | k+1,st,h8,hg,hl,hj2=>by
    rw [H9];have e0:((k+1:Nat):Int)-1=(k:Int):=by omega
    have h0:(k:Int)>=0:=by omega
    have e1:i64.wrap (x:Int)=(x:Int):=w64 (by omega) (by omega);have e2:=E3L hx (show k<8 by omega);have e3:=E3M hg.1 hg.2 (x.testBit k);have e4:i64.wrap ((st.2.1:Int)+1)=((st.2.1+1:Nat):Int):=by have:=hg.2;rw [w64 (by omega) (by omega)];omega
    have e5:i64.wrap ((k:Int)-1)=(k:Int)-1:=w64 (by omega) (by omega);rw [e0];simp only [B1M,A0 h0,B2,A8 (u64_nonneg _),A7,hj,e1,e2,e3,e4,e5,D7H];simp only [S1,A1P];cases hs:A7j (2*st.1+(x.testBit k).toNat) (st.2.1+1) with
    | none=>
      simp only [Option.isSome_none,A7];by_cases h30:st.2.1+1>30
      · have d1:((st.2.1+1:Nat):Int)>30:=by omega
        have e6:R2 st (x.testBit k)=none:=by unfold R2;rw [hs];simp only [A9 h30]
        rw [e6];simp only [A0 d1,B2,K9,J4]
      · have d1:¬ ((st.2.1+1:Nat):Int)>30:=by omega
        have e6:R2 st (x.testBit k)=some (2*st.1+(x.testBit k).toNat,st.2.1+1,st.2.2):=by unfold R2;rw [hs];simp only [A5 h30]
        have hg2:=C61 hg e6;rw [e6];simp only [A8 d1,A7,K9];exact C2n a j x hx hj q1 q2 q3 k _ (by omega) hg2.1 (by simp only;omega) hj2
    | some s=>
      have e7:=D7I hs;have hlt:=(A9R hs).1;simp only [Option.isSome_some,B2,e7];by_cases h256:s=256
      · have d1:(s:Int)=256:=by omega
        have e6:R2 st (x.testBit k)=none:=by unfold R2;rw [hs];simp only [A9 h256]
        rw [e6];simp only [A0 d1,B2,K9,J4]
      · have d1:¬ (s:Int)=256:=by omega
        by_cases h30:st.2.1+1>30
        · have d2:((st.2.1+1:Nat):Int)>30:=by omega
          have e6:R2 st (x.testBit k)=none:=by unfold R2;rw [hs];simp only [A5 h256,A9 h30]
          rw [e6];simp only [A8 d1,A0 d2,B2,A7,K9,J4]
        · have d2:¬ ((st.2.1+1:Nat):Int)>30:=by omega
          have e6:R2 st (x.testBit k)=some (0,0,st.2.2 ++ [(s:Int)]):=by unfold R2;rw [hs];simp only [A5 h256,A5 h30]
          have hg2:=C61 hg e6;rw [e6];simp only [A8 d1,A8 d2,A7,K9,C1h (show s<256 by omega)];rw [gA (by simp;omega)];exact C2n a j x hx hj q1 q2 q3 k _ (by omega) hg2.1 (by simp only [A3,G3];omega) hj2
theorem D1S(f:RdS->Bool->Option RdS)(hf:∀ st x st',RdG st->f st x=some st'->RdG st'/\st'.2.2.length<=st.2.2.length+1):∀ (xs:List Bool) (st:RdS),RdG st->RdG (A1P f xs st).1/\(A1P f xs st).1.2.2.length<=st.2.2.length+xs.length
  | [],st,h=>⟨h,by simp [A1P]⟩
  | x::xs,st,h=>by
    simp only [A1P];cases e:f st x with
    | none=>exact ⟨h,by simp only [E4];omega⟩
    | some st'=>
      have h1:=hf _ _ _ h e;have h2:=D1S f hf xs st' h1.1;exact ⟨h2.1,by simp only [E4];omega⟩
theorem C62(a:List Int)(ha:Byt a)(hl:a.length<=1000000000):∀ (k j:Nat) (st:RdS),j+k=a.length->RdG st->st.2.2.length+8*k<=100000000000->
    H8 (A85 a (codesT.zip lensT)) ((j:Int),(st.1:Int),(st.2.1:Int),st.2.2,()) =
      (if (A1P R2 (O5 (a.drop j)) st).2 then some (.inr (strOf (A1P R2 (O5 (a.drop j)) st).1.2.2,())) else some (.inl ((A1P R2 (O5 (a.drop j)) st).1.2.2,())))
  | 0,j,st,hj,hg,hlen=>by
    rw [H9];have h:¬ (j:Int)<(a.length:Int):=by omega
    simp only [A85,A8 h,A7];rw [S7 (by omega)];rfl
  | k+1,j,st,hj,hg,hlen=>by
    rw [H9];have h:(j:Int)<(a.length:Int):=by omega
    have h0:(0:Int)<=(j:Int):=by omega
    have hx:=ha _ (H1 (show j<a.length by omega));have hr:rd (.int .u8) a (j:Int)=((a[j].toNat:Nat):Int):=by rw [C9F (show j<a.length by omega)];exact (A1H hx.1).symm
    simp only [A85,A0 h,A0 h0,B2];have e:=C2n a j a[j].toNat (by omega) hr (st.1:Int) (st.2.1:Int) st.2.2 8 st (by omega) hg (by omega) (by omega);rw [show ((8:Nat):Int)-1=7 from rfl] at e;rw [e];have hd:O5 (a.drop j)=S1 8 a[j].toNat++O5 (a.drop (j+1)):=by rw [J6 (show j<a.length by omega),A6t]
    rw [hd,C5v];have hg2:=D1S R2 (fun st x st' h e=>C61 h e) (S1 8 a[j].toNat) st hg;rw [A67] at hg2;cases hs:(A1P R2 (S1 8 a[j].toNat) st).2 with
    | true=>simp only [J4,hs,B2]
    | false=>
      simp only [J0,J1,A7];exact C62 a ha hl k (j+1) _ (by omega) hg2.1 (by omega)
theorem D1T(a:List Int)(ha:Byt a)(hl:a.length<=1000000000):B62 (codesT.zip lensT) a=some (strOf (unH a),()):=by
  have h257:(codesT.zip lensT).length=257:=by rw [A2H,A3V,A0L];rfl
  simp only [B62,C0K,A0 h257,B2];have e:=C62 a ha hl a.length 0 (0,0,[]) (by omega) ⟨by simp,by simp⟩ (by simp;omega);have e':H8 (A85 a (codesT.zip lensT)) (0,0,0,[],())=_:=e;rw [e',T4];cases hs:(A1P R2 (O5 a) (0,0,[])).2 with
  | true=>simp only [J4,K9];rfl
  | false=>simp only [J0,J1,K9];rfl
theorem D7J{a b:List Int}(ha:Byt a)(hb:Byt b):((strOf a).toList == (strOf b).toList)=decide (a=b):=by
  by_cases h:a=b
  · subst h;simp
  · rw [A8 h]
    cases hq:((strOf a).toList == (strOf b).toList) with
    | false=>rfl
    | true=>exact absurd (D74 ha hb (by simpa using hq)) h
def A7D(a:List Int):X0×Bool×Unit:=if C9U a=true then (strOf (unH a),true,()) else (⟨#[]⟩,false,())
theorem D1U(a:List Int)(ha:Byt a)(hl:a.length<=500000000):B64 a=some (A7D a):=by
  have hz:(strOf (unH a)).size<=1000000000000:=by rw [B6L];have:=D5o a;omega
  have hu:=D5o a;simp only [B64,C0L,C1U,D1T a ha (by omega),bO];rw [C8I _ [] (by simp) (by rw [B6L];omega)];simp only [bO,G0,B3r,B3q];rw [D7J (C0U _).1 ha];have h:=(E0B a ha).1;unfold A7D;by_cases hq:C9U a=true
  · rw [A9 hq,A0 (h.2 hq)];rfl
  · rw [A5 hq,A8 (fun e=>hq (h.1 e))];rfl
set_option maxRecDepth 100000
def byN(b:List Int)(p:Nat):Nat:=(b.getD p 0).toNat
def gpN(b:List Int)(p n i:Nat):Nat:=n+byN b p % 128*2 ^ (7*i)
def gpL(b:List Int):Nat->Nat->Nat->Nat->Int×Int×Bool×Unit
  | 0,_,_,_=>(0,0,false,())
  | k+1,p,n,i=>if p<b.length then (if byN b p<128 then (if gpN b p n i>16777216 then (0,0,false,()) else ((gpN b p n i:Int),((p+1:Nat):Int),true,())) else gpL b k (p+1) (gpN b p n i) (i+1)) else (0,0,false,())
def E6(b:List Int)(p m:Nat):Int×Int×Bool×Unit:=
  if p<b.length then (if byN b p % 2 ^ m<2 ^ m-1 then (((byN b p % 2 ^ m:Nat):Int),((p+1:Nat):Int),true,()) else gpL b 4 (p+1) (byN b p % 2 ^ m) 0) else (0,0,false,())
theorem C0V{b:List Int}(hb:Byt b){p:Nat}(h:p<b.length):rd (.int .u8) b (p:Int)=(byN b p:Int)/\byN b p<256:=by
  have h1:=C5m hb p;have e:rd (.int .u8) b (p:Int)=b.getD p 0:=by simp [rd,zd]
  refine ⟨e.trans (show b.getD p 0=(((b.getD p 0).toNat:Nat):Int) by omega),?_⟩;unfold byN;omega
theorem D5p(b:List Int):∀ k p n i,(gpL b k p n i).2.2.1=true->0<=(gpL b k p n i).1/\(gpL b k p n i).1<=16777216/\(p:Int)<(gpL b k p n i).2.1/\(gpL b k p n i).2.1<=b.length
  | 0,_,_,_,h=>by cases h
  | k+1,p,n,i,h=>by
    unfold gpL at h ⊢;by_cases h1:p<b.length
    · rw [A9 h1] at h ⊢
      by_cases h2:byN b p<128
      · rw [A9 h2] at h ⊢
        by_cases h3:gpN b p n i>16777216
        · rw [A9 h3] at h;cases h
        · rw [A5 h3]
          simp only [];omega
      · rw [A5 h2] at h ⊢
        have:=D5p b k _ _ _ h;omega
    · rw [A5 h1] at h;cases h
theorem A5R(b:List Int)(p m:Nat)(hm:m<=8)(h:(E6 b p m).2.2.1=true):0<=(E6 b p m).1/\(E6 b p m).1<=16777216/\(p:Int)<(E6 b p m).2.1/\(E6 b p m).2.1<=b.length:=by
  unfold E6 at h ⊢;by_cases h1:p<b.length
  · rw [A9 h1] at h ⊢
    by_cases h2:byN b p % 2 ^ m<2 ^ m-1
    · rw [A9 h2]
      have:2 ^ m<=2 ^ 8:=C1g hm;simp only [];omega
    · rw [A5 h2] at h ⊢
      have:=D5p b _ _ _ _ h;omega
  · rw [A5 h1] at h;cases h
theorem D5q{x m:Nat}(hx:x<256)(hm:m<=8):A0V .i64 (x:Int) ((2 ^ m-1:Nat):Int)=((x % 2 ^ m:Nat):Int):=by
  have:2 ^ m<=2 ^ 8:=C1g hm;rw [B4n (by omega) (by omega),A06]
theorem E44{x:Nat}(hx:x<256):A0V .i64 (x:Int) 127=((x % 128:Nat):Int):=D5q (m:=7) hx (by omega)
theorem E3N{b:List Int}{p n i:Nat}(hi:i<4)(hn:n<=255+128 ^ i):gpN b p n i<=255+128 ^ (i+1)/\byN b p % 128*2 ^ (7*i)<=268435456:=by
  have e:2 ^ (7*i)=128 ^ i:=by rw [Nat.pow_mul]
  have h1:byN b p % 128<128:=A2r _ (by omega);have h2:byN b p % 128*128 ^ i<=127*128 ^ i:=F2 _ (by omega);have h3:128 ^ (i+1)=128 ^ i*128:=A4U ..;have h4:128 ^ i<=128 ^ 3:=A3N (by omega) (by omega);unfold gpN;rw [e];omega
theorem E2d{b:List Int}(hb:Byt b)(hl:b.length<=500000000):∀ (k p n i:Nat),k+i=4->n<=255+128 ^ i->p<=2000000000->
    (K9 (H8 (A4b b) ((p:Int),(n:Int),(i:Int),())) fun (m3:Unit)=>some (0,0,false,()))=some (gpL b k p n i)
  | 0,p,n,i,hk,hn,hp=>by
    have h:¬ (i:Int)<4:=by omega
    rw [H9];simp only [A4b,A8 h,A7,K9,gpL]
  | k+1,p,n,i,hk,hn,hp=>by
    have h:(i:Int)<4:=by omega
    rw [H9];by_cases h1:p<b.length
    · have d1:(p:Int)<(b.length:Int):=by omega
      have d2:(0:Int)<=(p:Int):=by omega
      obtain ⟨e1,e2⟩:=C0V hb h1;have hg:=E3N (b:=b) (p:=p) (show i<4 by omega) hn;have h5:128 ^ (i+1)<=128 ^ 4:=A3N (by omega) (by omega);have e3:i64.wrap (byN b p:Int)=(byN b p:Int):=w64 (by omega) (by omega);have e4:i64.wrap (7*(i:Int))=((7*i:Nat):Int):=by rw [w64 (by omega) (by omega)];omega
      have e5:=D5l (v:=byN b p % 128) (m:=7*i) (by omega) (by omega);have e6:i64.wrap ((n:Int)+((byN b p % 128*2 ^ (7*i):Nat):Int))=(gpN b p n i:Int):=by
        have e0:(n:Int)+((byN b p % 128*2 ^ (7*i):Nat):Int)=((gpN b p n i:Nat):Int):=by unfold gpN;omega
        rw [e0];exact D3W (by omega)
      have e7:i64.wrap ((p:Int)+1)=((p+1:Nat):Int):=by rw [w64 (by omega) (by omega)];omega
      have e8:i64.wrap ((i:Int)+1)=((i+1:Nat):Int):=by rw [w64 (by omega) (by omega)];omega
      simp only [A4b,A0 h,A0 d1,A0 d2,B2,bSl,A8 (u64_nonneg _),A7,e1,e3,E44 e2,e4,e5,e6,e7,e8,gpL,A9 h1];by_cases h2:byN b p<128
      · rw [A0 (show (byN b p:Int)<128 by omega),A9 h2]
        by_cases h3:gpN b p n i>16777216
        · rw [A0 (show (gpN b p n i:Int)>16777216 by omega),A9 h3];rfl
        · rw [A8 (show ¬ (gpN b p n i:Int)>16777216 by omega),A5 h3];rfl
      · rw [A8 (show ¬ (byN b p:Int)<128 by omega),A5 h2]
        exact E2d hb hl k (p+1) _ (i+1) (by omega) hg.1 (by omega)
    · have d1:¬ (p:Int)<(b.length:Int):=by omega
      simp only [A4b,A0 h,A8 d1,B2,A7,K9,gpL,A5 h1]
theorem B8I{b:List Int}(hb:Byt b)(hl:b.length<=500000000)(p m:Nat)(hp:p<=1000000000)(hm:1<=m/\m<=8):A6o b (p:Int) (m:Int)=some (E6 b p m):=by
  have d1:decide ((1:Int)<=(m:Int)/\(m:Int)<=8)=true:=A0 (by omega);have e1:i64.wrap ((b.length:Int)-1)=(b.length:Int)-1:=w64 (by omega) (by omega);simp only [A6o,B3p,O9,bO,d1,E0,A7,e1];unfold E6;by_cases h1:p<b.length
  · have d2:decide ((0:Int)<=(p:Int)/\(p:Int)<=(b.length:Int)-1)=true:=A0 (by omega)
    have d3:(p:Int)<(b.length:Int):=by omega
    obtain ⟨q1,q2⟩:=C0V hb h1;have e2:=C9R (m:=m) (by omega);have e3:i64.wrap (byN b p:Int)=(byN b p:Int):=w64 (by omega) (by omega);have e7:i64.wrap ((p:Int)+1)=((p+1:Nat):Int):=by rw [w64 (by omega) (by omega)];omega
    have h8:byN b p % 2 ^ m<=255:=by have:=Nat.mod_le (byN b p) (2 ^ m);omega
    simp only [d2,E0,A7,bSl,A8 (u64_nonneg _),A0 (show (0:Int)<=(p:Int) by omega),A0 d3,B2,q1,e2,e3,e7,D5q q2 hm.2,A9 h1];by_cases h2:byN b p % 2 ^ m<2 ^ m-1
    · rw [A0 (show ((byN b p % 2 ^ m:Nat):Int)<((2 ^ m-1:Nat):Int) by omega),A9 h2];rfl
    · rw [A8 (show ¬ ((byN b p % 2 ^ m:Nat):Int)<((2 ^ m-1:Nat):Int) by omega),A5 h2]
      exact E2d hb hl 4 (p+1) _ 0 (by omega) (by omega) (by omega)
  · have d2:decide ((0:Int)<=(p:Int)/\(p:Int)<=(b.length:Int)-1)=false:=A8 (by omega)
    simp only [d2,L6,B2,bSr,A5 h1]
def B19(b:List Int)(p n:Nat):List Int:=(b.take (p+n)).drop p
def T0(b:List Int)(p:Nat):X0×Int×Bool×Unit:=
  if (E6 b p 7).2.2.1=false then (⟨#[]⟩,0,false,()) else if (E6 b p 7).1>4000 then (⟨#[]⟩,0,false,()) else if (E6 b p 7).1>(b.length:Int)-(E6 b p 7).2.1 then (⟨#[]⟩,0,false,())
  else if byN b p<128 then (strOf (B19 b (E6 b p 7).2.1.toNat (E6 b p 7).1.toNat),(E6 b p 7).2.1+(E6 b p 7).1,true,())
  else if (A7D (B19 b (E6 b p 7).2.1.toNat (E6 b p 7).1.toNat)).2.1=false then (⟨#[]⟩,0,false,())
  else if (((A7D (B19 b (E6 b p 7).2.1.toNat (E6 b p 7).1.toNat)).1.size:Int)>4000) then (⟨#[]⟩,0,false,())
  else ((A7D (B19 b (E6 b p 7).2.1.toNat (E6 b p 7).1.toNat)).1,(E6 b p 7).2.1+(E6 b p 7).1,true,())
theorem D7K{b:List Int}(hb:Byt b)(p n:Nat):Byt (B19 b p n):=B4i (C1S hb _) _
theorem D7L(b:List Int)(p n:Nat):(B19 b p n).length<=b.length:=by simp [B19];omega
theorem B1o{b:List Int}(p:Nat)(h:(T0 b p).2.2.1=true):(T0 b p).1.size<=4000/\(p:Int)<(T0 b p).2.1/\(T0 b p).2.1<=b.length:=by
  unfold T0 at h ⊢;by_cases h1:(E6 b p 7).2.2.1=false
  · rw [A9 h1] at h;cases h
  have hr:=A5R b p 7 (by omega) (by simpa using h1);rw [A5 h1] at h ⊢;by_cases h2:(E6 b p 7).1>4000
  · rw [A9 h2] at h;cases h
  rw [A5 h2] at h ⊢;by_cases h3:(E6 b p 7).1>(b.length:Int)-(E6 b p 7).2.1
  · rw [A9 h3] at h;cases h
  rw [A5 h3] at h ⊢;by_cases h4:byN b p<128
  · rw [A9 h4]
    refine ⟨?_,by simp only;omega,by simp only;omega⟩;rw [B6L];simp only [B19,C9,B4];omega
  rw [A5 h4] at h ⊢;by_cases h5:(A7D (B19 b (E6 b p 7).2.1.toNat (E6 b p 7).1.toNat)).2.1=false
  · rw [A9 h5] at h;cases h
  rw [A5 h5] at h ⊢;by_cases h6:(((A7D (B19 b (E6 b p 7).2.1.toNat (E6 b p 7).1.toNat)).1.size:Int)>4000)
  · rw [A9 h6] at h;cases h
  rw [A5 h6];refine ⟨by simp only;omega,by simp only;omega,by simp only;omega⟩
theorem B8J{b:List Int}(hb:Byt b)(hl:b.length<=500000000)(p:Nat)(hp:p<=1000000000):A9t b (p:Int)=some (T0 b p):=by
  have e0:=B8I hb hl p 7 hp (by omega);rw [show ((7:Nat):Int)=7 from rfl] at e0;simp only [A9t,B3s,e0,bO];unfold T0;by_cases h1:(E6 b p 7).2.2.1=false
  · rw [A9 h1,h1];rfl
  have h1':(E6 b p 7).2.2.1=true:=by simpa using h1
  obtain ⟨r1,r2,r3,r4⟩:=A5R b p 7 (by omega) h1';rw [A5 h1,h1',w64 (n:=(b.length:Int)-(E6 b p 7).2.1) (by omega) (by omega),w64 (n:=(E6 b p 7).2.1+(E6 b p 7).1) (by omega) (by omega)];simp only [E0,A7];by_cases h2:(E6 b p 7).1>4000
  · rw [A9 h2,A0 h2];rfl
  rw [A5 h2,A8 h2];by_cases h3:(E6 b p 7).1>(b.length:Int)-(E6 b p 7).2.1
  · rw [A9 h3,A0 h3];rfl
  obtain ⟨q1,q2⟩:=C0V hb (show p<b.length by omega);have e3:((E6 b p 7).2.1+(E6 b p 7).1).toNat=(E6 b p 7).2.1.toNat+(E6 b p 7).1.toNat:=by omega
  rw [A5 h3,A8 h3];simp only [A7,bSl];rw [A0 (show (0:Int)<=(E6 b p 7).2.1 by omega),A0 (show (E6 b p 7).2.1<=(E6 b p 7).2.1+(E6 b p 7).1 by omega),A0 (show (E6 b p 7).2.1+(E6 b p 7).1<=(b.length:Int) by omega),A0 (show (0:Int)<=(p:Int) by omega),A0 (show (p:Int)<(b.length:Int) by omega),q1,e3];simp only [B2];rw [show ((b.take ((E6 b p 7).2.1.toNat+(E6 b p 7).1.toNat)).drop (E6 b p 7).2.1.toNat)=B19 b (E6 b p 7).2.1.toNat (E6 b p 7).1.toNat from rfl,D1U _ (D7K hb _ _) (K8 (D7L _ _ _) hl)];simp only [bO];by_cases h4:byN b p<128
  · rw [A9 h4,A0 (show (byN b p:Int)<128 by omega)];rfl
  rw [A5 h4,A8 (show ¬ (byN b p:Int)<128 by omega)];simp only [A7];by_cases h5:(A7D (B19 b (E6 b p 7).2.1.toNat (E6 b p 7).1.toNat)).2.1=false
  · rw [A9 h5,h5];rfl
  rw [A5 h5,show (A7D (B19 b (E6 b p 7).2.1.toNat (E6 b p 7).1.toNat)).2.1=true by simpa using h5];by_cases h6:(((A7D (B19 b (E6 b p 7).2.1.toNat (E6 b p 7).1.toNat)).1.size:Int)>4000)
  · rw [A9 h6,A0 h6];rfl
  · rw [A5 h6,A8 h6];rfl
set_option maxRecDepth 100000
abbrev noF:B9:=(⟨#[]⟩,⟨#[]⟩)
noncomputable def A2p(t:F5)(i:Int):B9×Bool×Unit:=
  if i<=61 then (if 1<=i then (rd C8 firstT (i-1),true,()) else (noF,false,())) else if i-61>(t.2.length:Int) then (noF,false,()) else (rd C8 t.2 (i-62),true,())
theorem D5r:∀ {fs:List B9} {f:B9},f∈fs->ofF f<=szT fs
  | [],_,h=>by cases h
  | x::fs,f,h=>by
    have h2:=B01 fs;have h3:=C1W x;simp only [szT];rcases C3.1 h with rfl | h
    · omega
    · have:=D5r h;omega
theorem E0E(xs:List B9)(i:Int):rd C8 xs i∈xs\/rd C8 xs i=noF:=by
  unfold rd;rw [D5];by_cases h:i.toNat<xs.length
  · rw [C5 h];exact .inl (H1 h)
  · rw [B7P (by omega)];exact .inr rfl
theorem D1V{t:F5}(ht:A1M t)(i:Int):(A2p t i).1.1.size<=10000/\(A2p t i).1.2.size<=10000:=by
  unfold A2p;have h0:noF.1.size<=10000/\noF.2.size<=10000:=⟨by decide,by decide⟩;split
  · split
    · rcases E0E firstT (i-1) with h | h
      · have:=D7 (C4.1 D7C _ h)
        simp only;omega
      · simp only [h];exact h0
    · exact h0
  · split
    · exact h0
    · rcases E0E t.2 (i-62) with h | h
      · have h1:=D5r h
        obtain ⟨_,h2,h3⟩:=ht;unfold ofF at h1;simp only;omega
      · simp only [h];exact h0
theorem C9V(t:F5)(i:Int)(hi:0<=i/\i<=100000000)(ht:t.2.length<=1000000):B3B t i=some (A2p t i):=by
  simp only [B3B,B85,B25,B24,O9,B4k,bO];unfold A2p;by_cases h1:i<=61
  · rw [A0 h1,A9 h1]
    by_cases h2:1<=i
    · rw [A0 ⟨h2,h1⟩,A9 h2,w64 (n:=i-1) (by omega) (by omega),A0 (show 0<=i-1 by omega),A0 (show i-1<(firstT.length:Int) by rw [A9P];omega)]
      rfl
    · rw [A8 (show ¬ (1<=i/\i<=61) by omega),A5 h2]
      rfl
  · rw [A8 h1,A5 h1,w64 (n:=i-61) (by omega) (by omega),w64 (n:=i-61-1) (by omega) (by omega)]
    by_cases h2:i-61>(t.2.length:Int)
    · rw [A0 h2,A9 h2];rfl
    · rw [A8 h2,A5 h2,A0 (show 0<=i-61-1 by omega),A0 (show i-61-1<(t.2.length:Int) by omega),show i-61-1=i-62 by omega]
      rfl
noncomputable def C9W(t:F5)(f:B9):F5:=match A3P t f with
  | some x=>x.1
  | none=>t
noncomputable def D7M(t:F5)(n:Int):F5:=match A2l (n,t.2) with
  | some x=>x.1
  | none=>t
theorem C9a{t:F5}(ht:A1M t){f:B9}(h1:f.1.size<=10000)(h2:f.2.size<=10000):A3P t f=some (C9W t f,())/\A1M (C9W t f):=by
  obtain ⟨q0,q1,q2⟩:=ht;obtain ⟨T,e,hT⟩:=E42 t f q0 (by omega) (by unfold ofF;omega);have hv:C9W t f=(t.1,T):=by unfold C9W;rw [e]
  rw [hv];exact ⟨e,q0,q1,hT⟩
theorem D5s{t:F5}(ht:A1M t){n:Int}(h1:0<=n)(h2:n<=4096):A2l (n,t.2)=some (D7M t n,())/\A1M (D7M t n):=by
  obtain ⟨q0,q1,q2⟩:=ht;obtain ⟨k,_,_,e,hT⟩:=E2b n t.2 h1 (by omega) (by omega);have hv:D7M t n=(n,t.2.take k):=by unfold D7M;rw [e]
  rw [hv];exact ⟨e,h1,h2,hT⟩
theorem C8P{t:F5}(h:A1M t):A48 t=some (true,()):=by
  obtain ⟨h0,h1,h2⟩:=h;obtain ⟨m,fs⟩:=t;simp only at h0 h1 h2;have e:B5g (m,fs)=some (szT fs,()):=by
    have hl:=B01 fs;have:=A0l (B1H A9A (m,fs)) (fun k=>(szT (fs.take k),(k:Int),())) fs.length (szT fs,()) (fun k hk=>by
      have h3:(k:Int)<(fs.length:Int):=by omega
      have h4:(0:Int)<=(k:Int):=by omega
      have h5:=D1K fs hk;have h6:=E02 fs (k+1);have h7:=C1W fs[k];have h8:=B01 (fs.take k);have e1:rd C8 fs (k:Int)=fs[k]:=B0p (k:=C8) hk;simp only [B1H,A0 h3,A0 h4,B2,e1];rw [C3e _ (by omega)];simp only [B3];rw [w64 (n:=szT (fs.take k)+ofF fs[k]) (by omega) (by omega),w64 (n:=(k:Int)+1) (by omega) (by omega),h5];rfl) (by
      have h3:¬ ((fs.length:Nat):Int)<(fs.length:Int):=by omega
      simp only [B1H,A8 h3,A7];rw [G1 (by omega)])
    simp only [B5g,C0A];rw [show ((0:Int),(0:Int),())=(fun k:Nat=>(szT (fs.take k),(k:Int),())) 0 by simp [szT]];rw [this]
    try rfl
  simp only [A48,B7s,O9,B3,e];rw [A0 ⟨h0,h1⟩,A0 h2];rfl
noncomputable def A6W(t:F5)(b:List Int)(p m:Nat):Int×B9×Nat:=
  if (E6 b p m).2.2.1=false then (1,noF,0)
  else if (E6 b p m).1=0 then
    (if (T0 b (E6 b p m).2.1.toNat).2.2.1=false then (1,noF,0)
     else if (T0 b (T0 b (E6 b p m).2.1.toNat).2.1.toNat).2.2.1=false then (1,noF,0)
     else (0,((T0 b (E6 b p m).2.1.toNat).1,(T0 b (T0 b (E6 b p m).2.1.toNat).2.1.toNat).1),(T0 b (T0 b (E6 b p m).2.1.toNat).2.1.toNat).2.1.toNat))
  else if (A2p t (E6 b p m).1).2.1=false then (2,noF,0)
  else if (T0 b (E6 b p m).2.1.toNat).2.2.1=false then (1,noF,0)
  else (0,((A2p t (E6 b p m).1).1.1,(T0 b (E6 b p m).2.1.toNat).1),(T0 b (E6 b p m).2.1.toNat).2.1.toNat)
theorem C9b{t:F5}(ht:A1M t){b:List Int}{p m:Nat}(hm:m<=8)(h:(A6W t b p m).1=0):(A6W t b p m).2.1.1.size<=10000/\(A6W t b p m).2.1.2.size<=10000/\p<(A6W t b p m).2.2/\(A6W t b p m).2.2<=b.length:=by
  unfold A6W at h ⊢;by_cases h1:(E6 b p m).2.2.1=false
  · rw [A9 h1] at h;cases h
  have r1:=A5R b p m hm (by simpa using h1);rw [A5 h1] at h ⊢;by_cases h2:(E6 b p m).1=0
  · rw [A9 h2] at h ⊢
    by_cases h3:(T0 b (E6 b p m).2.1.toNat).2.2.1=false
    · rw [A9 h3] at h;cases h
    rw [A5 h3] at h ⊢;have r2:=B1o (E6 b p m).2.1.toNat (by simpa using h3);by_cases h4:(T0 b (T0 b (E6 b p m).2.1.toNat).2.1.toNat).2.2.1=false
    · rw [A9 h4] at h;cases h
    rw [A5 h4];have r3:=B1o (T0 b (E6 b p m).2.1.toNat).2.1.toNat (by simpa using h4);simp only;omega
  · rw [A5 h2] at h ⊢
    by_cases h5:(A2p t (E6 b p m).1).2.1=false
    · rw [A9 h5] at h;cases h
    rw [A5 h5] at h ⊢;by_cases h3:(T0 b (E6 b p m).2.1.toNat).2.2.1=false
    · rw [A9 h3] at h;cases h
    rw [A5 h3];have r2:=B1o (E6 b p m).2.1.toNat (by simpa using h3);have r4:=D1V ht (E6 b p m).1;simp only;omega
section
variable {b:List Int} (hb:Byt b) (hl:b.length<=500000000)
include hb hl
theorem B8K(p m:Nat)(hp:p<=1000000000)(hm:1<=m/\m<=8)(t:F5)(l:List B9) :
    A00 (b,(p:Int),0,t,l) (m:Int)=some (if (E6 b p m).2.2.1=false then (0,(b,(p:Int),1,t,l),()) else ((E6 b p m).1,(b,(E6 b p m).2.1,0,t,l),())):=by
  simp only [A00,A4I,B8I hb hl p m hp hm,bO];by_cases h1:(E6 b p m).2.2.1=false
  · rw [A9 h1,h1];rfl
  · rw [A5 h1,show (E6 b p m).2.2.1=true by simpa using h1];rfl
theorem B8L(p:Nat)(hp:p<=1000000000)(t:F5)(l:List B9) :
    A0k (b,(p:Int),0,t,l)=some (if (T0 b p).2.2.1=false then (⟨#[]⟩,(b,(p:Int),1,t,l),()) else ((T0 b p).1,(b,(T0 b p).2.1,0,t,l),())):=by
  simp only [A0k,A3E,B8J hb hl p hp,bO];by_cases h1:(T0 b p).2.2.1=false
  · rw [A9 h1,h1];rfl
  · rw [A5 h1,show (T0 b p).2.2.1=true by simpa using h1];rfl
theorem C63(p:Nat)(hp:p<=1000000000)(c:Int)(hc:c≠0)(t:F5)(l:List B9) :
    A0k (b,(p:Int),c,t,l)=some (⟨#[]⟩,(b,(p:Int),c,t,l),()):=by
  simp only [A0k,A3E,B8J hb hl p hp,bO,K3,V6,A8 hc,L6,B2,A7]
theorem C0W(p:Nat)(c:Int)(t:F5)(ht:A1M t)(l:List B9)(i:Int)(hi:0<=i/\i<=100000000) :
    U1 (b,(p:Int),c,t,l) i=some ((A2p t i).1,(if (A2p t i).2.1=false then (b,(p:Int),if c=0 then 2 else c,t,l) else (b,(p:Int),c,t,l)),()):=by
  have h:=A7C ht;simp only [U1,A52,C9V t i hi (by omega),bO,K3,V6];by_cases h1:(A2p t i).2.1=false
  · rw [A9 h1,h1]
    by_cases hc:c=0
    · rw [A0 hc,A9 hc];rfl
    · rw [A8 hc,A5 hc];rfl
  · rw [A5 h1,show (A2p t i).2.1=true by simpa using h1];rfl
theorem D1W(p:Nat)(c:Int)(hc:c≠0)(t:F5)(ht:A1M t)(l:List B9)(i:Int)(hi:0<=i/\i<=100000000) :
    U1 (b,(p:Int),c,t,l) i=some ((A2p t i).1,(b,(p:Int),c,t,l),()):=by
  rw [C0W hb hl p c t ht l i hi,A5 hc];split<;>rfl
theorem C9c(p:Nat)(t:F5)(ht:A1M t)(l:List B9)(i:Int)(hi:0<=i/\i<=100000000) :
    U1 (b,(p:Int),0,t,l) i=some ((A2p t i).1,(b,(p:Int),(if (A2p t i).2.1=false then 2 else 0),t,l),()):=by
  rw [C0W hb hl p 0 t ht l i hi,A9 rfl];split<;>rfl
theorem C1j(p m:Nat)(hp:p<=1000000000)(hm:1<=m/\m<=8)(t:F5)(ht:A1M t)(l:List B9) :
    ∃ f q,A0b (b,(p:Int),0,t,l) (m:Int)=some (f,(b,q,(A6W t b p m).1,t,l),())/\((A6W t b p m).1=0->f=(A6W t b p m).2.1/\q=((A6W t b p m).2.2:Int)):=by
  simp only [A0b,A2B,B8K hb hl p m hp hm t l,bO];unfold A6W;by_cases h1:(E6 b p m).2.2.1=false
  · rw [A9 h1,A9 h1]
    exact ⟨_,_,rfl,fun h=>by cases h⟩
  have r1:=A5R b p m hm.2 (by simpa using h1);have e1:(E6 b p m).2.1=(((E6 b p m).2.1.toNat:Nat):Int):=by omega
  rw [A5 h1,A5 h1];simp only [V9,E0,A7];by_cases h2:(E6 b p m).1=0
  · rw [A9 h2,A0 h2]
    simp only [B2];rw [e1,B8L hb hl _ (by omega) t l,E2];simp only [bO];by_cases h3:(T0 b (E6 b p m).2.1.toNat).2.2.1=false
    · rw [A9 h3,A9 h3]
      simp only [bSl];rw [C63 hb hl _ (by omega) 1 (by decide) t l];exact ⟨_,_,rfl,fun h=>by cases h⟩
    have r2:=B1o (E6 b p m).2.1.toNat (by simpa using h3);have e2:(T0 b (E6 b p m).2.1.toNat).2.1=(((T0 b (E6 b p m).2.1.toNat).2.1.toNat:Nat):Int):=by omega
    rw [A5 h3,A5 h3];simp only [bSl];rw [e2,B8L hb hl _ (by omega) t l,E2];simp only [bO];by_cases h4:(T0 b (T0 b (E6 b p m).2.1.toNat).2.1.toNat).2.2.1=false
    · rw [A9 h4,A9 h4]
      exact ⟨_,_,rfl,fun h=>by cases h⟩
    · have r3:=B1o (T0 b (E6 b p m).2.1.toNat).2.1.toNat (by simpa using h4)
      rw [A5 h4,A5 h4];exact ⟨_,_,rfl,fun _=>⟨rfl,by simp only;omega⟩⟩
  · rw [A5 h2,A8 h2]
    simp only [A7];rw [e1,C0W hb hl _ 0 t ht l _ (by omega),E2];simp only [bO];by_cases h5:(A2p t (E6 b p m).1).2.1=false
    · rw [A9 h5,A9 h5]
      simp only [bSl,J4];rw [C63 hb hl _ (by omega) 2 (by decide) t l];exact ⟨_,_,rfl,fun h=>by cases h⟩
    rw [A5 h5,A5 h5];simp only [bSl];rw [B8L hb hl _ (by omega) t l];simp only [bO];by_cases h3:(T0 b (E6 b p m).2.1.toNat).2.2.1=false
    · rw [A9 h3,A9 h3]
      exact ⟨_,_,rfl,fun h=>by cases h⟩
    · have r2:=B1o (E6 b p m).2.1.toNat (by simpa using h3)
      rw [A5 h3,A5 h3];exact ⟨_,_,rfl,fun _=>⟨rfl,by simp only;omega⟩⟩
end
set_option maxRecDepth 100000
abbrev RdT:=Int×F5×Nat×List B9
def B0T(t:F5)(p:Nat)(l:List B9)(f:B9):RdT:=(if 100<l.length+1 then 4 else 0,t,p,l ++ [f])
noncomputable def B42(b:List Int)(most:Int)(t:F5)(p:Nat)(l:List B9):RdT:=
  if 128<=byN b p then
    (if (E6 b p 7).2.2.1=false then (1,t,p,l) else if (A2p t (E6 b p 7).1).2.1=false then (2,t,p,l) else B0T t (E6 b p 7).2.1.toNat l (A2p t (E6 b p 7).1).1)
  else if 64<=byN b p then (if (A6W t b p 6).1=0 then B0T (C9W t (A6W t b p 6).2.1) (A6W t b p 6).2.2 l (A6W t b p 6).2.1 else ((A6W t b p 6).1,t,p,l))
  else if 32<=byN b p then (if (E6 b p 5).2.2.1=false then (1,t,p,l) else if (E6 b p 5).1>most\/0<l.length then (3,t,p,l) else (0,D7M t (E6 b p 5).1,(E6 b p 5).2.1.toNat,l))
  else (if (A6W t b p 4).1=0 then B0T t (A6W t b p 4).2.2 l (A6W t b p 4).2.1 else ((A6W t b p 4).1,t,p,l))
def RdK(b:List Int)(t:F5)(p:Nat)(l:List B9):Prop:=A1M t/\p<=b.length/\l.length<=100/\∀ f∈l,f.1.size<=10000/\f.2.size<=10000
theorem C64{b:List Int}{t:F5}{p p':Nat}{l:List B9}{f:B9}(ht:A1M t)(hp:p'<=b.length)(hlt:p<p')(hk:l.length<=100/\∀ f∈l,f.1.size<=10000/\f.2.size<=10000)(h1:f.1.size<=10000)(h2:f.2.size<=10000)(h:(B0T t p' l f).1=0) :
    RdK b (B0T t p' l f).2.1 (B0T t p' l f).2.2.1 (B0T t p' l f).2.2.2/\p<(B0T t p' l f).2.2.1:=by
  unfold B0T at h ⊢;by_cases h3:100<l.length+1
  · simp only [A9 h3] at h;cases h
  · refine ⟨⟨ht,hp,by simp only [A3,G3];omega,fun x hx=>?_⟩,hlt⟩
    rcases C6.1 hx with q | q
    · exact hk.2 x q
    · rcases B0.1 q with rfl
      exact ⟨h1,h2⟩
theorem D5t{b:List Int}{most:Int}(hmost:most<=4096){t:F5}{p:Nat}{l:List B9}(hk:RdK b t p l)(h:(B42 b most t p l).1=0):RdK b (B42 b most t p l).2.1 (B42 b most t p l).2.2.1 (B42 b most t p l).2.2.2/\p<(B42 b most t p l).2.2.1:=by
  obtain ⟨ht,hp,hl⟩:=hk;unfold B42 at h ⊢;by_cases c1:128<=byN b p
  · rw [A9 c1] at h ⊢
    by_cases h1:(E6 b p 7).2.2.1=false
    · rw [A9 h1] at h;cases h
    rw [A5 h1] at h ⊢;have r1:=A5R b p 7 (by omega) (by simpa using h1);by_cases h2:(A2p t (E6 b p 7).1).2.1=false
    · rw [A9 h2] at h;cases h
    rw [A5 h2] at h ⊢;have r2:=D1V ht (E6 b p 7).1;exact C64 ht (by omega) (by omega) hl r2.1 r2.2 h
  rw [A5 c1] at h ⊢;by_cases c2:64<=byN b p
  · rw [A9 c2] at h ⊢
    by_cases h1:(A6W t b p 6).1=0
    · rw [A9 h1] at h ⊢
      obtain ⟨q1,q2,q3,q4⟩:=C9b ht (by omega) h1;exact C64 (C9a ht q1 q2).2 q4 q3 hl q1 q2 h
    · rw [A5 h1] at h;exact absurd h h1
  rw [A5 c2] at h ⊢;by_cases c3:32<=byN b p
  · rw [A9 c3] at h ⊢
    by_cases h1:(E6 b p 5).2.2.1=false
    · rw [A9 h1] at h;cases h
    rw [A5 h1] at h ⊢;have r1:=A5R b p 5 (by omega) (by simpa using h1);by_cases h2:(E6 b p 5).1>most\/0<l.length
    · rw [A9 h2] at h;cases h
    rw [A5 h2];exact ⟨⟨(D5s ht r1.1 (by omega)).2,by simp only;omega,hl⟩,by simp only;omega⟩
  rw [A5 c3] at h ⊢;by_cases h1:(A6W t b p 4).1=0
  · rw [A9 h1] at h ⊢
    obtain ⟨q1,q2,q3,q4⟩:=C9b ht (by omega) h1;exact C64 ht q4 q3 hl q1 q2 h
  · rw [A5 h1] at h;exact absurd h h1
theorem D3h(t:F5)(p:Nat)(l:List B9)(f:B9):(if 100<l.length+1 then (if (0:Int)=0 then 4 else 0) else 0)=(B0T t p l f).1:=by
  unfold B0T;by_cases h:100<l.length+1
  · rw [A9 h,A9 rfl]
    simp only [A9 h]
  · rw [A5 h]
    simp only [A5 h]
theorem E2e(l:List B9){c:Int}(h:c≠0):(if 100<l.length+1 then (if c=0 then 4 else c) else c)=c:=by
  rw [A5 h];split<;>rfl
theorem C65(b:List Int)(q c:Int)(t:F5)(l:List B9)(f:B9)(hl:l.length<=1000) :
    (bif decide (l.length+([f]:List B9).length<=9223372036854775807) then bif decide ((l.length+([f]:List B9).length)*32<=140737488355328) then bif (decide (((l ++ [f]).length:Int)>100)) then B3 (K3 (b,(q,(c,(t,(l ++ [f]))))) 4) fun c63=>some (c63.1,()) else some ((b,(q,(c,(t,(l ++ [f]))))),()) else none else none) =
      some ((b,q,(if 100<l.length+1 then (if c=0 then 4 else c) else c),t,l ++ [f]),()):=by
  rw [D3c (by simp;omega)];by_cases h:100<l.length+1
  · rw [A0 (show ((l ++ [f]).length:Int)>100 by simp;omega),A9 h]
    simp only [B2,K3,V6];by_cases hc:c=0
    · rw [A0 hc,A9 hc];rfl
    · rw [A8 hc,A5 hc];rfl
  · rw [A8 (show ¬ ((l ++ [f]).length:Int)>100 by simp;omega),A5 h]
    rfl
theorem D1a{t:F5}(ht:A1M t){n:Int}(h1:0<=n)(h2:n<=4096):B66 t n=some (D7M t n,()):=by
  have hl:=A7C ht;simp only [B66,C0M,A8E t (by omega),O9,C8P ht,bO,A0 (show 0<=n/\n<=4096 from ⟨h1,h2⟩),E0,A7,bSl,(D5s ht h1 h2).1]
theorem D7N{b:List Int}(hb:Byt b)(hl:b.length<=500000000)(most:Int)(hmost:0<=most/\most<=4096)(t:F5)(p:Nat)(l:List B9)(hk:RdK b t p l)(hp:p<b.length) :
    ∃ q c t' l',S2 (b,(p:Int),0,t,l) most=some ((b,q,c,t',l'),())/\c=(B42 b most t p l).1/\((B42 b most t p l).1=0->q=((B42 b most t p l).2.2.1:Int)/\t' = (B42 b most t p l).2.1/\l' = (B42 b most t p l).2.2.2):=by
  obtain ⟨ht,_,hl1,hl2⟩:=hk;obtain ⟨q1,q2⟩:=C0V hb hp;have d1:decide ((0:Int)<=(p:Int))=true:=A0 (by omega);have d2:decide ((p:Int)<(b.length:Int))=true:=A0 (by omega);simp only [S2,A2v,d1,d2,B2,q1];unfold B42;by_cases c1:128<=byN b p
  · rw [A0 (show (byN b p:Int)>=128 by omega),A9 c1]
    have e:=B8K hb hl p 7 (by omega) (by omega) t l;rw [show ((7:Nat):Int)=7 from rfl] at e;simp only [B2,e,bO];by_cases h1:(E6 b p 7).2.2.1=false
    · rw [A9 h1,A9 h1]
      simp only [];rw [D1W hb hl p 1 (by decide) t ht l 0 (by omega)];simp only [bO,bSl];rw [show ((A2p t 0).1.1,(A2p t 0).1.2)=(A2p t 0).1 from rfl,C65 b _ 1 t l _ (by omega)];exact ⟨_,_,_,_,rfl,by simp,fun h=>by cases h⟩
    have r1:=A5R b p 7 (by omega) (by simpa using h1);have e1:(E6 b p 7).2.1=(((E6 b p 7).2.1.toNat:Nat):Int):=by omega
    rw [A5 h1,A5 h1];simp only [];rw [e1,C9c hb hl _ t ht l _ (by omega),E2];simp only [bO,bSl];by_cases h2:(A2p t (E6 b p 7).1).2.1=false
    · rw [A9 h2,A9 h2]
      rw [show ((A2p t (E6 b p 7).1).1.1,(A2p t (E6 b p 7).1).1.2)=(A2p t (E6 b p 7).1).1 from rfl,C65 b _ 2 t l _ (by omega)];exact ⟨_,_,_,_,rfl,by simp,fun h=>by cases h⟩
    · rw [A5 h2,A5 h2]
      rw [show ((A2p t (E6 b p 7).1).1.1,(A2p t (E6 b p 7).1).1.2)=(A2p t (E6 b p 7).1).1 from rfl,C65 b _ 0 t l _ (by omega)];refine ⟨_,_,_,_,rfl,?_,fun h=>⟨?_,rfl,rfl⟩⟩
      · exact D3h ..
      · unfold B0T;rfl
  rw [A8 (show ¬ (byN b p:Int)>=128 by omega),A5 c1];simp only [A7];by_cases c2:64<=byN b p
  · rw [A0 (show (byN b p:Int)>=64 by omega),A9 c2]
    obtain ⟨f,q,e,e'⟩:=C1j hb hl p 6 (by omega) (by omega) t ht l;rw [show ((6:Nat):Int)=6 from rfl] at e;simp only [B2,e,bO];by_cases h1:(A6W t b p 6).1=0
    · obtain ⟨e1,e2⟩:=e' h1
      obtain ⟨s1,s2,s3,s4⟩:=C9b ht (by omega) h1;subst e1 e2;rw [A0 h1,A9 h1];simp only [B2,(C9a ht s1 s2).1,bO,bSl,h1];rw [show ((A6W t b p 6).2.1.1,(A6W t b p 6).2.1.2)=(A6W t b p 6).2.1 from rfl,C65 b _ 0 (C9W t (A6W t b p 6).2.1) l _ (by omega)];refine ⟨_,_,_,_,rfl,?_,fun h=>⟨?_,rfl,rfl⟩⟩
      · exact D3h ..
      · unfold B0T;rfl
    · rw [A8 h1,A5 h1]
      simp only [A7,bSl];rw [show (f.1,f.2)=f from rfl,C65 b _ _ t l _ (by omega)];refine ⟨_,_,_,_,rfl,?_,fun h=>absurd h h1⟩;exact E2e l h1
  rw [A8 (show ¬ (byN b p:Int)>=64 by omega),A5 c2];simp only [A7];by_cases c3:32<=byN b p
  · rw [A0 (show (byN b p:Int)>=32 by omega),A9 c3]
    have e:=B8K hb hl p 5 (by omega) (by omega) t l;rw [show ((5:Nat):Int)=5 from rfl] at e;simp only [B2,A2O,A2N,e,bO];by_cases h1:(E6 b p 5).2.2.1=false
    · rw [A9 h1,A9 h1]
      simp only [A8 (show ¬ (0:Int)>most by omega),A7,K3,V6,bO,show decide ((1:Int)=0)=false from rfl];cases decide ((l.length:Int)>0)<;>exact ⟨_,_,_,_,rfl,rfl,fun h=>by cases h⟩
    have r1:=A5R b p 5 (by omega) (by simpa using h1);rw [A5 h1,A5 h1];simp only [K3,V6,bO,V9,B2];by_cases h2:(E6 b p 5).1>most
    · rw [A0 h2,A9 (.inl h2)]
      exact ⟨_,_,_,_,rfl,rfl,fun h=>by cases h⟩
    · rw [A8 h2]
      simp only [A7];by_cases h3:0<l.length
      · rw [A0 (show (l.length:Int)>0 by omega),A9 (.inr h3)]
        exact ⟨_,_,_,_,rfl,rfl,fun h=>by cases h⟩
      · rw [A8 (show ¬ (l.length:Int)>0 by omega),A5 (by omega)]
        simp only [A7,bO,V9,B2,D1a ht r1.1 (show (E6 b p 5).1<=4096 by omega),bSr];exact ⟨_,_,_,_,rfl,rfl,fun _=>⟨by omega,rfl,rfl⟩⟩
  rw [A8 (show ¬ (byN b p:Int)>=32 by omega),A5 c3];obtain ⟨f,q,e,e'⟩:=C1j hb hl p 4 (by omega) (by omega) t ht l;rw [show ((4:Nat):Int)=4 from rfl] at e;simp only [A7,e,bO,bSl];by_cases h1:(A6W t b p 4).1=0
  · obtain ⟨e1,e2⟩:=e' h1
    subst e1 e2;rw [A9 h1];simp only [h1];rw [show ((A6W t b p 4).2.1.1,(A6W t b p 4).2.1.2)=(A6W t b p 4).2.1 from rfl,C65 b _ 0 t l _ (by omega)];refine ⟨_,_,_,_,rfl,?_,fun h=>⟨?_,rfl,rfl⟩⟩
    · exact D3h ..
    · unfold B0T;rfl
  · rw [A5 h1,show (f.1,f.2)=f from rfl,C65 b _ _ t l _ (by omega)]
    refine ⟨_,_,_,_,rfl,?_,fun h=>absurd h h1⟩;exact E2e l h1
noncomputable def gfM(b:List Int)(most:Int):Nat->F5->Nat->List B9->Int×F5×List B9
  | 0,t,p,l=>(0,t,l)
  | k+1,t,p,l=>if p<b.length then (if (B42 b most t p l).1=0 then gfM b most k (B42 b most t p l).2.1 (B42 b most t p l).2.2.1 (B42 b most t p l).2.2.2 else ((B42 b most t p l).1,t,l)) else (0,t,l)
theorem E0F{b:List Int}{most:Int}(hmost:most<=4096):∀ (k:Nat) (t:F5) (p:Nat) (l:List B9),RdK b t p l->(gfM b most k t p l).1=0->A1M (gfM b most k t p l).2.1/\(gfM b most k t p l).2.2.length<=100/\∀ f∈(gfM b most k t p l).2.2,f.1.size<=10000/\f.2.size<=10000
  | 0,t,p,l,hk,_=>⟨hk.1,hk.2.2⟩
  | k+1,t,p,l,hk,h=>by
    unfold gfM at h ⊢;by_cases h1:p<b.length
    · rw [A9 h1] at h ⊢
      by_cases h2:(B42 b most t p l).1=0
      · rw [A9 h2] at h ⊢
        exact E0F hmost k _ _ _ (D5t hmost hk h2).1 h
      · rw [A5 h2] at h;exact absurd h h2
    · rw [A5 h1];exact ⟨hk.1,hk.2.2⟩
theorem C8Q{b:List Int}(hb:Byt b)(hl:b.length<=500000000)(most:Int)(hmost:0<=most/\most<=4096):∀ (k:Nat) (t:F5) (p:Nat) (l:List B9),RdK b t p l->b.length<=p+k->
    ∃ q t1 t2 l',H8 (A37 S2 b most) (b,(p:Int),0,t.1,t.2,l,())=some (b,q,(gfM b most k t p l).1,t1,t2,l',())/\((gfM b most k t p l).1=0->(t1,t2)=(gfM b most k t p l).2.1/\l' = (gfM b most k t p l).2.2)
  | 0,t,p,l,hk,hle=>by
    have h1:¬ (p:Int)<(b.length:Int):=by omega
    rw [H9];simp only [A37,V9,B2,A8 h1,A7];exact ⟨_,_,_,_,rfl,fun _=>⟨rfl,rfl⟩⟩
  | k+1,t,p,l,hk,hle=>by
    rw [H9];unfold gfM;by_cases h1:p<b.length
    · obtain ⟨q,c,t',l',e,hc,hz⟩:=D7N hb hl most hmost t p l hk h1
      have e':S2 (b,(p:Int),0,(t.1,t.2),l) most=some ((b,q,c,t',l'),()):=e;simp only [A37,V9,B2,A0 (show (p:Int)<(b.length:Int) by omega),e',bO];rw [A9 h1];by_cases h2:(B42 b most t p l).1=0
      · obtain ⟨z1,z2,z3⟩:=hz h2
        subst z1 z2 z3;rw [A9 h2,hc,h2];have hk2:=D5t hmost.2 hk h2;exact C8Q hb hl most hmost k _ _ _ hk2.1 (by omega)
      · rw [A5 h2,H9]
        have hc0:¬ c=0:=by rw [hc];exact h2
        simp only [A8 hc0,A7,A37];rw [hc];exact ⟨_,_,_,_,rfl,fun h=>absurd h h2⟩
    · have h1':¬ (p:Int)<(b.length:Int):=by omega
      rw [A5 h1];simp only [A37,V9,B2,A8 h1',A7];exact ⟨_,_,_,_,rfl,fun _=>⟨rfl,rfl⟩⟩
noncomputable def A0G(t:F5)(most:Int)(b:List Int):List B9×F5×Int×Unit:=
  if (gfM b most b.length t 0 []).1=0 then ((gfM b most b.length t 0 []).2.2,(gfM b most b.length t 0 []).2.1,0,()) else ([],t,(gfM b most b.length t 0 []).1,())
theorem C66{t:F5}(ht:A1M t){most:Int}(hmost:most<=4096)(b:List Int):A1M (A0G t most b).2.1/\(A0G t most b).1.length<=100/\∀ f∈(A0G t most b).1,f.1.size<=10000/\f.2.size<=10000:=by
  unfold A0G;by_cases h:(gfM b most b.length t 0 []).1=0
  · rw [A9 h]
    exact E0F hmost b.length t 0 [] ⟨ht,by omega,by simp,fun f hf=>by cases hf⟩ h
  · rw [A5 h]
    exact ⟨ht,by simp,fun f hf=>by cases hf⟩
theorem B8M{t:F5}(ht:A1M t){b:List Int}(hb:Byt b)(hl:b.length<=500000000){most:Int}(hmost:0<=most/\most<=4096):A3T t most b=some (A0G t most b):=by
  have htl:=A7C ht;obtain ⟨q,t1,t2,l',e,hz⟩:=C8Q hb hl most hmost b.length t 0 [] ⟨ht,by omega,by simp,fun f hf=>by cases hf⟩ (by omega);rw [show ((0:Nat):Int)=0 from rfl] at e;simp only [A3T,B3t,O9,A0 hmost,C8P ht,A8E t (by omega),bO,E0,A7,bSl,e];unfold A0G;by_cases h:(gfM b most b.length t 0 []).1=0
  · obtain ⟨z1,z2⟩:=hz h
    rw [A9 h,h,<- z1,<- z2];rfl
  · rw [A5 h,A8 h]
    rfl
set_option maxRecDepth 100000
def nmA(l:List B9)(k:Nat):X0:=(rd C8 l (k:Int)).1
def A7R(l:List B9)(name:X0):Nat->Nat
  | 0=>0
  | k+1=>A7R l name k+(if ((nmA l k).toList == name.toList)=true then 1 else 0)
def A3W(l:List B9)(name:X0):Nat->X0
  | 0=>⟨#[]⟩
  | k+1=>if ((nmA l k).toList == name.toList)=true then (if A7R l name k=0 then (rd C8 l (k:Int)).2 else A3W l name k) else A3W l name k
theorem D5u(l:List B9)(name:X0):∀ k,A7R l name k<=k
  | 0=>C1 _
  | k+1=>by have:=D5u l name k;unfold A7R;split<;>omega
theorem A4L(l:List B9)(name:X0)(hl:l.length<=1000000):T9 l name=some (A3W l name l.length,(A7R l name l.length:Int),()):=by
  have e:=A0l (A6p l name) (fun k=>(A3W l name k,(A7R l name k:Int),(k:Int),())) l.length (A3W l name l.length,(A7R l name l.length:Int),()) (fun k hk=>by
    have h1:(k:Int)<(l.length:Int):=by omega
    have h2:(0:Int)<=(k:Int):=by omega
    have h3:=D5u l name k;have w1:i64.wrap ((k:Int)+1)=((k+1:Nat):Int):=by rw [w64 (by omega) (by omega)];omega
    have w2:i64.wrap ((A7R l name k:Int)+1)=((A7R l name k+1:Nat):Int):=by rw [w64 (by omega) (by omega)];omega
    simp only [A6p,A0 h1,A0 h2,B2,w1,w2];simp only [A3W,A7R];rw [show (rd C8 l (k:Int)).1=nmA l k from rfl];cases hq:((nmA l k).toList == name.toList) with
    | false=>simp only [A7,J0,J1,K7]
    | true=>
      simp only [B2,J4];by_cases h0:A7R l name k=0
      · rw [A0 (show (A7R l name k:Int)=0 by omega),A9 h0];rfl
      · rw [A8 (show ¬ (A7R l name k:Int)=0 by omega),A5 h0];rfl) (by
    have h1:¬ ((l.length:Nat):Int)<(l.length:Int):=by omega
    simp only [A6p,A8 h1,A7])
  simp only [T9,B86];have e':H8 (A6p l name) ((⟨#[]⟩:X0),0,0,())=some (A3W l name l.length,(A7R l name l.length:Int),()):=e;rw [e'];rfl
theorem E3O{go:Nat->Bool}{n:Nat}{f:Int×Unit->Option ((Int×Unit)⊕(Unit⊕(Bool×Unit)))}(hs:∀ i:Nat,i<n->f ((i:Int),())=if go i then some (.inl (((i+1:Nat):Int),())) else some (.inr (.inr (false,()))))
    (he:f ((n:Int),())=some (.inr (.inl ()))) (g:Unit->Option (Bool×Unit)) (c:Bool) (hg:g ()=some (c,())):K9 (H8 f (0,())) g=some ((List.range n).all go&&c,()):=by
  obtain ⟨i,h1,h2,h3,h4⟩:=A9O f (fun i=>((i:Int),())) n (fun i=>if i<n then .inr (false,()) else .inl ()) go (fun i hi=>by
    simp only [A9 hi];exact hs i hi) (by simp only [A50,J1];exact he)
  have h4':H8 f (0,())=some (if i<n then .inr (false,()) else .inl ()):=h4;rw [h4'];by_cases hi:i<n
  · rw [A9 hi]
    have:(List.range n).all go=false:=by
      rw [A8p];exact ⟨i,A1F.2 hi,by simp [h3 hi]⟩
    simp [K9,this]
  · rw [A5 hi]
    have:(List.range n).all go=true:=by
      rw [C4];intro j hj;exact h2 j (by have:=A1F.1 hj;omega)
    simp only [K9,this,hg,L2]
def D3i(s:X0)(i:Nat):Bool:=decide (65<=bt s (i:Int))&&decide (bt s (i:Int)<=90)
def D1b(s:X0):Bool:=(List.range s.size).all (fun i=>!D3i s i)&&!(s.toList == (⟨#[]⟩:X0).toList)
theorem D1c(s:X0)(h:s.size<=1000000000):A7N s=some (D1b s,()):=by
  simp only [A7N,C0N];refine E3O (fun i hi=>?_) ?_ _ _ rfl
  · have h1:(i:Int)<(s.size:Int):=by omega
    have h2:(0:Int)<=(i:Int):=by omega
    have w1:i64.wrap ((i:Int)+1)=((i+1:Nat):Int):=by rw [w64 (by omega) (by omega)];omega
    simp only [B6C,A0 h1,A0 h2,B2,w1];by_cases a:65<=bt s (i:Int)
    · rw [A0 (show bt s (i:Int)>=65 from a)]
      by_cases b:bt s (i:Int)<=90
      · rw [show D3i s i=true by unfold D3i;rw [A0 a,A0 b];rfl,A0 b];rfl
      · rw [show D3i s i=false by unfold D3i;rw [A0 a,A8 b];rfl,A8 b];rfl
    · rw [show D3i s i=false by unfold D3i;rw [A8 a];rfl,A8 (show ¬ bt s (i:Int)>=65 from a)];rfl
  · have h1:¬ (s.size:Int)<(s.size:Int):=by omega
    simp only [B6C,A8 h1,A7]
theorem D3j{s:X0}(h:(!(s.toList == (⟨#[]⟩:X0).toList))=true):0<s.size:=by
  rcases C13 s.size with h0 | h0
  · exfalso
    have:s=⟨#[]⟩:=ByteArray.ext (Array.eq_empty_of_size_eq_zero h0);rw [this] at h;simp at h
  · exact h0
theorem D3k{s:X0}(h:D1b s=true):0<s.size:=D3j (by
  unfold D1b at h;simp only [B5] at h;exact h.2)
abbrev nM:X0:=⟨#[58,109,101,116,104,111,100]⟩
abbrev nS:X0:=⟨#[58,115,99,104,101,109,101]⟩
abbrev nP:X0:=⟨#[58,112,97,116,104]⟩
abbrev nA:X0:=⟨#[58,97,117,116,104,111,114,105,116,121]⟩
def D3l(x:X0):Bool:=(x.toList == nM.toList)||(x.toList == nS.toList)||(x.toList == nP.toList)||(x.toList == nA.toList)
theorem C77(a b c d x:X0):K5 [a,b,c,d] x=some ((x.toList == a.toList)||(x.toList == b.toList)||(x.toList == c.toList)||(x.toList == d.toList),()):=by
  have s0:N4 [a,b,c,d] x (0,())=bif (x.toList == a.toList) then some (.inr (0,())) else some (.inl (1,())):=rfl
  have s1:N4 [a,b,c,d] x (1,())=bif (x.toList == b.toList) then some (.inr (1,())) else some (.inl (2,())):=rfl
  have s2:N4 [a,b,c,d] x (2,())=bif (x.toList == c.toList) then some (.inr (2,())) else some (.inl (3,())):=rfl
  have s3:N4 [a,b,c,d] x (3,())=bif (x.toList == d.toList) then some (.inr (3,())) else some (.inl (4,())):=rfl
  have s4:N4 [a,b,c,d] x (4,())=some (.inr (-1,())):=rfl;simp only [K5,A1O,A2D,A2C];rw [H9,s0];cases (x.toList == a.toList)
  case true=>rfl
  simp only [A7];rw [H9,s1];cases (x.toList == b.toList)
  case true=>rfl
  simp only [A7];rw [H9,s2];cases (x.toList == c.toList)
  case true=>rfl
  simp only [A7];rw [H9,s3];cases (x.toList == d.toList)
  case true=>rfl
  simp only [A7];rw [H9,s4];rfl
def plN(l:List B9):Nat->Bool
  | 0=>false
  | k+1=>plN l k||!decide (bt (nmA l k) 0=58)
def C8R(l:List B9)(k:Nat):Bool:=D1b (nmA l k)&&(bif decide (bt (nmA l k) 0=58) then !plN l k&&D3l (nmA l k)&&decide (A7R l (nmA l k) l.length<=1) else true)
def D5v(l:List B9):Bool:=(List.range l.length).all (C8R l)&&(decide (1<=A7R l nM l.length)&&decide (1<=A7R l nS l.length)&&decide (1<=A7R l nP l.length))
theorem D1d(l:List B9)(hl:l.length<=1000000)(hn:∀ f∈l,f.1.size<=1000000000)(k:Nat)(hk:k<l.length) :
    A5t A7N T9 K5 l (plN l k,(k:Int),())=if C8R l k then some (.inl (plN l (k+1),((k+1:Nat):Int),())) else some (.inr (.inr (false,()))):=by
  have h1:(k:Int)<(l.length:Int):=by omega
  have h2:(0:Int)<=(k:Int):=by omega
  have w1:i64.wrap ((k:Int)+1)=((k+1:Nat):Int):=by rw [w64 (by omega) (by omega)];omega
  have hz:(nmA l k).size<=1000000000:=by
    have e:rd C8 l (k:Int)=l[k]:=B0p (k:=C8) hk;unfold nmA;rw [e];exact hn _ (H1 hk)
  simp only [A5t,A0 h1,A0 h2,B2,w1];rw [show (rd C8 l (k:Int)).1=nmA l k from rfl,D1c _ hz];simp only [bO];unfold C8R;cases hq:D1b (nmA l k) with
  | false=>rfl
  | true=>
    have h0:=D3k hq;rw [A0 (show (0:Int)<((nmA l k).size:Int) by omega),A4L l _ hl,C77];simp only [E0,A7,B2,bO,L2,plN];by_cases h58:bt (nmA l k) 0=58
    · rw [A0 h58]
      simp only [E0,A7,B2,Bool.or_false];rw [show ((nmA l k).toList == nM.toList||(nmA l k).toList == nS.toList||(nmA l k).toList == nP.toList||(nmA l k).toList == nA.toList)=D3l (nmA l k) from rfl];cases plN l k with
      | true=>rfl
      | false=>
        cases D3l (nmA l k) with
        | false=>rfl
        | true=>
          by_cases hc:A7R l (nmA l k) l.length<=1
          · rw [A8 (show ¬ (A7R l (nmA l k) l.length:Int)>1 by omega),A0 hc];rfl
          · rw [A0 (show (A7R l (nmA l k) l.length:Int)>1 by omega),A8 hc];rfl
    · rw [A8 h58]
      simp
theorem E28(l:List B9)(hl:l.length<=1000000):H8 (A5u T9 l) (0,())=some (decide (1<=A7R l nM l.length)&&decide (1<=A7R l nS l.length)&&decide (1<=A7R l nP l.length),()):=by
  have s0:A5u T9 l (0,())=B3 (T9 l nM) fun c55=>bif (decide (c55.2.1=0)) then some (.inr (false,())) else some (.inl (1,())):=rfl
  have s1:A5u T9 l (1,())=B3 (T9 l nS) fun c55=>bif (decide (c55.2.1=0)) then some (.inr (false,())) else some (.inl (2,())):=rfl
  have s2:A5u T9 l (2,())=B3 (T9 l nP) fun c55=>bif (decide (c55.2.1=0)) then some (.inr (false,())) else some (.inl (3,())):=rfl
  have s3:A5u T9 l (3,())=some (.inr (true,())):=rfl;have hd:∀ n:Nat,decide ((n:Int)=0)=!decide (1<=n):=fun n=>by
    by_cases h:1<=n
    · rw [A0 h,A8 (by omega)];rfl
    · rw [A8 h,A0 (by omega)];rfl
  rw [H9,s0,A4L l _ hl];simp only [bO,hd];cases decide (1<=A7R l nM l.length)
  case false=>rfl
  simp only [E0,A7];rw [H9,s1,A4L l _ hl];simp only [bO,hd];cases decide (1<=A7R l nS l.length)
  case false=>rfl
  simp only [E0,A7];rw [H9,s2,A4L l _ hl];simp only [bO,hd];cases decide (1<=A7R l nP l.length)
  case false=>rfl
  simp only [E0,A7];rw [H9,s3];rfl
theorem D1e(l:List B9)(hl:l.length<=1000000)(hn:∀ f∈l,f.1.size<=1000000000):B6E l=some (D5v l,()):=by
  simp only [B6E,C0O];obtain ⟨i,h1,h2,h3,h4⟩:=A9O (A5t A7N T9 K5 l) (fun i=>(plN l i,(i:Int),())) l.length (fun i=>if i<l.length then .inr (false,()) else .inl ()) (C8R l) (fun i hi=>by
    simp only [A9 hi];exact D1d l hl hn i hi) (by
    have h1:¬ ((l.length:Nat):Int)<(l.length:Int):=by omega
    simp only [A50,J1,A5t,A8 h1,A7])
  have h4':H8 (A5t A7N T9 K5 l) (false,0,())=some (if i<l.length then .inr (false,()) else .inl ()):=h4;rw [h4'];unfold D5v;by_cases hi:i<l.length
  · rw [A9 hi]
    have:(List.range l.length).all (C8R l)=false:=by
      rw [A8p];exact ⟨i,A1F.2 hi,by simp [h3 hi]⟩
    simp [K9,this]
  · rw [A5 hi]
    have:(List.range l.length).all (C8R l)=true:=by
      rw [C4];intro j hj;exact h2 j (by have:=A1F.1 hj;omega)
    simp only [K9,this,L2];exact E28 l hl
def opB(a:X0):Int:=
  bif ((⟨#[80,79,83,84]⟩:X0).toList == a.toList) then 1 else bif ((⟨#[72,69,65,68]⟩:X0).toList == a.toList) then 2 else bif ((⟨#[80,65,84,67,72]⟩:X0).toList == a.toList) then 3 else bif ((⟨#[80,85,84]⟩:X0).toList == a.toList) then 4 else bif ((⟨#[71,69,84]⟩:X0).toList == a.toList) then 5 else bif ((⟨#[68,69,76,69,84,69]⟩:X0).toList == a.toList) then 6 else 0
theorem D7O(a:X0):C1P a=some (opB a,()):=by
  have s1:A5P A0W a (1,())=bif ((⟨#[80,79,83,84]⟩:X0).toList == a.toList) then some (.inr (1,())) else some (.inl (2,())):=rfl
  have s2:A5P A0W a (2,())=bif ((⟨#[72,69,65,68]⟩:X0).toList == a.toList) then some (.inr (2,())) else some (.inl (3,())):=rfl
  have s3:A5P A0W a (3,())=bif ((⟨#[80,65,84,67,72]⟩:X0).toList == a.toList) then some (.inr (3,())) else some (.inl (4,())):=rfl
  have s4:A5P A0W a (4,())=bif ((⟨#[80,85,84]⟩:X0).toList == a.toList) then some (.inr (4,())) else some (.inl (5,())):=rfl
  have s5:A5P A0W a (5,())=bif ((⟨#[71,69,84]⟩:X0).toList == a.toList) then some (.inr (5,())) else some (.inl (6,())):=rfl
  have s6:A5P A0W a (6,())=bif ((⟨#[68,69,76,69,84,69]⟩:X0).toList == a.toList) then some (.inr (6,())) else some (.inl (7,())):=rfl
  have s7:A5P A0W a (7,())=some (.inr (0,())):=rfl;simp only [C1P,C5j,opB];rw [H9,s1];cases ((⟨#[80,79,83,84]⟩:X0).toList == a.toList)
  case true=>rfl
  simp only [A7];rw [H9,s2];cases ((⟨#[72,69,65,68]⟩:X0).toList == a.toList)
  case true=>rfl
  simp only [A7];rw [H9,s3];cases ((⟨#[80,65,84,67,72]⟩:X0).toList == a.toList)
  case true=>rfl
  simp only [A7];rw [H9,s4];cases ((⟨#[80,85,84]⟩:X0).toList == a.toList)
  case true=>rfl
  simp only [A7];rw [H9,s5];cases ((⟨#[71,69,84]⟩:X0).toList == a.toList)
  case true=>rfl
  simp only [A7];rw [H9,s6];cases ((⟨#[68,69,76,69,84,69]⟩:X0).toList == a.toList)
  case true=>rfl
  simp only [A7];rw [H9,s7]
abbrev nUp:X0:=⟨#[47,117,112,47]⟩
theorem C67(s:X0):A2J s nUp=some (bif decide (4<=s.size)&&((s.extract 0 4).toList == nUp.toList) then (s.extract 4 s.size,true,()) else (s,false,())):=by
  have h4:nUp.size=4:=rfl;simp only [A2J,A6T,A13,A12,A11,A10,h4];by_cases h:4<=s.size
  · rw [A0 (show (s.size:Int)>=((4:Nat):Int) by omega),A0 h]
    simp only [show decide ((0:Int)<=((4:Nat):Int))=true from rfl,B2,bO,E2,L2];cases ((s.extract 0 4).toList == nUp.toList)<;>rfl
  · rw [A8 (show ¬ (s.size:Int)>=((4:Nat):Int) by omega),A8 h]
    rfl
def C78(s:X0)(i:Nat):Bool:=decide (48<=bt s (i:Int))&&decide (bt s (i:Int)<=57)
def B4o(s:X0):Nat->Nat
  | 0=>0
  | k+1=>B4o s k*10+(bt s (k:Int)-48).toNat
theorem D5w(s:X0):∀ k,B4o s k+25<=25*10 ^ k
  | 0=>by simp [B4o]
  | k+1=>by
    have h1:=D5w s k;have h2:=C1R s (k:Int);rw [B4o,A4U];omega
def E0G(s:X0)(most:Int):Bool:=decide (1<=(s.size:Int)/\(s.size:Int)<=10)&&(List.range s.size).all (C78 s)&&decide ((B4o s s.size:Int)<=most)&&((itB (B4o s s.size:Int)).toList == s.toList)
end Go.Proofs.YthnfghmjipikhaaGreatDoor.Ev
