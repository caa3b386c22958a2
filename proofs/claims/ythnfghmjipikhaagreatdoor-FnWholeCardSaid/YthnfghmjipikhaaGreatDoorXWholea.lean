/- What the plain functions of the program and of the reference answer: laws of plain data. -/
import Derived.Test.YthnfghmjipikhaaGreatDoorPu
import Derived.Laws.Strings
import Derived.Lib.Split
import Derived.Lib.Atoi
import Derived.Lib.ItoaNum
set_option linter.unusedVariables false
set_option linter.unusedSimpArgs false
set_option linter.unusedSectionVars false
namespace Go.Proofs.YthnfghmjipikhaaGreatDoor.Ev
theorem w64{n:Int}(h0:-9223372036854775808<=n)(h1:n<9223372036854775808):IntKind.i64.wrap n=n:=by
  simp only [IntKind.wrap,IntKind.bits,IntKind.signed,Bool.true_and];simp;split<;>omega
theorem C6w{α β:Type}(f:α->Option (α⊕β))(μ:α->Nat)(I:α->Prop)(Q:β->Prop)
    (h:∀ x,I x->(∃ y,f x=some (.inl y)/\I y/\μ y<μ x)\/∃ z,f x=some (.inr z)/\Q z):∀ x,I x->∃ z,C2 f x=some z/\Q z:=by
  intro x;generalize hn:μ x=n
  induction n using Nat.strongRecOn generalizing x with
  | ind n ih=>
    intro hx;rw [C3];rcases h x hx with ⟨y,e,hy,hl⟩ | ⟨z,e,hz⟩
    · rw [e];exact ih (μ y) (by omega) y rfl hy
    · rw [e];exact ⟨z,rfl,hz⟩
theorem N6{α β:Type}(f:α->Option (α⊕β))(s:Nat->α)(n:Nat)(z:β)(h:∀ i,i<n->f (s i)=some (.inl (s (i+1))))(he:f (s n)=some (.inr z)):C2 f (s 0)=some z:=by
  have key:∀ k i,i+k=n->C2 f (s i)=some z:=by
    intro k
    induction k with
    | zero=>intro i hi;rw [C3,show i=n by omega,he]
    | succ k ih=>intro i hi;rw [C3,h i (by omega)];exact ih (i+1) (by omega)
  exact key n 0 (by omega)
theorem A5T{α β:Type}(f:α->Option (α⊕β))(s:Nat->α)(n:Nat)(z:Nat->β)(go:Nat->Bool)(h:∀ i,i<n->f (s i)=if go i then some (.inl (s (i+1))) else some (.inr (z i)))(he:f (s n)=some (.inr (z n))) :
    ∃ i,i<=n/\(∀ j,j<i->go j=true)/\(i<n->go i=false)/\C2 f (s 0)=some (z i):=by
  have key:∀ k i,i+k=n->(∀ j,j<i->go j=true)->∃ i',i'<=n/\(∀ j,j<i'->go j=true)/\(i'<n->go i' = false)/\C2 f (s i)=some (z i'):=by
    intro k
    induction k with
    | zero=>
      intro i hi hg;obtain rfl:i=n:=by omega
      exact ⟨i,Nat.le_refl _,hg,fun h=>absurd h (by omega),by rw [C3,he]⟩
    | succ k ih=>
      intro i hi hg;cases hgo:go i with
      | true=>
        obtain ⟨i',h1,h2,h3,h4⟩:=ih (i+1) (by omega) (fun j hj=>by
          by_cases h:j<i
          · exact hg j h
          · rw [show j=i by omega];exact hgo)
        refine ⟨i',h1,h2,h3,?_⟩;rw [C3,h i (by omega),if_pos hgo];exact h4
      | false=>
        refine ⟨i,by omega,hg,fun _=>hgo,?_⟩;rw [C3,h i (by omega),hgo];rfl
  exact key n 0 (by omega) (fun j hj=>by omega)
theorem D01(s:X0)(i:Int):0<=bt s i:=by unfold bt;omega
theorem B7R(s:X0)(i:Int):bt s i<256:=by
  have:=(s.data.toList.getD i.toNat 0).toNat_lt;unfold bt;omega
theorem A6O{k:K}{xs:List k.T}{i:Nat}(h:i<xs.length):rd k xs (i:Int)=xs[i]:=by
  unfold rd;rw [Int.toNat_natCast];simp [List.getD,h]
theorem C85{κ:IntKind}{xs:List Int}{i:Nat}(h:i<xs.length):rd (.int κ) xs (i:Int)=xs[i]:=A6O (k:=.int κ) h
theorem E3E{xs:List X0}{i:Nat}(h:i<xs.length):rd .str xs (i:Int)=xs[i]:=A6O (k:=.str) h
def Byt(a:List Int):Prop:=∀ x∈a,0<=x/\x<256
theorem A0{p:Prop} [Decidable p] (h:p):decide p=true:=decide_eq_true h
theorem A3{p:Prop} [Decidable p] (h:¬ p):decide p=false:=decide_eq_false h
def K2(go:Nat->Bool):Nat->Nat->Nat
  | i,0=>i
  | i,k+1=>if go i then K2 go (i+1) k else i
theorem C70(go:Nat->Bool):∀ k i,K2 go i k<=i+k
  | 0,i=>Nat.le_refl _
  | k+1,i=>by
    simp only [K2];split
    · have:=C70 go k (i+1);omega
    · omega
theorem B1u(go:Nat->Bool):∀ k i,K2 go i k<i+k->go (K2 go i k)=false
  | 0,i,h=>by simp [K2] at h
  | k+1,i,h=>by
    simp only [K2] at h ⊢;split
    · rename_i hg
      rw [if_pos hg] at h;exact B1u go k (i+1) (by omega)
    · rename_i hg
      simpa using hg
theorem B3c{α β:Type}(f:α->Option (α⊕β))(s:Nat->α)(n:Nat)(z:Nat->β)(go:Nat->Bool)(h:∀ i,i<n->f (s i)=if go i then some (.inl (s (i+1))) else some (.inr (z i)))(he:f (s n)=some (.inr (z n))) :
    C2 f (s 0)=some (z (K2 go 0 n)):=by
  have key:∀ k i,i+k=n->C2 f (s i)=some (z (K2 go i k)):=by
    intro k
    induction k with
    | zero=>
      intro i hi;obtain rfl:i=n:=by omega
      rw [C3,he];rfl
    | succ k ih=>
      intro i hi;rw [C3,h i (by omega)];simp only [K2];cases go i with
      | true=>simp only [if_true];exact ih (i+1) (by omega)
      | false=>rfl
  exact key n 0 (by omega)
theorem E2U(L:Int×Unit->Option ((Int×Unit)⊕(Bool×Unit)))(n:Nat)(hn:n<=maxLen)(go:Nat->Bool)(hs:∀ i:Nat,i<n->L ((i:Int),())=bif go i then some (.inl (IntKind.i64.wrap ((i:Int)+1),())) else some (.inr (false,())))
    (he:L ((n:Int),())=some (.inr (true,()))):C2 L (0,())=some ((List.range n).all go,()):=by
  have h:=B3c L (fun i=>((i:Int),())) n (fun i=>(decide (i=n),())) go (fun i hi=>by
    rw [hs i hi,w64 (by omega) (by simp only [maxLen] at hn;omega)];cases go i with
    | true=>rfl
    | false=>simp only [Bool.false_eq_true,if_false,cond_false];rw [A3 (by omega)]) (by rw [he];simp)
  have h':C2 L (0,())=some (decide (K2 go 0 n=n),()):=h;rw [h'];have key:∀ k i,decide (K2 go i k=i+k)=((List.range k).all fun j=>go (i+j)):=by
    intro k
    induction k with
    | zero=>intro i;simp [K2]
    | succ k ih=>
      intro i;have e:((List.range (k+1)).all fun j=>go (i+j))=(go i&&(List.range k).all fun j=>go (i+1+j)):=by
        rw [List.range_succ_eq_map,List.all_cons,List.all_map];simp only [Nat.add_zero]
        congr 2
        funext j
        simp only [Function.comp]
        congr 1
        omega
      rw [e,<- ih (i+1)];by_cases hg:go i=true
      · have e1:K2 go i (k+1)=K2 go (i+1) k:=by simp only [K2];rw [if_pos hg]
        rw [Bool.eq_iff_iff,hg];simp only [decide_eq_true_eq,Bool.true_and,e1];omega
      · have e1:K2 go i (k+1)=i:=by simp only [K2];rw [if_neg hg]
        rw [Bool.eq_iff_iff];simp only [decide_eq_true_eq,Bool.and_eq_true,e1];constructor
        · intro h;omega
        · intro h;exact absurd h.1 hg
  have k0:=key n 0;simp only [Nat.zero_add] at k0;rw [k0]
abbrev D9a:=X0×List Int×Int×Int
theorem D5P(a b c:Int):B7Q a b c=some (decide (b<=a/\a<=c),()):=by
  simp only [B7Q,C9q];by_cases h:b<=a<;>by_cases h2:a<=c<;>simp [h,h2]
theorem F7(a b c:Int):C0 a b c=some (decide (b<=a/\a<=c),()):=D5P a b c
def D32(s:X0)(i:Nat):Bool:=decide (97<=bt s i/\bt s i<=122)||decide (48<=bt s i/\bt s i<=57)
def idB(s:X0):Bool:=(List.range s.size).all (D32 s)&&decide (1<=(s.size:Int)/\(s.size:Int)<=8)
theorem D6u(s:X0)(h:s.size<=maxLen)(i:Nat)(hi:i<s.size):B1O s ((i:Int),())=if D32 s i then some (.inl (((i+1:Nat):Int),())) else some (.inr (.inr (false,()))):=by
  have h1:((i:Int)<(s.size:Int)):=by omega
  have h2:(0:Int)<=(i:Int):=by omega
  simp only [B1O,A0 h1,A0 h2,cond_true];rw [w64 (by omega) (by simp only [maxLen] at h;omega)];unfold D32;by_cases a:bt s i>=97<;>by_cases b:bt s i<=122<;>by_cases c:bt s i>=48<;>by_cases d:bt s i<=57<;>simp [a,b,c,d]
theorem E3u{s:X0}{f:Int×Unit->Option ((Int×Unit)⊕(Unit⊕(Bool×Unit)))}(hs:∀ i:Nat,i<s.size->f ((i:Int),())=if D32 s i then some (.inl (((i+1:Nat):Int),())) else some (.inr (.inr (false,()))))
    (he:f ((s.size:Int),())=some (.inr (.inl ()))) (g:Unit->Option (Bool×Unit)) (hg:g ()=some (decide (1<=(s.size:Int)/\(s.size:Int)<=8),())):D7 (C2 f (0,())) g=some (idB s,()):=by
  obtain ⟨i,h1,h2,h3,h4⟩:=A5T f (fun i=>((i:Int),())) s.size (fun i=>if i<s.size then .inr (false,()) else .inl ()) (D32 s) (fun i hi=>by
    simp only [if_pos hi];exact hs i hi) (by simp only [Nat.lt_irrefl,if_false];exact he)
  have h4':C2 f (0,())=some (if i<s.size then .inr (false,()) else .inl ()):=h4;rw [h4'];unfold idB;by_cases hi:i<s.size
  · rw [if_pos hi]
    have:(List.range s.size).all (D32 s)=false:=by
      rw [List.all_eq_false];exact ⟨i,List.mem_range.2 hi,by simp [h3 hi]⟩
    simp [D7,this]
  · rw [if_neg hi]
    have:(List.range s.size).all (D32 s)=true:=by
      rw [List.all_eq_true];intro j hj;exact h2 j (by have:=List.mem_range.1 hj;omega)
    simp only [D7,this,hg,Bool.true_and]
theorem D5Q(s:X0)(h:s.size<=maxLen):A7U s=some (idB s,()):=by
  simp only [A7U,C2o];exact E3u (D6u s h) (by simp [B1O]) _ (by simp only [F7,A4])
theorem D9b{R:Type}(a:Option R):eqO a a=a:=by
  unfold eqO;rw [if_pos rfl]
theorem C5J(a:List Int)(h:a.length<=140737488355328):A9 a=some (a,()):=by
  simp only [A9,R0];have e:(bif decide (([]:List Int).length+a.length<=9223372036854775807) then bif decide ((([]:List Int).length+a.length)*1<=140737488355328) then some (([]++a),()) else none else none)=some (a,()):=by
    rw [A0 (by simp;omega),A0 (by simp;omega)];simp
  rw [e];cases a with
  | nil=>simp [D9b]
  | cons x xs=>simp
def C71(n:Int)(k j:Nat):Int:=IntKind.u8.wrap (n.fdiv (2 ^ (8*(k-1-j))))
def big(n:Int)(k:Nat):List Int:=(List.range k).map (C71 n k)
theorem A2U(n:Int)(k:Nat):(big n k).length=k:=by simp [big]
theorem E4j{n:Int}(h0:0<=n)(h1:n<18446744073709551616):IntKind.u64.wrap n=n:=by
  simp only [IntKind.wrap,IntKind.bits,IntKind.signed];simp;omega
theorem E1m(v:Int)(b:List Int)(k:Nat)(hk:k<=8)(hb:b.length+8<=140737488355328):C2 (A12 (v,())) ((k:Int)-1,b,())=some (b++big v k,()):=by
  have key:=N6 (A12 (v,())) (fun j=>((k:Int)-1-(j:Int),b++(List.range j).map (C71 v k),())) k (b++big v k,()) (fun j hj=>?_) ?_
  · simpa using key
  · have h1:(k:Int)-1-(j:Int)>=0:=by omega
    have e1:(k:Int)-1-(j:Int)=((k-1-j:Nat):Int):=by omega
    have hs:IntKind.u64.wrap (IntKind.i64.wrap (8*((k:Int)-1-(j:Int))))=((8*(k-1-j):Nat):Int):=by
      rw [w64 (by omega) (by omega),E4j (by omega) (by omega)];omega
    have hm:min (8*(k-1-j)) IntKind.i64.bits=8*(k-1-j):=Nat.min_eq_left (by simp only [IntKind.bits];omega);simp only [A12,A0 h1,cond_true,hs,Int.toNat_natCast,hm];rw [A3 (by omega)];simp only [cond_false];have hl:(b++(List.range j).map (C71 v k)).length=b.length+j:=by simp
    rw [A0 (by rw [hl];simp;omega),A0 (by rw [hl];simp;omega)];simp only [cond_true];rw [w64 (by omega) (by omega),List.range_succ,List.map_append,List.append_assoc];have e2:(k:Int)-1-(j:Int)-1=(k:Int)-1-((j+1:Nat):Int):=by omega
    rw [e2];rfl
  · have h1:¬ ((k:Int)-1-(k:Int)>=0):=by omega
    simp only [A12,A3 h1,cond_false];rfl
def B0E(n:Int):Int:=if n<0 then 0 else n
theorem A8u(b:List Int)(n:Int)(k:Nat)(hk:k<=8)(hb:b.length+8<=140737488355328):A3t b n (k:Int)=some (b++big (B0E n) k,()):=by
  simp only [A3t,B6Q];have e:B1V n=A12 (B0E n,()):=by
    funext l
    have:(bif decide (0>n) then (0:Int) else n)=B0E n:=by
      unfold B0E;by_cases h:n<0<;>simp [h]
    simp only [B1V,A12,this]
  rw [e,w64 (by omega) (by omega)];exact E1m _ b k hk hb
abbrev Frame:=Int×Int×Int×List Int
def J6(f:Frame):Bool:=decide (0<=f.1/\f.1<=255)&&decide (0<=f.2.1/\f.2.1<=255)&&decide (0<=f.2.2.1/\f.2.2.1<=2147483647)&&decide ((f.2.2.2.length:Int)<=1000)
def E5(f:Frame):List Int:=big (f.2.2.2.length:Int) 3 ++ [IntKind.u8.wrap f.1,IntKind.u8.wrap f.2.1]++big (B0E f.2.2.1) 4++f.2.2.2
theorem A3U(b:List Int)(f:Frame)(h:b.length+f.2.2.2.length+24<=140737488355328):E3 b f=some (b++E5 f,()):=by
  simp only [E3,B1W];rw [show (3:Int)=((3:Nat):Int) from rfl,A8u b _ 3 (by omega) (by omega)];have hc:B0E (f.2.2.2.length:Int)=(f.2.2.2.length:Int):=by unfold B0E;rw [if_neg (by omega)]
  simp only [A4,hc];have hl:=A2U (f.2.2.2.length:Int) 3;rw [A0 (by simp [hl];omega),A0 (by simp [hl];omega)];simp only [cond_true];rw [show (4:Int)=((4:Nat):Int) from rfl,A8u _ _ 4 (by omega) (by simp [hl];omega)];simp only [A4];have hl4:=A2U (B0E f.2.2.1) 4;rw [A0 (by simp [hl,hl4];omega),A0 (by simp [hl,hl4];omega)];simp [E5]
theorem D33{n:Nat}(h:n<9223372036854775808):IntKind.i64.wrap (n:Int)=(n:Int):=w64 (by omega) (by omega)
theorem bits_nat{w x:Nat}(h:x<2 ^ w):(BitVec.ofInt w (x:Int)).toNat=x:=by
  rw [BitVec.ofInt_natCast,BitVec.toNat_ofNat];exact Nat.mod_eq_of_lt h
theorem B7S{a:List Int}(h:Byt a)(i:Nat):Byt (a.take i):=fun x hx=>h x (List.mem_of_mem_take hx)
abbrev E3v:=Int×Int
def B1v(r:E3v):Bool:=decide (100<=r.1/\r.1<=599)&&decide (-1<=r.2/\r.2<=1000000000)
theorem B3d(r:E3v):A0v r=some (B1v r,()):=by
  simp only [A0v,B6U,F7,A4,B1v];cases decide (100<=r.1/\r.1<=599)<;>simp
def far(c:D9a)(off:Int):D9a:=if 0<=off/\off<=(c.2.1.length:Int) then (if off=(c.2.1.length:Int) then (c.1,c.2.1,4,off) else (c.1,c.2.1,3,off)) else (c.1,c.2.1,6,c.2.2.2)
theorem E3F{x y:Int}(hx:0<=x/\x<256)(hy:0<=y/\y<256)(h:UInt8.ofNat x.toNat=UInt8.ofNat y.toNat):x=y:=by
  have:=congrArg UInt8.toNat h;simp only [UInt8.toNat_ofNat'] at this;omega
def B92(c:Q4)(i:Nat):Bool:=
  decide ((rd F5 c.2.2.2.2.2.1 (i:Int)).1.tmod 2=1)&&decide (1<=(rd F5 c.2.2.2.2.2.1 (i:Int)).1/\(rd F5 c.2.2.2.2.2.1 (i:Int)).1<=c.2.2.2.2.2.2.1) &&
  (decide (i=0)||!decide ((rd F5 c.2.2.2.2.2.1 (i:Int)).1<=(rd F5 c.2.2.2.2.2.1 ((i:Int)-1)).1)) &&
  (decide ((rd F5 c.2.2.2.2.2.1 (i:Int)).2.1=1)||decide ((rd F5 c.2.2.2.2.2.1 (i:Int)).2.1=2))&&!decide ((List.length (rd F5 c.2.2.2.2.2.1 (i:Int)).2.2.2:Int)>2000)
theorem E1n{L:Int×Unit->Option ((Int×Unit)⊕(Unit⊕(Bool×Unit)))}{n:Nat}{go:Nat->Bool}(hs:∀ i:Nat,i<n->L ((i:Int),())=bif go i then some (.inl (((i+1:Nat):Int),())) else some (.inr (.inr (false,()))))
    (he:L ((n:Int),())=some (.inr (.inl ()))) (g:Unit->Option (Bool×Unit)) (b:Bool) (hg:g ()=some (b,())):D7 (C2 L (0,())) g=some (decide (K2 go 0 n=n)&&b,()):=by
  have h:=B3c L (fun i=>((i:Int),())) n (fun i=>if i=n then .inl () else .inr (false,())) go (fun i hi=>by
    rw [hs i hi];cases go i with
    | true=>rfl
    | false=>simp only [Bool.false_eq_true,if_false,cond_false];rw [if_neg (by omega)]) (by rw [he,if_pos rfl])
  have h':C2 L (0,())=_:=h;rw [h'];by_cases hn:K2 go 0 n=n
  · rw [if_pos hn,A0 hn];simp [D7,hg]
  · rw [if_neg hn,A3 hn];simp [D7]
theorem D02(c:Q4)(h:c.2.2.2.2.2.1.length<=maxLen)(i:Nat)(hi:i<c.2.2.2.2.2.1.length):A71 C0 c ((i:Int),())=bif B92 c i then some (.inl (((i+1:Nat):Int),())) else some (.inr (.inr (false,()))):=by
  have h1:((i:Int)<(c.2.2.2.2.2.1.length:Int)):=by omega
  have h2:(0:Int)<=(i:Int):=by omega
  simp only [maxLen] at h;simp only [A71,A0 h1,A0 h2,cond_true,F7,A4,B92];rw [w64 (n:=(i:Int)+1) (by omega) (by omega),w64 (n:=(i:Int)-1) (by omega) (by omega)];have e1:((i+1:Nat):Int)=(i:Int)+1:=by omega
  rw [e1];by_cases hz:i=0
  · have g1:¬ (i:Int)>0:=by omega
    simp only [A3 g1,A0 hz,cond_false,Bool.true_or,Bool.and_true];generalize decide ((rd F5 c.2.2.2.2.2.1 (i:Int)).1.tmod 2=1)=x1;generalize decide (1<=(rd F5 c.2.2.2.2.2.1 (i:Int)).1/\(rd F5 c.2.2.2.2.2.1 (i:Int)).1<=c.2.2.2.2.2.2.1)=x2;generalize decide ((rd F5 c.2.2.2.2.2.1 (i:Int)).2.1=1)=x4;generalize decide ((rd F5 c.2.2.2.2.2.1 (i:Int)).2.1=2)=x5;generalize decide ((List.length (rd F5 c.2.2.2.2.2.1 (i:Int)).2.2.2:Int)>2000)=x6;cases x1<;>cases x2<;>cases x4<;>cases x5<;>cases x6<;>rfl
  · have g1:(i:Int)>0:=by omega
    have g2:(0:Int)<=(i:Int)-1:=by omega
    have g3:(i:Int)-1<(c.2.2.2.2.2.1.length:Int):=by omega
    simp only [A0 g1,A0 g2,A0 g3,A3 hz,cond_true,Bool.false_or];generalize decide ((rd F5 c.2.2.2.2.2.1 (i:Int)).1.tmod 2=1)=x1;generalize decide (1<=(rd F5 c.2.2.2.2.2.1 (i:Int)).1/\(rd F5 c.2.2.2.2.2.1 (i:Int)).1<=c.2.2.2.2.2.2.1)=x2;generalize decide ((rd F5 c.2.2.2.2.2.1 (i:Int)).1<=(rd F5 c.2.2.2.2.2.1 ((i:Int)-1)).1)=x3;generalize decide ((rd F5 c.2.2.2.2.2.1 (i:Int)).2.1=1)=x4;generalize decide ((rd F5 c.2.2.2.2.2.1 (i:Int)).2.1=2)=x5;generalize decide ((List.length (rd F5 c.2.2.2.2.2.1 (i:Int)).2.2.2:Int)>2000)=x6;cases x1<;>cases x2<;>cases x3<;>cases x4<;>cases x5<;>cases x6<;>rfl
def D9c(c:Q4):Bool:=decide (K2 (B92 c) 0 c.2.2.2.2.2.1.length=c.2.2.2.2.2.1.length)&&decide ((c.2.2.2.2.2.1.length:Int)<=100)
theorem D6v(c:Q4)(h:c.2.2.2.2.2.1.length<=maxLen):A7c c=some (D9c c,()):=by
  simp only [A7c,B6S];exact E1n (D02 c h) (by simp [A71]) _ _ rfl
theorem D5R{x y:Nat}(hx:x<9223372036854775808)(hy:y<9223372036854775808):bOr .i64 (x:Int) (y:Int)=((x ||| y:Nat):Int):=by
  have h:x ||| y<2 ^ 63:=Nat.or_lt_two_pow (by omega) (by omega);unfold bOr;rw [BitVec.toNat_or,bits_nat (by simp only [IntKind.bits];omega),bits_nat (by simp only [IntKind.bits];omega)];exact D33 (by omega)
def H2(b:List Int)(at_:Nat):Nat->Nat
  | 0=>0
  | j+1=>(H2 b at_ j*256) ||| (b.getD (at_+j) 0).toNat
theorem C32{b:List Int}(hb:Byt b)(i:Nat):0<=b.getD i 0/\b.getD i 0<256:=by
  by_cases h:i<b.length
  · simp only [List.getD,List.getElem?_eq_getElem h,Option.getD_some]
    exact hb _ (List.getElem_mem h)
  · simp only [List.getD,List.getElem?_eq_none (show b.length<=i by omega),Option.getD_none]
    omega
theorem C1o{b:List Int}(hb:Byt b)(at_:Nat):∀ j,H2 b at_ j<2 ^ (8*j)
  | 0=>by simp [H2]
  | j+1=>by
    have h1:=C1o hb at_ j;have h2:=C32 hb (at_+j);have e:2 ^ (8*(j+1))=2 ^ (8*j)*256:=by rw [show 8*(j+1)=8*j+8 by omega,Nat.pow_add]
    refine Nat.or_lt_two_pow ?_ ?_
    · rw [e];exact Nat.mul_lt_mul_of_pos_right h1 (by omega)
    · have:1<=2 ^ (8*j):=Nat.one_le_two_pow
      rw [e];omega
theorem D9d{b:List Int}(hb:Byt b)(at_ j:Nat)(hj:j<7)(x:Int)(hx:x=b.getD (at_+j) 0):bOr .i64 (IntKind.i64.wrap (((H2 b at_ j:Nat):Int)*256)) (IntKind.i64.wrap x)=((H2 b at_ (j+1):Nat):Int):=by
  have h1:=C1o hb at_ j;have h2:=C32 hb (at_+j);have h3:2 ^ (8*j)<=2 ^ 48:=Nat.pow_le_pow_right (by omega) (by omega);subst hx;rw [show ((H2 b at_ j:Nat):Int)*256=((H2 b at_ j*256:Nat):Int) by omega,D33 (by omega),show b.getD (at_+j) 0=(((b.getD (at_+j) 0).toNat:Nat):Int) by omega,D33 (by omega),D5R (by omega) (by omega)];simp only [H2,Int.toNat_natCast]
def A7t(b:List Int)(a:Int)(k:Nat):Int×Bool×Unit:=if 0<=a/\a<=(b.length:Int)-k then ((H2 b a.toNat k:Int),true,()) else (0,false,())
theorem B1w(b:List Int)(hb:Byt b)(h:b.length<=2000000000)(a:Int)(k:Nat)(hk:1<=k/\k<=7):A1v b a (k:Int)=some (A7t b a k):=by
  simp only [A1v,B6R,F7,A4,A7t];rw [A0 (show (1:Int)<=(k:Int)/\(k:Int)<=7 by omega),w64 (n:=(b.length:Int)-(k:Int)) (by omega) (by omega)];simp only [Bool.not_true,cond_false];by_cases h1:a<0
  · rw [A0 h1,if_neg (by omega)];rfl
  rw [A3 h1];by_cases h2:a>(b.length:Int)-k
  · rw [A0 h2,if_neg (by omega)];rfl
  rw [A3 h2,if_pos (by omega)];simp only [cond_false,D7];rw [w64 (n:=a+(k:Int)) (by omega) (by omega),A0 (show 0<=a by omega),A0 (show a<=a+(k:Int) by omega),A0 (show a+(k:Int)<=(b.length:Int) by omega)];simp only [cond_true];have hlen:((b.take (a+(k:Int)).toNat).drop a.toNat).length=k:=by simp;omega
  have key:=N6 (A4T b a (k:Int)) (fun j=>((H2 b a.toNat j:Int),(j:Int),())) k ((H2 b a.toNat k:Int),()) (fun j hj=>?_) ?_
  · have e:C2 (A4T b a (k:Int)) (0,0,())=_:=key
    rw [e]
  · have g1:(j:Int)<(k:Int):=by omega
    have g2:(0:Int)<=(j:Int):=by omega
    simp only [A4T];rw [w64 (n:=a+(k:Int)) (by omega) (by omega)];simp only [hlen,A0 g1,A0 g2,cond_true];rw [D9d hb a.toNat j (by omega) _ (by
      rw [C85 (by rw [hlen];exact hj)];simp [List.getD,show a.toNat+j<b.length by omega]),show (j:Int)+1=((j+1:Nat):Int) by omega,D33 (by omega)]
  · simp only [A4T]
    rw [w64 (n:=a+(k:Int)) (by omega) (by omega)];simp [hlen]
def A3V(b:List Int)(a:Int):B0×Int×Int×Unit:=
  if 0<=a/\a<=(b.length:Int)-9 then
    (if (H2 b a.toNat 3:Int)>1000 then ((0,0,0,[]),a,2,())
      else if (H2 b a.toNat 3:Int)>(b.length:Int)-a-9 then ((0,0,0,[]),a,1,())
      else ((rd (.int .u8) b (a+3),rd (.int .u8) b (a+4),M5 .i64 (H2 b (a+5).toNat 4:Int) 2147483647,(b.take (a+9+(H2 b a.toNat 3:Int)).toNat).drop (a+9).toNat),a+9+(H2 b a.toNat 3:Int),0,()))
  else ((0,0,0,[]),a,1,())
theorem D5S{b:List Int}(hb:Byt b){i:Int}(h0:0<=i)(h1:i<(b.length:Int)):IntKind.i64.wrap (rd (.int .u8) b i)=rd (.int .u8) b i:=by
  obtain ⟨n,rfl⟩:∃ n:Nat,i=(n:Int):=⟨i.toNat,by omega⟩;rw [C85 (by omega)];have:=hb b[n] (List.getElem_mem (by omega));exact w64 (by omega) (by omega)
theorem A7u(b:List Int)(hb:Byt b)(h:b.length<=2000000000)(a:Int)(ha:-9223372036854775808<=a/\a<9223372036854775808):O7 b a=some (A3V b a):=by
  simp only [O7,B1b];rw [w64 (n:=(b.length:Int)-9) (by omega) (by omega)];simp only [A3V];by_cases h1:a<0
  · rw [A0 h1,if_neg (by omega)];rfl
  rw [A3 h1];by_cases h2:a>(b.length:Int)-9
  · rw [A0 h2,if_neg (by omega)];rfl
  rw [A3 h2,if_pos (by omega)];have hn:=C1o hb a.toNat 3;simp only [cond_false,D7];rw [show (3:Int)=((3:Nat):Int) from rfl,B1w b hb h a 3 (by omega),show (4:Int)=((4:Nat):Int) from rfl,B1w b hb h _ 4 (by omega)];have e3:A7t b a 3=((H2 b a.toNat 3:Int),true,()):=by unfold A7t;rw [if_pos (by omega)]
  have e5:IntKind.i64.wrap (a+5)=a+5:=w64 (by omega) (by omega);have e4:A7t b (a+5) 4=((H2 b (a+5).toNat 4:Int),true,()):=by unfold A7t;rw [if_pos (by omega)]
  have w9:IntKind.i64.wrap (a+9)=a+9:=w64 (by omega) (by omega);simp only [A4,e5,e3,e4,w9];by_cases h3:(H2 b a.toNat 3:Int)>1000
  · rw [A0 h3,if_pos h3];rfl
  rw [A3 h3,if_neg h3,w64 (n:=(b.length:Int)-(a+9)) (by omega) (by omega)];by_cases h4:(H2 b a.toNat 3:Int)>(b.length:Int)-a-9
  · rw [A0 (show (H2 b a.toNat 3:Int)>(b.length:Int)-(a+9) by omega),if_pos h4];rfl
  rw [A3 (show ¬ (H2 b a.toNat 3:Int)>(b.length:Int)-(a+9) by omega),if_neg h4];simp only [cond_false];have w3:IntKind.i64.wrap (a+((3:Nat):Int))=a+3:=w64 (by omega) (by omega);have w4:IntKind.i64.wrap (a+((4:Nat):Int))=a+4:=w64 (by omega) (by omega);have wn:IntKind.i64.wrap (a+9+(H2 b a.toNat 3:Int))=a+9+(H2 b a.toNat 3:Int):=w64 (by omega) (by omega);simp only [w3,w4,wn];rw [A0 (show 0<=a+3 by omega),A0 (show a+3<(b.length:Int) by omega),A0 (show 0<=a+4 by omega),A0 (show a+4<(b.length:Int) by omega),A0 (show 0<=a+9 by omega),A0 (show a+9<=a+9+(H2 b a.toNat 3:Int) by omega),A0 (show a+9+(H2 b a.toNat 3:Int)<=(b.length:Int) by omega)];simp only [cond_true];rw [C5J _ (by simp;omega),D5S hb (show 0<=a+3 by omega) (by omega),D5S hb (show 0<=a+4 by omega) (by omega)];rfl
theorem D03(b:List Int)(hb:Byt b)(h:b.length<=1048576)(a:Int)(k:Nat)(hk:1<=k/\k<=7):A1v b a (k:Int)=some (A7t b a k):=B1w b hb (by omega) a k hk
theorem B20(xs:List Int):(strOf xs).size=xs.length:=strOfNums_size xs
theorem D04(x:Int):0<=M5 .i64 x 255/\M5 .i64 x 255<=255:=by
  unfold M5;have h:(BitVec.ofInt IntKind.i64.bits x &&& BitVec.ofInt IntKind.i64.bits 255).toNat<=255:=by
    rw [BitVec.toNat_and];have:(BitVec.ofInt IntKind.i64.bits (255:Int)).toNat=255:=bits_nat (w:=64) (x:=255) (by omega);rw [this];exact Nat.and_le_right
  rw [D33 (by omega)];omega
def Cur(c:F9):Prop:=List.length c.1<=1048576/\0<=c.2.1/\c.2.1<=1048576
theorem B0F(c:F9)(h:Cur c):∃ r c',A20 c=some (r,c',())/\Cur c'/\0<=r/\r<=255:=by
  obtain ⟨h1,h2,h3⟩:=h;simp only [A20,B6V];by_cases hi:c.2.1<(List.length c.1:Int)
  · simp only [A0 hi,A0 h2,cond_true]
    refine ⟨_,_,rfl,⟨h1,?_,?_⟩,D04 _⟩
    · simp only;rw [w64 (by omega) (by omega)];omega
    · simp only;rw [w64 (by omega) (by omega)];omega
  · simp only [A3 hi,cond_false]
    exact ⟨_,_,rfl,⟨h1,h2,h3⟩,D04 _⟩
theorem A7v(c:F9)(n:Int)(h:Cur c)(hn:0<n/\n<9223372036854775808):∃ r c',N5 c n=some (r,c',())/\Cur c'/\0<=r/\r<n:=by
  simp only [N5,B3P];rw [A3 (show ¬ n<=0 by omega)];have hz:(n == 0)=false:=by simp;omega
  simp only [cond_false,hz];by_cases h1:n<=256
  · rw [A0 h1]
    obtain ⟨r,c',e,hc,hr⟩:=B0F c h;simp only [cond_true,e,A4];refine ⟨_,_,rfl,hc,?_⟩;rw [Int.tmod_eq_emod_of_nonneg hr.1];exact ⟨Int.emod_nonneg _ (by omega),Int.emod_lt_of_pos _ (by omega)⟩
  · rw [A3 h1]
    obtain ⟨r1,c1,e1,hc1,hr1⟩:=B0F c h;obtain ⟨r2,c2,e2,hc2,hr2⟩:=B0F c1 hc1;obtain ⟨r3,c3,e3,hc3,hr3⟩:=B0F c2 hc2;simp only [cond_false,e1,e2,e3,A4];refine ⟨_,_,rfl,hc3,?_⟩;rw [w64 (n:=r1*65536) (by omega) (by omega),w64 (n:=r2*256) (by omega) (by omega),w64 (n:=r1*65536+r2*256) (by omega) (by omega),w64 (n:=r1*65536+r2*256+r3) (by omega) (by omega)];rw [Int.tmod_eq_emod_of_nonneg (by omega)];exact ⟨Int.emod_nonneg _ (by omega),Int.emod_lt_of_pos _ (by omega)⟩
theorem D9e(c:F9)(xs:List X0)(h:Cur c)(hx:0<xs.length/\xs.length<=1048576):∃ s c',B0B c xs=some (s,c',())/\Cur c'/\s∈xs:=by
  obtain ⟨r,c',e,hc,h0,h1⟩:=A7v c (xs.length:Int) h (by omega);simp only [B0B,B8w,e,A4,A0 h0,A0 h1,cond_true];refine ⟨_,_,rfl,hc,?_⟩;obtain ⟨n,rfl⟩:∃ n:Nat,r=(n:Int):=⟨r.toNat,by omega⟩;rw [E3E (by omega)];exact List.getElem_mem _
theorem B7T(c:F9)(xs:List Int)(h:Cur c)(hx:0<xs.length/\xs.length<=1048576):∃ s c',A2K c xs=some (s,c',())/\Cur c'/\s∈xs:=by
  obtain ⟨r,c',e,hc,h0,h1⟩:=A7v c (xs.length:Int) h (by omega);simp only [A2K,B8v,e,A4,A0 h0,A0 h1,cond_true];refine ⟨_,_,rfl,hc,?_⟩;obtain ⟨n,rfl⟩:∃ n:Nat,r=(n:Int):=⟨r.toNat,by omega⟩;rw [C85 (by omega)];exact List.getElem_mem _
theorem wrap_u8(x:Int):0<=IntKind.u8.wrap x/\IntKind.u8.wrap x<256:=by
  simp only [IntKind.wrap,IntKind.bits,IntKind.signed];simp;omega
theorem D34(c:F9)(n:Int)(h:Cur c)(hn:0<=n/\n<=1048576):∃ b c',A0j c n=some (b,c',())/\Cur c'/\(List.length b:Int)=n/\Byt b:=by
  simp only [A0j,A5R];obtain ⟨z,e,hz⟩:=C6w (A42 A20 n) (fun l=>(n-l.1).toNat) (fun l=>0<=l.1/\l.1<=n/\Cur (l.2.1,l.2.2.1,l.2.2.2.1)/\(List.length l.2.2.2.2.1:Int)=l.1/\Byt l.2.2.2.2.1)
    (fun z=>Cur z.2.1/\(List.length z.1:Int)=n/\Byt z.1) (fun l hl=>by
      obtain ⟨h0,h1,hc,hlen,hb⟩:=hl;simp only [A42];by_cases hi:l.1<n
      · obtain ⟨r,c',e,hc',hr⟩:=B0F _ hc
        refine .inl ⟨(l.1+1,c'.1,c'.2.1,c'.2.2,l.2.2.2.2.1 ++ [IntKind.u8.wrap r],()),?_,⟨by simp only;omega,by simp only;omega,hc',by simp;omega,?_⟩,by simp only;omega⟩
        · rw [A0 hi,e]
          simp only [cond_true,A4];rw [A0 (by simp;omega),A0 (by simp;omega),w64 (by omega) (by omega)];rfl
        · intro x hx
          rcases List.mem_append.1 hx with hx | hx
          · exact hb x hx
          · rw [List.mem_singleton.1 hx];exact wrap_u8 _
      · rw [A3 hi]
        exact .inr ⟨_,rfl,hc,by simp only;omega,hb⟩) (0,c.1,c.2.1,c.2.2,[],()) ⟨by simp,hn.1,h,by simp,fun x hx=>by cases hx⟩
  exact ⟨z.1,z.2.1,e,hz⟩
theorem D05(a:List Int)(h:a.length<=1048576):∃ c,A5K a=some (c,())/\Cur c:=by
  simp only [A5K,B8u];obtain ⟨z,e,_⟩:=C6w (B3O a) (fun l=>((a.length:Int)-l.2.1).toNat) (fun l=>0<=l.2.1) (fun _=>True) (fun l hl=>by
    simp only [B3O];by_cases hi:l.2.1<(a.length:Int)
    · by_cases h4:l.2.1<4000
      · rw [A0 hi,A0 h4]
        simp only [cond_true,D7];rw [A0 hl,w64 (n:=l.2.1+1) (by omega) (by omega)];exact .inl ⟨_,rfl,by simp only;omega,by simp only;omega⟩
      · rw [A0 hi,A3 h4]
        exact .inr ⟨_,rfl,trivial⟩
    · rw [A3 hi]
      exact .inr ⟨_,rfl,trivial⟩) (IntKind.i64.wrap (369369+(a.length:Int)),0,()) (by simp)
  rw [e];exact ⟨_,rfl,h,by simp,by simp⟩
theorem A03{a b:List Int}(ha:Byt a)(hb:Byt b):Byt (a++b):=fun x hx=>(List.mem_append.1 hx).elim (ha x) (hb x)
theorem D5T(n:Int)(k:Nat):Byt (big n k):=by
  intro x hx;obtain ⟨j,_,rfl⟩:=List.mem_map.1 hx;exact wrap_u8 _
theorem B3e(s:X0):Byt (bytesOf s):=by
  intro x hx;obtain ⟨b,_,rfl⟩:=List.mem_map.1 hx;have:=b.toNat_lt;omega
theorem B0G{a:List Int}(h:Byt a)(i:Nat):Byt (a.drop i):=fun x hx=>h x (List.mem_of_mem_drop hx)
theorem C07(go:Nat->Bool):∀ k i j,i<=j->j<K2 go i k->go j=true
  | 0,i,j,h1,h2=>by simp only [K2] at h2;omega
  | k+1,i,j,h1,h2=>by
    simp only [K2] at h2;split at h2
    · rename_i hg
      by_cases e:j=i
      · rw [e];exact hg
      · exact C07 go k (i+1) j (by omega) h2
    · omega
theorem C08(go:Nat->Bool)(n p:Nat)(hp:p<=n)(h1:∀ j,j<p->go j=true)(h2:p<n->go p=false):K2 go 0 n=p:=by
  have hl:=C70 go n 0;rcases Nat.lt_trichotomy (K2 go 0 n) p with h | h | h
  · have:=B1u go n 0 (by omega)
    rw [h1 _ h] at this;cases this
  · exact h
  · have:=C07 go n 0 p (by omega) h
    rw [h2 (by omega)] at this;cases this
def C86(op:Int):Int:=if op=1 then 1000000000 else if op=3 then 1000000000 else if op=4 then 4294967295 else 0
def B6j(r:A1m):Bool:=decide (1<=r.1/\r.1<=6)&&idB r.2.1&&decide (0<=r.2.2/\r.2.2<=C86 r.1)
theorem C33(r:A1m)(h:r.2.1.size<=maxLen):A5G r=some (B6j r,()):=by
  simp only [A5G,B8t,F7,D5Q _ h,A4,B6j,K3,A3j,C86];by_cases h1:r.1=1
  · simp [h1];cases idB r.2.1<;>simp
  by_cases h3:r.1=3
  · simp [h3];cases idB r.2.1<;>simp
  by_cases h4:r.1=4
  · simp [h4];cases idB r.2.1<;>simp
  simp only [A3 h1,A3 h3,A3 h4,if_neg h1,if_neg h3,if_neg h4,cond_false];cases decide (1<=r.1/\r.1<=6)<;>cases idB r.2.1<;>simp
theorem D6w{a b:List Int}(ha:Byt a)(hb:Byt b)(h:(strOf a).toList=(strOf b).toList):a=b:=by
  rw [ByteArray.toList_eq,ByteArray.toList_eq] at h;have h2:(a.map fun n=>UInt8.ofNat n.toNat)=b.map fun n=>UInt8.ofNat n.toNat:=h
  have hl:a.length=b.length:=by simpa using congrArg List.length h2
  refine List.ext_getElem hl fun i h1 h3=>?_
  have h4:=congrArg (fun l=>l[i]?) h2;simp only [List.getElem?_map,List.getElem?_eq_getElem h1,List.getElem?_eq_getElem h3,Option.map_some,Option.some.injEq] at h4;exact E3F (ha _ (List.getElem_mem h1)) (hb _ (List.getElem_mem h3)) h4
theorem D5U{a b:X0}(h:a.toList=b.toList):a=b:=by
  rw [ByteArray.toList_eq,ByteArray.toList_eq] at h;obtain ⟨⟨a⟩⟩:=a;obtain ⟨⟨b⟩⟩:=b;have h:a=b:=h;rw [h]
theorem A5o(s:X0):strOf (bytesOf s)=s:=by
  refine D5U ?_;rw [ByteArray.toList_eq,ByteArray.toList_eq];show ((bytesOf s).map fun n=>UInt8.ofNat n.toNat)=s.data.toList;rw [bytesOf,List.map_map];refine (List.map_congr_left fun x hx=>?_).trans (List.map_id _);simp
theorem D06(n:Nat):IntKind.u8.wrap (n:Int)=((n % 256:Nat):Int):=by
  simp only [IntKind.wrap,IntKind.bits,IntKind.signed];simp
theorem D07(x y:Nat)(h:y<256):(x*256) ||| y=x*256+y:=by
  have:=Nat.two_pow_add_eq_or_of_lt (i:=8) (b:=y) (by simpa using h) x;rw [Nat.mul_comm x 256];exact this.symm
theorem D08(p q:List Int)(n k:Nat):∀ j,j<=k->H2 (p++(big (n:Int) k++q)) p.length j=n / 2 ^ (8*(k-j)) % 2 ^ (8*j)
  | 0,_=>by simp [H2,Nat.mod_one]
  | j+1,hj=>by
    have ih:=D08 p q n k j (by omega);have hget:(p++(big (n:Int) k++q)).getD (p.length+j) 0=C71 (n:Int) k j:=by
      simp only [List.getD];rw [List.getElem?_append_right (by omega),Nat.add_sub_cancel_left,List.getElem?_append_left (by rw [A2U];omega)];simp only [big,List.getElem?_map,List.getElem?_range (show j<k by omega),Option.map_some,Option.getD_some]
    have hat:C71 (n:Int) k j=((n / 2 ^ (8*(k-1-j)) % 256:Nat):Int):=by
      unfold C71;rw [<- D06]
      congr 1
      rw [show (2:Int) ^ (8*(k-1-j))=((2 ^ (8*(k-1-j)):Nat):Int) by rw [Int.natCast_pow];rfl,Int.fdiv_eq_ediv_of_nonneg _ (Int.natCast_nonneg _),<- Int.natCast_ediv]
    simp only [H2];rw [ih,hget,hat,Int.toNat_natCast,D07 _ _ (Nat.mod_lt _ (by omega))];rw [show k-1-j=k-(j+1) by omega];have e1:2 ^ (8*(k-j))=2 ^ (8*(k-(j+1)))*256:=by rw [show 8*(k-j)=8*(k-(j+1))+8 by omega,Nat.pow_add]
    have e2:2 ^ (8*(j+1))=256*2 ^ (8*j):=by rw [show 8*(j+1)=8+8*j by omega,Nat.pow_add]
    rw [e1,<- Nat.div_div_eq_div_mul,e2,Nat.mod_mul];omega
theorem C72{b:List Int}(p q:List Int)(n:Int)(k a:Nat)(h:b=p++(big n k++q))(ha:a=p.length)(h0:0<=n)(h1:n<2 ^ (8*k)):(H2 b a k:Int)=n:=by
  subst h;subst ha;obtain ⟨m,rfl⟩:∃ m:Nat,n=(m:Int):=⟨n.toNat,by omega⟩;rw [D08 p q m k k (Nat.le_refl _),Nat.sub_self,Nat.mul_zero,Nat.pow_zero,Nat.div_one];rw [show (2:Int) ^ (8*k)=((2 ^ (8*k):Nat):Int) by rw [Int.natCast_pow];rfl] at h1;rw [Nat.mod_eq_of_lt (by omega)]
def pri:List Int:= [80,82,73,32,42,32,72,84,84,80,47,50,46,48,13,10,13,10,83,77,13,10,13,10]
def prefaceB:List Int:=pri++E5 (4,0,0,[])
theorem C09:prefaceB.length=33:=by simp [prefaceB,E5,pri,A2U]
theorem C87:A68=some (prefaceB,()):=by
  simp only [A68,B3W];rw [A3U _ _ (by simp)];rfl
set_option maxRecDepth 100000
def lensT:List Int:= [13,23,28,28,28,28,28,28,28,24,30,28,28,30,28,28,28,28,28,28,28,28,30,28,28,28,28,28,28,28,28,28,6,10,10,12,13,6,8,11,10,10,8,11,8,6,6,6,5,5,5,6,6,6,6,6,6,6,7,8,15,6,12,10,13,6,7,7,7,7,7,7,7,7,7,7,7,7,7,7,7,7,7,7,7,7,7,7,8,7,8,13,19,13,14,6,15,5,6,5,6,5,6,6,6,5,7,7,6,6,6,5,6,7,6,5,5,6,7,7,7,7,7,15,11,14,13,28,20,22,20,20,22,22,22,23,22,23,23,23,23,23,24,23,24,24,22,23,24,23,23,23,23,21,22,23,22,23,23,24,22,21,20,22,22,23,23,21,23,22,22,24,21,22,23,23,21,21,22,21,23,22,23,23,20,22,22,22,23,22,22,23,26,26,20,19,22,23,22,25,26,26,26,27,27,26,24,25,19,21,26,27,27,26,27,24,21,21,26,26,28,27,27,27,20,24,20,21,22,21,21,23,22,22,25,25,24,24,26,23,26,27,26,26,27,27,27,27,27,28,27,27,27,27,27,26,30]
theorem R8:lensT.length=257:=by kernel_rfl
theorem C73:(lensT.all fun x=>decide (5<=x)&&decide (x<=30))=true:=by kernel_rfl
theorem u64_nonneg(x:Int):¬ (IntKind.u64.wrap x<0):=by
  simp only [IntKind.wrap,IntKind.bits,IntKind.signed,Bool.false_and];simp;omega
def cst(n:Int)(st:Int×Int×List Int)(sym:Nat):Int×Int×List Int:=
  if (lensT.getD sym 0)=n then
    (let code:=if st.2.1>0 then IntKind.i64.wrap ((IntKind.i64.wrap (st.1+1))*2 ^ (min (IntKind.u64.wrap (IntKind.i64.wrap (n-st.2.1))).toNat IntKind.i64.bits)) else st.1
     (code,n,st.2.2.set sym code)) else st
def E1o(n:Int)(st:Int×Int×List Int):Nat->Int×Int×List Int
  | 0=>st
  | k+1=>cst n (E1o n st k) k
def lvl(st:Int×Int×List Int):Nat->Int×Int×List Int
  | 0=>st
  | k+1=>E1o ((k:Int)+1) (lvl st k) 257
def codesT:List Int:=(lvl (0,0,List.replicate 257 0) 30).2.2
theorem E1p(n:Int)(st:Int×Int×List Int)(sym:Nat):(cst n st sym).2.2.length=st.2.2.length:=by
  unfold cst;split<;>simp
theorem D09(n:Int)(st:Int×Int×List Int):∀ k,(E1o n st k).2.2.length=st.2.2.length
  | 0=>rfl
  | k+1=>by rw [E1o,E1p,D09 n st k]
theorem D5V(st:Int×Int×List Int):∀ k,(lvl st k).2.2.length=st.2.2.length
  | 0=>rfl
  | k+1=>by rw [lvl,D09,D5V st k]
theorem A0H:codesT.length=257:=by unfold codesT;rw [D5V];simp
set_option maxRecDepth 100000
def lensS:X0:=⟨#[49,51,32,50,51,32,50,56,32,50,56,32,50,56,32,50,56,32,50,56,32,50,56,32,50,56,32,50,52,32,51,48,32,50,56,32,50,56,32,51,48,32,50,56,32,50,56,32,50,56,32,50,56,32,50,56,32,50,56,32,50,56,32,50,56,32,51,48,32,50,56,32,50,56,32,50,56,32,50,56,32,50,56,32,50,56,32,50,56,32,50,56,32,50,56,32,54,32,49,48,32,49,48,32,49,50,32,49,51,32,54,32,56,32,49,49,32,49,48,32,49,48,32,56,32,49,49,32,56,32,54,32,54,32,54,32,53,32,53,32,53,32,54,32,54,32,54,32,54,32,54,32,54,32,54,32,55,32,56,32,49,53,32,54,32,49,50,32,49,48,32,49,51,32,54,32,55,32,55,32,55,32,55,32,55,32,55,32,55,32,55,32,55,32,55,32,55,32,55,32,55,32,55,32,55,32,55,32,55,32,55,32,55,32,55,32,55,32,55,32,56,32,55,32,56,32,49,51,32,49,57,32,49,51,32,49,52,32,54,32,49,53,32,53,32,54,32,53,32,54,32,53,32,54,32,54,32,54,32,53,32,55,32,55,32,54,32,54,32,54,32,53,32,54,32,55,32,54,32,53,32,53,32,54,32,55,32,55,32,55,32,55,32,55,32,49,53,32,49,49,32,49,52,32,49,51,32,50,56,32,50,48,32,50,50,32,50,48,32,50,48,32,50,50,32,50,50,32,50,50,32,50,51,32,50,50,32,50,51,32,50,51,32,50,51,32,50,51,32,50,51,32,50,52,32,50,51,32,50,52,32,50,52,32,50,50,32,50,51,32,50,52,32,50,51,32,50,51,32,50,51,32,50,51,32,50,49,32,50,50,32,50,51,32,50,50,32,50,51,32,50,51,32,50,52,32,50,50,32,50,49,32,50,48,32,50,50,32,50,50,32,50,51,32,50,51,32,50,49,32,50,51,32,50,50,32,50,50,32,50,52,32,50,49,32,50,50,32,50,51,32,50,51,32,50,49,32,50,49,32,50,50,32,50,49,32,50,51,32,50,50,32,50,51,32,50,51,32,50,48,32,50,50,32,50,50,32,50,50,32,50,51,32,50,50,32,50,50,32,50,51,32,50,54,32,50,54,32,50,48,32,49,57,32,50,50,32,50,51,32,50,50,32,50,53,32,50,54,32,50,54,32,50,54,32,50,55,32,50,55,32,50,54,32,50,52,32,50,53,32,49,57,32,50,49,32,50,54,32,50,55,32,50,55,32,50,54,32,50,55,32,50,52,32,50,49,32,50,49,32,50,54,32,50,54,32,50,56,32,50,55,32,50,55,32,50,55,32,50,48,32,50,52,32,50,48,32,50,49,32,50,50,32,50,49,32,50,49,32,50,51,32,50,50,32,50,50,32,50,53,32,50,53,32,50,52,32,50,52,32,50,54,32,50,51,32,50,54,32,50,55,32,50,54,32,50,54,32,50,55,32,50,55,32,50,55,32,50,55,32,50,55,32,50,56,32,50,55,32,50,55,32,50,55,32,50,55,32,50,55,32,50,54,32,51,48]⟩
def lensP:List (List UInt8):=Lib.splitK [32] 0 (Lib.count lensS.data.toList [32]) lensS.data.toList
theorem D9f:(lensP.map Lib.atoi)=lensT.map some:=by kernel_rfl
theorem D9g:(lensP.all fun x=>Nat.ble x.length 18)=true:=by kernel_rfl
theorem D0A:(Lib.splitB ⟨#[32]⟩ 0 (Lib.countB lensS ⟨#[32]⟩) lensS).map (·.data.toList)=lensP:=by
  rw [Lib.splitB_data];rfl
theorem D70(s:X0)(P:List (List UInt8))(hs:s.size<4294967281)(h0:(Lib.splitB ⟨#[32]⟩ 0 (Lib.countB s ⟨#[32]⟩) s).map (·.data.toList)=P)(hP:(P.map Lib.atoi)=lensT.map some)(hz:(P.all fun x=>Nat.ble x.length 18)=true) :
    ∃ c:List X0,A5c s ⟨#[32]⟩=some (c,())/\c.length=257/\∀ k (h:k<c.length),B17 c[k]=some (lensT.getD k 0,(),()):=by
  have h1:(decide (s.size<4294967281)&&decide (1<=(⟨#[32]⟩:X0).size))=true:=by
    rw [A0 hs];rfl
  refine ⟨_,by simp only [A5c,h1,cond_true];rfl,?_,fun k hk=>?_⟩
  · have:=congrArg List.length h0
    rw [List.length_map] at this;rw [this];have h2:=congrArg List.length hP;rw [List.length_map,List.length_map,R8] at h2;exact h2
  · generalize hc:Lib.splitB ⟨#[32]⟩ 0 (Lib.countB s ⟨#[32]⟩) s=c at *
    have e:=h0;have hk2:k<P.length:=by rw [<- e,List.length_map];exact hk
    have e1:(c[k]).data.toList=P[k]:=by
      have:(c.map (·.data.toList))[k]? = P[k]?:=by rw [e]
      rw [List.getElem?_map,List.getElem?_eq_getElem hk,List.getElem?_eq_getElem hk2] at this;simpa using this
    have e2:Lib.atoi P[k]=some (lensT.getD k 0):=by
      have:(P.map Lib.atoi)[k]? = (lensT.map some)[k]?:=by rw [hP]
      rw [List.getElem?_map,List.getElem?_eq_getElem hk2,List.getElem?_map] at this;cases hq:lensT[k]? with
      | none=>rw [hq] at this;cases this
      | some v=>
        rw [hq] at this;simp only [Option.map_some,Option.some.injEq] at this;rw [this,List.getD_eq_getElem?_getD,hq];rfl
    have e3:(c[k]).size<=18:=by
      have h4:=List.all_eq_true.1 hz P[k] (List.getElem_mem hk2);have h5:=Nat.le_of_ble_eq_true h4;rw [<- e1] at h5;exact h5
    simp only [B17,A0 e3,cond_true,e1,e2]
theorem D9h:lensS.size<4294967281:=by
  have:Nat.ble (lensS.size+1) 4294967281=true:=by kernel_rfl
  exact Nat.le_of_ble_eq_true this
theorem D9i:∃ c:List X0,A5c lensS ⟨#[32]⟩=some (c,())/\c.length=257/\∀ k (h:k<c.length),B17 c[k]=some (lensT.getD k 0,(),()):=
  D70 lensS lensP D9h D0A D9f D9g
set_option maxRecDepth 100000
def szs(r:List (Int×Int)):Nat->List (Int×Int)
  | 0=>r
  | k+1=>(szs r k).set k (((szs r k).getD k (0,0)).1,lensT.getD k 0)
theorem D5W(r:List (Int×Int)):∀ k,(szs r k).length=r.length
  | 0=>rfl
  | k+1=>by rw [szs,List.length_set,D5W r k]
theorem E1q:szs (List.replicate 257 (0,0)) 257=lensT.map fun n=>(0,n):=by kernel_rfl
def ist(n:Int)(st:Int×List (Int×Int))(sym:Nat):Int×List (Int×Int):=
  if (st.2.getD sym (0,0)).2=n then (IntKind.i64.wrap (st.1+1),st.2.set sym (st.1,(st.2.getD sym (0,0)).2)) else st
def C0v(n:Int)(st:Int×List (Int×Int)):Nat->Int×List (Int×Int)
  | 0=>st
  | k+1=>ist n (C0v n st k) k
def C88(st:Int×List (Int×Int)):Nat->Int×List (Int×Int)
  | 0=>st
  | k+1=>C0v ((k:Int)+1) (IntKind.i64.wrap ((C88 st k).1*2),(C88 st k).2) 257
theorem E1r(n:Int)(st:Int×List (Int×Int))(sym:Nat):(ist n st sym).2.length=st.2.length:=by
  unfold ist;split<;>simp
theorem C34(n:Int)(st:Int×List (Int×Int)):∀ k,(C0v n st k).2.length=st.2.length
  | 0=>rfl
  | k+1=>by rw [C0v,E1r,C34 n st k]
theorem D0B(st:Int×List (Int×Int)):∀ k,(C88 st k).2.length=st.2.length
  | 0=>rfl
  | k+1=>by rw [C88,C34,D0B st k]
def E3G:List (Int×Int):=(C88 (0,lensT.map fun n=>(0,n)) 30).2
theorem D71:E3G=codesT.zip lensT:=by kernel_rfl
theorem D0C{xs:List (Int×Int)}{i:Nat}:rd D9 xs (i:Int)=xs.getD i (0,0):=by
  simp [rd,zd]
theorem D35(c n:Int)(o:List (Int×Int))(ho:o.length=257)(hn:n<1000)(hn0:0<=n)(a:Int)(e:List (Int×Int)) :
    C2 (A3M (a,n,e,())) (c,0,o,())=some (.inl ((C0v n (c,o) 257).1,n+1,(C0v n (c,o) 257).2,())):=by
  have hl:∀ k,(C0v n (c,o) k).2.length=257:=fun k=>by rw [C34];exact ho
  refine N6 (A3M (a,n,e,())) (fun k=>((C0v n (c,o) k).1,(k:Int),(C0v n (c,o) k).2,())) 257 _ (fun k hk=>?_) ?_
  · have h1:(k:Int)<257:=by omega
    have h2:(0:Int)<=(k:Int):=by omega
    have h5:IntKind.i64.wrap ((k:Int)+1)=((k+1:Nat):Int):=by rw [w64 (by omega) (by omega)];omega
    simp only [A3M,A0 h1,A0 h2,cond_true,D0C,h5,Int.toNat_natCast];have e1:C0v n (c,o) (k+1)=ist n (C0v n (c,o) k) k:=rfl;rw [e1];unfold ist;by_cases hq:((C0v n (c,o) k).2.getD k (0,0)).2=n
    · simp only [A0 hq,cond_true,if_pos hq]
    · simp only [A3 hq,cond_false,if_neg hq]
  · have h1:¬ ((257:Nat):Int)<257:=by omega
    simp only [A3M,A3 h1,cond_false];rw [w64 (by omega) (by omega)]
theorem B7U:A1u=some (codesT.zip lensT,()):=by
  obtain ⟨c,hc,hcl,hca⟩:=D9i;rw [<- D71];have e0:A1u=A4 (A4 (A5c lensS ⟨#[32]⟩) fun c7=>C2 (A1M B17 c7) (0,(List.replicate 257 (0,0)),())) fun (m1:List L1×Unit)=>C2 (A3N) (0,1,m1.1,()):=rfl
  rw [e0,hc];have f1:C2 (A1M B17 (c,())) (0,(List.replicate 257 (0,0)),())=some (lensT.map fun n=>(0,n),()):=by
    have hl:∀ k,(szs (List.replicate 257 (0,0)) k).length=257:=fun k=>by rw [D5W];simp
    refine N6 (A1M B17 (c,())) (fun k=>((k:Int),szs (List.replicate 257 (0,0)) k,())) 257 _ (fun k hk=>?_) ?_
    · have h1:(k:Int)<257:=by omega
      have h2:(0:Int)<=(k:Int):=by omega
      have h3:(k:Int)<(c.length:Int):=by rw [hcl];omega
      have h5:IntKind.i64.wrap ((k:Int)+1)=((k+1:Nat):Int):=by rw [w64 (by omega) (by omega)];omega
      have h6:rd .str c (k:Int)=c[k]'(by omega):=A6O (k:=.str) (by omega);simp only [A1M,A0 h1,A0 h2,A0 h3,cond_true,h6,hca k (by omega),A4,D0C,h5,Int.toNat_natCast];rfl
    · have h1:¬ ((257:Nat):Int)<(c.length:Int):=by rw [hcl];omega
      simp only [A1M,A3 h1,cond_false,E1q]
  simp only [A4,f1];have hl:∀ k,(C88 (0,lensT.map fun n=>(0,n)) k).2.length=257:=fun k=>by rw [D0B,List.length_map,R8]
  refine N6 A3N (fun k=>((C88 (0,lensT.map fun n=>(0,n)) k).1,((k:Int)+1),(C88 (0,lensT.map fun n=>(0,n)) k).2,())) 30 _ (fun k hk=>?_) ?_
  · have h1:(k:Int)+1<=30:=by omega
    simp only [A3N,A0 h1,cond_true];rw [D35 _ _ _ (hl k) (by omega) (by omega)];simp only [C88]
    congr 4
  · have h1:¬ ((30:Nat):Int)+1<=30:=by omega
    simp only [A3N,A3 h1,cond_false];rfl
set_option maxRecDepth 100000
theorem gA{R:Type}{n:Nat}{X:Option R}(h:n<=140737488355328):(bif decide (n<=9223372036854775807) then bif decide (n*1<=140737488355328) then X else none else none)=X:=by
  rw [A0 (by omega),A0 (by omega)];rfl
theorem D36{R:Type}{n:Nat}{X:Option R}(h:n<=1000000000000):(bif decide (n<=9223372036854775807) then bif decide (n*32<=140737488355328) then X else none else none)=X:=by
  rw [A0 (by omega),A0 (by omega)];rfl
theorem E4k{R:Type}{n:Nat}{X:Option R}(h:n<=1000000000000):(bif decide (n<=9223372036854775807) then bif decide (n*48<=140737488355328) then X else none else none)=X:=by
  rw [A0 (by omega),A0 (by omega)];rfl
theorem D9j(k:IntKind)(x y:Int):bOr k x y=bOr k y x:=by
  unfold bOr;rw [BitVec.or_comm]
def more:Nat->Int->List Int
  | 0,v=> [IntKind.u8.wrap v]
  | k+1,v=>if v>127 then IntKind.u8.wrap (bOr .i64 (M5 .i64 v 127) 128)::more k (v.fdiv 128) else [IntKind.u8.wrap v]
theorem D0D:∀ k v,(more k v).length<=k+1
  | 0,v=>by simp [more]
  | k+1,v=>by
    have:=D0D k (v.fdiv 128);simp only [more];split<;>simp<;>omega
theorem D0E:∀ k v,Byt (more k v)
  | 0,v=>fun x hx=>by rcases List.mem_singleton.1 hx with rfl;exact wrap_u8 _
  | k+1,v=>by
    have ih:=D0E k (v.fdiv 128);simp only [more];split
    · intro x hx
      rcases List.mem_cons.1 hx with rfl | hx
      · exact wrap_u8 _
      · exact ih x hx
    · exact fun x hx=>by rcases List.mem_singleton.1 hx with rfl;exact wrap_u8 _
theorem B93:∀ (k:Nat) (v:Int) (b:List Int),0<=v->v<128 ^ (k+1)->b.length+k+2<=140737488355328->
    ∃ v' ex,C2 T6 (v,b,())=some (v',b++ex,())/\ex ++ [IntKind.u8.wrap v']=more k v/\ex.length<=k
  | 0,v,b,h0,h1,hb=>by
    have h1':v<128:=by simpa using h1
    have h2:¬ v>127:=by omega
    refine ⟨v,[],?_,rfl,by simp⟩;rw [C3];simp only [T6,A3 h2,cond_false,List.append_nil]
  | k+1,v,b,h0,h1,hb=>by
    by_cases h2:v>127
    · have h3:v.fdiv 128=v / 128:=Int.fdiv_eq_ediv_of_nonneg _ (by omega)
      obtain ⟨v',ex,e1,e2,e3⟩:=B93 k (v.fdiv 128) (b ++ [IntKind.u8.wrap (bOr .i64 (M5 .i64 v 127) 128)]) (by omega) (by rw [h3];rw [Int.pow_succ] at h1;omega) (by simp;omega);refine ⟨v',IntKind.u8.wrap (bOr .i64 (M5 .i64 v 127) 128)::ex,?_,?_,by simp;omega⟩
      · rw [C3]
        simp only [T6,A0 h2,cond_true];rw [gA (by simp;omega)];simp only [e1];simp
      · simp only [more,if_pos h2,List.cons_append,e2]
    · refine ⟨v,[],?_,by simp only [more,if_neg h2,List.nil_append],by simp⟩
      rw [C3];simp only [T6,A3 h2,cond_false,List.append_nil]
def pfx(M F v:Int):List Int:=if v<M then [IntKind.u8.wrap (bOr .i64 F v)] else IntKind.u8.wrap (bOr .i64 F M)::more 3 (v-M)
theorem B4r(M F v:Int):(pfx M F v).length<=5:=by
  unfold pfx;split
  · simp
  · have:=D0D 3 (v-M);simp;omega
theorem C1p(M F v:Int):Byt (pfx M F v):=by
  unfold pfx;split
  · exact fun x hx=>by rcases List.mem_singleton.1 hx with rfl;exact wrap_u8 _
  · intro x hx
    rcases List.mem_cons.1 hx with rfl | hx
    · exact wrap_u8 _
    · exact D0E _ _ x hx
theorem D5a(n f M F v:Int)(b:List Int)(h1:¬ (IntKind.u64.wrap n<0))(h2:IntKind.i64.wrap (IntKind.i64.wrap (1*2 ^ (min (IntKind.u64.wrap n).toNat IntKind.i64.bits))-1)=M)(h3:A1c .i64 f M=F)(h5:1<=n/\n<=8)(h6:0<=f/\f<=255)
    (hM:15<=M/\M<=127) (hv:0<=v/\v<=16777216) (hb:b.length+16<=140737488355328):A9e b n f v=some (b++pfx M F v,()):=by
  have a1:¬ v>16777216:=by omega
  have a2:¬ v<0:=by omega
  simp only [A9e,B5B,D5P,A0 h5,A0 h6,A4,D7,Bool.not_true,cond_false,A3 h1,h2,h3,A3 a1,A3 a2,List.nil_append];rw [gA (by simp;omega)];by_cases hq:v<M
  · rw [A0 hq,cond_true,gA (by simp;omega),pfx,if_pos hq]
  · rw [A3 hq,cond_false,gA (by simp;omega),w64 (by omega) (by omega)]
    obtain ⟨v',ex,e1,e2,e3⟩:=B93 3 (v-M) (b ++ [IntKind.u8.wrap (bOr .i64 F M)]) (by omega) (by omega) (by simp;omega);rw [e1];simp only [A4];rw [gA (by simp;omega),pfx,if_neg hq,<- e2];simp
theorem D5b(n f M F v:Int)(b:List Int)(h1:¬ (IntKind.u64.wrap n<0))(h2:IntKind.i64.wrap (IntKind.i64.wrap (1*2 ^ (min (IntKind.u64.wrap n).toNat IntKind.i64.bits))-1)=M)(h3:M5 .i64 f (A1c .i64 255 M)=F)
    (hM:15<=M/\M<=127) (hv:0<=v/\v<=16777216) (hb:b.length+16<=140737488355328):Q9 b n f v=some (b++pfx M F v,()):=by
  have a1:¬ 16777216<v:=by omega
  have a2:(bif decide (v>0) then v else 0)=v:=by
    by_cases h:v>0
    · rw [A0 h,cond_true]
    · rw [A3 h,cond_false];omega
  have e0:A6L=T6:=by
    funext l
    simp only [A6L,T6,D9j .i64 128]
  simp only [Q9,A9O,A4,A3 h1,cond_false,h2,h3,A3 a1,a2,e0];by_cases hq:v<M
  · rw [A0 hq,cond_true,gA (by simp;omega),pfx,if_pos hq]
  · rw [A3 hq,cond_false,gA (by simp;omega),w64 (by omega) (by omega)]
    obtain ⟨v',ex,e1,e2,e3⟩:=B93 3 (v-M) (b ++ [IntKind.u8.wrap (bOr .i64 F M)]) (by omega) (by omega) (by simp;omega);rw [e1];simp only [A4];rw [gA (by simp;omega),pfx,if_neg hq,<- e2];simp
def Pf(n f M:Int):Prop:=∀ (v:Int) (b:List Int),0<=v->v<=16777216->b.length+16<=140737488355328->A9e b n f v=some (b++pfx M f v,())/\Q9 b n f v=some (b++pfx M f v,())
theorem D0F:Pf 7 128 127:=fun v b h0 h1 hb=>⟨D5a 7 128 127 128 v b (by decide) (by rfl) (by rfl) (by omega) (by omega) (by omega) ⟨h0,h1⟩ hb,D5b 7 128 127 128 v b (by decide) (by rfl) (by rfl) (by omega) ⟨h0,h1⟩ hb⟩
theorem E3H:Pf 7 0 127:=fun v b h0 h1 hb=>⟨D5a 7 0 127 0 v b (by decide) (by rfl) (by rfl) (by omega) (by omega) (by omega) ⟨h0,h1⟩ hb,D5b 7 0 127 0 v b (by decide) (by rfl) (by rfl) (by omega) ⟨h0,h1⟩ hb⟩
theorem E1s:Pf 6 64 63:=fun v b h0 h1 hb=>⟨D5a 6 64 63 64 v b (by decide) (by rfl) (by rfl) (by omega) (by omega) (by omega) ⟨h0,h1⟩ hb,D5b 6 64 63 64 v b (by decide) (by rfl) (by rfl) (by omega) ⟨h0,h1⟩ hb⟩
theorem E1t:Pf 4 16 15:=fun v b h0 h1 hb=>⟨D5a 4 16 15 16 v b (by decide) (by rfl) (by rfl) (by omega) (by omega) (by omega) ⟨h0,h1⟩ hb,D5b 4 16 15 16 v b (by decide) (by rfl) (by rfl) (by omega) ⟨h0,h1⟩ hb⟩
set_option maxRecDepth 100000
def leA(s:X0)(k:Nat):Int:=lensT.getD (bt s k).toNat 0
def coA(s:X0)(k:Nat):Int:=codesT.getD (bt s k).toNat 0
theorem B94(s:X0)(k:Int):(bt s k).toNat<257:=by have:=D01 s k;have:=B7R s k;omega
theorem B7V(s:X0)(k:Nat):5<=leA s k/\leA s k<=30:=by
  have h:=List.all_eq_true.1 C73 (leA s k) (by
    unfold leA;rw [List.getD_eq_getElem?_getD,List.getElem?_eq_getElem (by rw [R8];exact B94 s k)];exact List.getElem_mem _)
  simpa using h
theorem D9k(s:X0)(k:Nat):rd (.int .i64) lensT (bt s k)=leA s k:=by
  simp [rd,zd,leA]
theorem D9l(s:X0)(k:Nat):rd (.int .i64) codesT (bt s k)=coA s k:=by
  simp [rd,zd,coA]
theorem D5c(s:X0)(k:Nat)(xs:List (Int×Int))(hx:xs=codesT.zip lensT):rd D9 xs (bt s k)=(coA s k,leA s k):=by
  subst hx;have h1:(bt s k).toNat<codesT.length:=by rw [A0H];exact B94 s k
  have h2:(bt s k).toNat<lensT.length:=by rw [R8];exact B94 s k
  have h3:(bt s k).toNat<(codesT.zip lensT).length:=by rw [List.length_zip];omega
  unfold rd;rw [List.getD_eq_getElem?_getD,List.getElem?_eq_getElem h3];simp [coA,leA,List.getD_eq_getElem?_getD,List.getElem?_eq_getElem h1,List.getElem?_eq_getElem h2]
def dr:Nat->Int->Int->Int×Int×List Int
  | 0,v,n=>(v,n,[])
  | k+1,v,n=>if n>=8 then ((dr k (M5 .i64 v (IntKind.i64.wrap ((IntKind.i64.wrap (1*2 ^ (min (IntKind.u64.wrap (n-8)).toNat IntKind.i64.bits)))-1))) (n-8)).1,(dr k (M5 .i64 v (IntKind.i64.wrap ((IntKind.i64.wrap (1*2 ^ (min (IntKind.u64.wrap (n-8)).toNat IntKind.i64.bits)))-1))) (n-8)).2.1,
      IntKind.u8.wrap (v.fdiv (2 ^ (min (IntKind.u64.wrap (n-8)).toNat IntKind.i64.bits)))::(dr k (M5 .i64 v (IntKind.i64.wrap ((IntKind.i64.wrap (1*2 ^ (min (IntKind.u64.wrap (n-8)).toNat IntKind.i64.bits)))-1))) (n-8)).2.2) else (v,n,[])
theorem E3w:∀ (k:Nat) (v n:Int),0<=n->n<8*(k+1)->(dr k v n).2.1=n % 8/\((dr k v n).2.2.length:Int)=n / 8
  | 0,v,n,h0,h1=>⟨by simp only [dr];omega,by simp only [dr,List.length_nil];omega⟩
  | k+1,v,n,h0,h1=>by
    by_cases h:n>=8
    · have:=E3w k (M5 .i64 v (IntKind.i64.wrap ((IntKind.i64.wrap (1*2 ^ (min (IntKind.u64.wrap (n-8)).toNat IntKind.i64.bits)))-1))) (n-8) (by omega) (by omega)
      simp only [dr,if_pos h,List.length_cons];omega
    · simp only [dr,if_neg h,List.length_nil]
      omega
theorem D5d(l0:Int×Int×Int×List Int×Unit):∀ (k:Nat) (v n:Int) (o:List Int),0<=n->n<8*(k+1)->n<1000->o.length+k+1<=140737488355328->
    C2 (A5S l0) (v,n,o,())=some (.inl ((dr k v n).1,(dr k v n).2.1,IntKind.i64.wrap (l0.2.2.1+1),o++(dr k v n).2.2,()))
  | 0,v,n,o,h0,h1,h2,hb=>by
    have h:¬ n>=8:=by omega
    rw [C3];simp only [A5S,A3 h,cond_false,dr,List.append_nil]
  | k+1,v,n,o,h0,h1,h2,hb=>by
    rw [C3];by_cases h:n>=8
    · have e1:IntKind.i64.wrap (n-8)=n-8:=w64 (by omega) (by omega)
      simp only [A5S,A0 h,cond_true,e1,A3 (u64_nonneg _),cond_false];rw [gA (by simp;omega)];simp only [];rw [D5d l0 k _ (n-8) _ (by omega) (by omega) (by omega) (by simp;omega)];simp only [dr,if_pos h,List.append_assoc,List.singleton_append,List.cons_append,List.nil_append]
    · simp only [A5S,A3 h,cond_false,dr,if_neg h,List.append_nil]
theorem D9m(l0:Int×Int×Int×List Int×Unit):C2r l0=A5S l0:=rfl
def hst(s:X0):Nat->Int×Int×List Int
  | 0=>(0,0,[])
  | k+1=>let d:=dr 5 (bOr .i64 (IntKind.i64.wrap ((hst s k).1*2 ^ (min (IntKind.u64.wrap (leA s k)).toNat IntKind.i64.bits))) (coA s k)) ((hst s k).2.1+leA s k);(d.1,d.2.1,(hst s k).2.2++d.2.2)
def bits(s:X0):Nat->Int
  | 0=>0
  | k+1=>bits s k+leA s k
theorem B0H(s:X0):∀ k:Nat,0<=bits s k/\bits s k<=30*(k:Int)
  | 0=>⟨by simp [bits],by simp [bits]⟩
  | k+1=>by
    have:=B0H s k;have:=B7V s k;simp only [bits];omega
theorem D0G(s:X0):∀ k:Nat,(hst s k).2.1=bits s k % 8/\((hst s k).2.2.length:Int)=bits s k / 8
  | 0=>⟨by simp [hst,bits],by simp [hst,bits]⟩
  | k+1=>by
    have h1:=D0G s k;have h2:=B7V s k;have h3:=B0H s k;have h4:=E3w 5 (bOr .i64 (IntKind.i64.wrap ((hst s k).1*2 ^ (min (IntKind.u64.wrap (leA s k)).toNat IntKind.i64.bits))) (coA s k)) ((hst s k).2.1+leA s k) (by omega) (by omega);simp only [hst,bits,List.length_append];omega
theorem D5e(s:X0)(k:Nat)(h:k<=1000000000):(hst s k).2.2.length<=4000000000:=by
  have:=D0G s k;have:=B0H s k;omega
theorem D72(s:X0)(a:List Int)(ha:a.length<=1000000000000)(hs:s.size<=1000000000)(k:Nat)(hk:k<s.size) :
    A0G s (lensT,()) (codesT,()) ((hst s k).1,(hst s k).2.1,(k:Int),a++(hst s k).2.2,())=some (.inl ((hst s (k+1)).1,(hst s (k+1)).2.1,((k+1:Nat):Int),a++(hst s (k+1)).2.2,())):=by
  have h1:(k:Int)<(s.size:Int):=by omega
  have h2:(0:Int)<=(k:Int):=by omega
  have h3:=D01 s k;have h4:bt s k<(lensT.length:Int):=by rw [R8];have:=B7R s k;omega
  have h5:bt s k<(codesT.length:Int):=by rw [A0H];have:=B7R s k;omega
  have h6:=B7V s k;have h7:=D0G s k;have h8:=D5e s k (by omega);simp only [A0G,A0 h1,A0 h2,A0 h3,A0 h4,A0 h5,cond_true,D9k,D9l,A3 (u64_nonneg _),cond_false];rw [w64 (n:=(hst s k).2.1+leA s k) (by omega) (by omega),D5d _ 5 _ _ _ (by omega) (by omega) (by omega) (by simp;omega),w64 (n:=(k:Int)+1) (by omega) (by omega)];simp only [hst,List.append_assoc];rfl
theorem D37(s:X0)(l:Int×Int×Int×List Int×Unit):B1S s (codesT.zip lensT) l=A0G s (lensT,()) (codesT,()) l:=by
  obtain ⟨v,n,k,o,u⟩:=l;simp only [B1S,A0G];by_cases h1:k<(s.size:Int)
  · by_cases h2:0<=k
    · obtain ⟨k,rfl⟩:=Int.eq_ofNat_of_zero_le h2
      have h3:=D01 s k;have h4:bt s k<(lensT.length:Int):=by rw [R8];have:=B7R s k;omega
      have h5:bt s k<(codesT.length:Int):=by rw [A0H];have:=B7R s k;omega
      have h6:bt s k<((codesT.zip lensT).length:Int):=by rw [List.length_zip,A0H,R8];have:=B7R s k;omega
      have h7:0<(codesT.zip lensT).length:=by rw [List.length_zip,A0H,R8];omega
      simp only [A0 h1,A0 h2,A0 h3,A0 h4,A0 h5,A0 h6,A0 h7,cond_true,D9k,D9l,D5c s k (codesT.zip lensT) rfl,D9m]
    · simp only [A3 h2,cond_false]
  · simp only [A3 h1,cond_false]
def R9(s:X0):List Int:=
  if (hst s s.size).2.1>0 then (hst s s.size).2.2 ++ [IntKind.u8.wrap (bOr .i64 (IntKind.i64.wrap ((hst s s.size).1*2 ^ (min (IntKind.u64.wrap (IntKind.i64.wrap (8-(hst s s.size).2.1))).toNat IntKind.i64.bits))) (IntKind.i64.wrap ((IntKind.i64.wrap (1*2 ^ (min (IntKind.u64.wrap (IntKind.i64.wrap (8-(hst s s.size).2.1))).toNat IntKind.i64.bits)))-1)))] else (hst s s.size).2.2
theorem D73(s:X0):((R9 s).length:Int)=(bits s s.size+7) / 8:=by
  have h:=D0G s s.size;have h2:=B0H s s.size;unfold R9;split
  · simp only [List.length_append,List.length_singleton]
    omega
  · omega
theorem D9n(s:X0)(a:List Int)(ha:a.length<=1000000000000)(hs:s.size<=1000000000) :
    (A4 (C2 (A0G s (lensT,()) (codesT,())) (0,0,0,a,())) fun (m2:Int×Int×List Int×Unit)=>bif (decide (m2.2.1>0)) then bif decide ((IntKind.u64.wrap (IntKind.i64.wrap (8-m2.2.1)))<0) then none else bif decide ((IntKind.u64.wrap (IntKind.i64.wrap (8-m2.2.1)))<0) then none else bif decide (m2.2.2.1.length+([(IntKind.u8.wrap (bOr .i64 (IntKind.i64.wrap (m2.1*2 ^ (min (IntKind.u64.wrap (IntKind.i64.wrap (8-m2.2.1))).toNat IntKind.i64.bits))) (IntKind.i64.wrap ((IntKind.i64.wrap (1*2 ^ (min (IntKind.u64.wrap (IntKind.i64.wrap (8-m2.2.1))).toNat IntKind.i64.bits)))-1))))]:List Int).length<=9223372036854775807) then bif decide ((m2.2.2.1.length+([(IntKind.u8.wrap (bOr .i64 (IntKind.i64.wrap (m2.1*2 ^ (min (IntKind.u64.wrap (IntKind.i64.wrap (8-m2.2.1))).toNat IntKind.i64.bits))) (IntKind.i64.wrap ((IntKind.i64.wrap (1*2 ^ (min (IntKind.u64.wrap (IntKind.i64.wrap (8-m2.2.1))).toNat IntKind.i64.bits)))-1))))]:List Int).length)*1<=140737488355328) then some ((m2.2.2.1 ++ [(IntKind.u8.wrap (bOr .i64 (IntKind.i64.wrap (m2.1*2 ^ (min (IntKind.u64.wrap (IntKind.i64.wrap (8-m2.2.1))).toNat IntKind.i64.bits))) (IntKind.i64.wrap ((IntKind.i64.wrap (1*2 ^ (min (IntKind.u64.wrap (IntKind.i64.wrap (8-m2.2.1))).toNat IntKind.i64.bits)))-1))))]),()) else none else none else some (m2.2.2.1,()))=some (a++R9 s,()):=by
  have h1:C2 (A0G s (lensT,()) (codesT,())) (0,0,0,a,())=some ((hst s s.size).1,(hst s s.size).2.1,a++(hst s s.size).2.2,()):=by
    have:=N6 (A0G s (lensT,()) (codesT,())) (fun k=>((hst s k).1,(hst s k).2.1,(k:Int),a++(hst s k).2.2,())) s.size ((hst s s.size).1,(hst s s.size).2.1,a++(hst s s.size).2.2,()) (fun k hk=>D72 s a ha hs k hk) (by
      have h:¬ ((s.size:Nat):Int)<(s.size:Int):=by omega
      simp only [A0G,A3 h,cond_false])
    simpa [hst] using this
  have h8:=D5e s s.size (by omega);rw [h1];simp only [A4,A3 (u64_nonneg _),cond_false];by_cases h:(hst s s.size).2.1>0
  · rw [A0 h,cond_true,gA (by simp;omega),R9,if_pos h]
    simp
  · rw [A3 h,cond_false,R9,if_neg h]
theorem C74(s:X0)(a:List Int)(ha:a.length<=1000000000000)(hs:s.size<=1000000000):A7a (codesT.zip lensT) a s=some (a++R9 s,()):=by
  simp only [A7a,C2s];rw [show B1S s (codesT.zip lensT)=A0G s (lensT,()) (codesT,()) from funext fun l=>D37 s l];exact D9n s a ha hs
theorem C89(s:X0)(hs:s.size<=1000000000):A63 (codesT.zip lensT) s=some (((R9 s).length:Int),()):=by
  simp only [A63,B3M];have h1:C2 (A3O s (codesT.zip lensT)) (0,0,())=some (bits s s.size,()):=by
    refine N6 (A3O s (codesT.zip lensT)) (fun k=>(bits s k,(k:Int),())) s.size _ (fun k hk=>?_) ?_
    · have h1:(k:Int)<(s.size:Int):=by omega
      have h2:(0:Int)<=(k:Int):=by omega
      have h3:=D01 s k;have h6:bt s k<((codesT.zip lensT).length:Int):=by rw [List.length_zip,A0H,R8];have:=B7R s k;omega
      have h7:0<(codesT.zip lensT).length:=by rw [List.length_zip,A0H,R8];omega
      have h8:=B0H s k;have h9:=B7V s k;simp only [A3O,A0 h1,A0 h2,A0 h3,A0 h6,A0 h7,cond_true,D5c s k (codesT.zip lensT) rfl];rw [w64 (by omega) (by omega),w64 (by omega) (by omega)];rfl
    · have h:¬ ((s.size:Nat):Int)<(s.size:Int):=by omega
      simp only [A3O,A3 h,cond_false]
  rw [h1];have h2:=B0H s s.size;simp only [A4];rw [w64 (n:=bits s s.size+7) (by omega) (by omega),D73,Int.tdiv_eq_ediv_of_nonneg (by omega),w64 (by omega) (by omega)]
theorem D9o:∀ (k:Nat) (v n:Int),Byt (dr k v n).2.2
  | 0,v,n=>fun x hx=>by simp [dr] at hx
  | k+1,v,n=>by
    by_cases h:n>=8
    · have ih:=D9o k (M5 .i64 v (IntKind.i64.wrap ((IntKind.i64.wrap (1*2 ^ (min (IntKind.u64.wrap (n-8)).toNat IntKind.i64.bits)))-1))) (n-8)
      simp only [dr,if_pos h];intro x hx;rcases List.mem_cons.1 hx with rfl | hx
      · exact wrap_u8 _
      · exact ih x hx
    · simp only [dr,if_neg h]
      exact fun x hx=>by cases hx
theorem C8A(s:X0):∀ k,Byt (hst s k).2.2
  | 0=>fun x hx=>by simp [hst] at hx
  | k+1=>A03 (C8A s k) (D9o _ _ _)
theorem D74(s:X0):Byt (R9 s):=by
  unfold R9;split
  · exact A03 (C8A s _) fun x hx=>by rcases List.mem_singleton.1 hx with rfl;exact wrap_u8 _
  · exact C8A s _
def B21(s:X0):List Int:=if (R9 s).length<s.size then pfx 127 128 ((R9 s).length:Int)++R9 s else pfx 127 0 (s.size:Int)++bytesOf s
theorem D0H(s:X0):(B21 s).length<=s.size+5:=by
  unfold B21;split
  · have:=B4r 127 128 ((R9 s).length:Int);simp only [List.length_append];omega
  · have:=B4r 127 0 (s.size:Int);simp only [List.length_append,bytesOf_length];omega
theorem D0I(s:X0):Byt (B21 s):=by
  unfold B21;split
  · exact A03 (C1p _ _ _) (D74 s)
  · exact A03 (C1p _ _ _) (B3e s)
theorem B3f(s:X0)(a:List Int)(ha:a.length<=100000000000)(hs:s.size<=16777216):A1N a s=some (a++B21 s,()):=by
  simp only [A1N,A9P,B7U,C89 s (by omega),A4];by_cases h:(R9 s).length<s.size
  · have h':((R9 s).length:Int)<(s.size:Int):=by omega
    have hp:=B4r 127 128 ((R9 s).length:Int);rw [A0 h',cond_true,(D0F ((R9 s).length:Int) a (by omega) (by omega) (by omega)).2];simp only [];rw [C74 s _ (by simp only [List.length_append];omega) (by omega)];simp only [B21,if_pos h,List.append_assoc]
  · have h':¬ ((R9 s).length:Int)<(s.size:Int):=by omega
    have hp:=B4r 127 0 (s.size:Int);rw [A3 h',cond_false,(E3H (s.size:Int) a (by omega) (by omega) (by omega)).2];simp only [];rw [A0 (by simp only [List.length_append];omega),cond_true,B21,if_neg h,List.append_assoc]
set_option maxRecDepth 100000
def fstS:X0:=⟨#[58,97,117,116,104,111,114,105,116,121,124,58,109,101,116,104,111,100,61,71,69,84,124,58,109,101,116,104,111,100,61,80,79,83,84,124,58,112,97,116,104,61,47,124,58,112,97,116,104,61,47,105,110,100,101,120,46,104,116,109,108,124,58,115,99,104,101,109,101,61,104,116,116,112,124,58,115,99,104,101,109,101,61,104,116,116,112,115,124,58,115,116,97,116,117,115,61,50,48,48,124,58,115,116,97,116,117,115,61,50,48,52,124,58,115,116,97,116,117,115,61,50,48,54,124,58,115,116,97,116,117,115,61,51,48,52,124,58,115,116,97,116,117,115,61,52,48,48,124,58,115,116,97,116,117,115,61,52,48,52,124,58,115,116,97,116,117,115,61,53,48,48,124,97,99,99,101,112,116,45,99,104,97,114,115,101,116,124,97,99,99,101,112,116,45,101,110,99,111,100,105,110,103,61,103,122,105,112,44,32,100,101,102,108,97,116,101,124,97,99,99,101,112,116,45,108,97,110,103,117,97,103,101,124,97,99,99,101,112,116,45,114,97,110,103,101,115,124,97,99,99,101,112,116,124,97,99,99,101,115,115,45,99,111,110,116,114,111,108,45,97,108,108,111,119,45,111,114,105,103,105,110,124,97,103,101,124,97,108,108,111,119,124,97,117,116,104,111,114,105,122,97,116,105,111,110,124,99,97,99,104,101,45,99,111,110,116,114,111,108,124,99,111,110,116,101,110,116,45,100,105,115,112,111,115,105,116,105,111,110,124,99,111,110,116,101,110,116,45,101,110,99,111,100,105,110,103,124,99,111,110,116,101,110,116,45,108,97,110,103,117,97,103,101,124,99,111,110,116,101,110,116,45,108,101,110,103,116,104,124,99,111,110,116,101,110,116,45,108,111,99,97,116,105,111,110,124,99,111,110,116,101,110,116,45,114,97,110,103,101,124,99,111,110,116,101,110,116,45,116,121,112,101,124,99,111,111,107,105,101,124,100,97,116,101,124,101,116,97,103,124,101,120,112,101,99,116,124,101,120,112,105,114,101,115,124,102,114,111,109,124,104,111,115,116,124,105,102,45,109,97,116,99,104,124,105,102,45,109,111,100,105,102,105,101,100,45,115,105,110,99,101,124,105,102,45,110,111,110,101,45,109,97,116,99,104,124,105,102,45,114,97,110,103,101,124,105,102,45,117,110,109,111,100,105,102,105,101,100,45,115,105,110,99,101,124,108,97,115,116,45,109,111,100,105,102,105,101,100,124,108,105,110,107,124,108,111,99,97,116,105,111,110,124,109,97,120,45,102,111,114,119,97,114,100,115,124,112,114,111,120,121,45,97,117,116,104,101,110,116,105,99,97,116,101,124,112,114,111,120,121,45,97,117,116,104,111,114,105,122,97,116,105,111,110,124,114,97,110,103,101,124,114,101,102,101,114,101,114,124,114,101,102,114,101,115,104,124,114,101,116,114,121,45,97,102,116,101,114,124,115,101,114,118,101,114,124,115,101,116,45,99,111,111,107,105,101,124,115,116,114,105,99,116,45,116,114,97,110,115,112,111,114,116,45,115,101,99,117,114,105,116,121,124,116,114,97,110,115,102,101,114,45,101,110,99,111,100,105,110,103,124,117,115,101,114,45,97,103,101,110,116,124,118,97,114,121,124,118,105,97,124,119,119,119,45,97,117,116,104,101,110,116,105,99,97,116,101]⟩
noncomputable def firstT:List A5:=match C9v with
  | some (x,_)=>x
  | none=> []
theorem A5U:firstT.length=61:=rfl
theorem D75:(firstT.all fun f=>Nat.ble (f.1.size+f.2.size) 100)=true:=by kernel_rfl
def fstP:List (List UInt8):=Lib.splitK [124] 0 (Lib.count fstS.data.toList [124]) fstS.data.toList
theorem D9p:(fstP.map fun x=>((Lib.cut x [61]).1,(Lib.cut x [61]).2.1))=firstT.map fun f=>(f.1.data.toList,f.2.data.toList):=by kernel_rfl
theorem E1u:(fstP.all fun x=>Nat.ble x.length 100)=true:=by kernel_rfl
theorem D38:(Lib.splitB ⟨#[124]⟩ 0 (Lib.countB fstS ⟨#[124]⟩) fstS).map (·.data.toList)=fstP:=by
  rw [Lib.splitB_data];rfl
theorem E1v:fstS.size<4294967281:=by
  have:Nat.ble (fstS.size+1) 4294967281=true:=by kernel_rfl
  exact Nat.le_of_ble_eq_true this
theorem A4F{α β:Type}{f:α->Option (α⊕β)}{x y:α}(h:f x=some (.inl y)):C2 f x=C2 f y:=by rw [C3,h]
theorem E2V{l:List UInt8}{b:X0}(h:l=b.data.toList):(⟨l.toArray⟩:X0)=b:=by
  subst h;simp
theorem D76(s:X0)(P:List (List UInt8))(F:List A5)(hs:s.size<4294967281)(h0:(Lib.splitB ⟨#[124]⟩ 0 (Lib.countB s ⟨#[124]⟩) s).map (·.data.toList)=P)
    (hP:(P.map fun x=>((Lib.cut x [61]).1,(Lib.cut x [61]).2.1))=F.map fun f=>(f.1.data.toList,f.2.data.toList)) (hz:(P.all fun x=>Nat.ble x.length 100)=true) :
    ∃ c:List X0,A5c s ⟨#[124]⟩=some (c,())/\c.length=F.length/\∀ k (h:k<c.length) (h2:k<F.length),∃ b,C1t c[k] ⟨#[61]⟩=some (F[k].1,F[k].2,b,()):=by
  have h1:(decide (s.size<4294967281)&&decide (1<=(⟨#[124]⟩:X0).size))=true:=by
    rw [A0 hs];rfl
  refine ⟨_,by simp only [A5c,h1,cond_true];rfl,?_,fun k hk hk3=>?_⟩
  · have:=congrArg List.length h0
    rw [List.length_map] at this;rw [this];have h2:=congrArg List.length hP;rw [List.length_map,List.length_map] at h2;exact h2
  · generalize hc:Lib.splitB ⟨#[124]⟩ 0 (Lib.countB s ⟨#[124]⟩) s=c at *
    have e:=h0;have hk2:k<P.length:=by rw [<- e,List.length_map];exact hk
    have e1:(c[k]).data.toList=P[k]:=by
      have:(c.map (·.data.toList))[k]? = P[k]?:=by rw [e]
      rw [List.getElem?_map,List.getElem?_eq_getElem hk,List.getElem?_eq_getElem hk2] at this;simpa using this
    have e2:((Lib.cut P[k] [61]).1,(Lib.cut P[k] [61]).2.1)=(F[k].1.data.toList,F[k].2.data.toList):=by
      have:(P.map fun x=>((Lib.cut x [61]).1,(Lib.cut x [61]).2.1))[k]? = (F.map fun f=>(f.1.data.toList,f.2.data.toList))[k]?:=by rw [hP]
      rw [List.getElem?_map,List.getElem?_eq_getElem hk2,List.getElem?_map,List.getElem?_eq_getElem hk3] at this;simpa only [Option.map_some,Option.some.injEq] using this
    have e3:(c[k]).size<=100:=by
      have h4:=List.all_eq_true.1 hz P[k] (List.getElem_mem hk2);have h5:=Nat.le_of_ble_eq_true h4;rw [<- e1] at h5;exact h5
    refine ⟨(Lib.cut P[k] [61]).2.2,?_⟩;have e4:(c[k]).size<4294967281:=by omega
    have e5:(⟨#[61]⟩:X0).data.toList = [61]:=rfl;simp only [C1t,A0 e4,cond_true,e1,e5];rw [E2V (congrArg Prod.fst e2),E2V (congrArg Prod.snd e2)]
theorem B0I:T2=some (firstT,()):=by
  obtain ⟨c,hc,hcl,hca⟩:=D76 fstS fstP firstT E1v D38 D9p E1u;have e0:T2=A4 (A5c fstS ⟨#[124]⟩) fun c7=>C2 (W8 C1t c7) (0,[],()):=rfl
  rw [e0,hc];simp only [A4];have hF:=A5U;generalize firstT=F at *
  refine (N6 (W8 C1t (c,())) (fun k=>((k:Int),F.take k,())) 61 (F,()) (fun k hk=>?_) ?_)
  · have h1:(k:Int)<(c.length:Int):=by omega
    have h2:(0:Int)<=(k:Int):=by omega
    obtain ⟨b,hb⟩:=hca k (by omega) (by omega);have h6:rd .str c (k:Int)=c[k]'(by omega):=A6O (k:=.str) (by omega);simp only [W8,A0 h1,A0 h2,cond_true,h6,hb,A4];rw [D36 (by simp;omega),w64 (by omega) (by omega)];have e7:F.take (k+1)=F.take k ++ [(F[k]'(by omega))]:=by
      rw [List.take_succ_eq_append_getElem (by omega)]
    rw [e7];rfl
  · have h1:¬ ((61:Nat):Int)<(c.length:Int):=by omega
    simp only [W8,A3 h1,cond_false];rw [List.take_of_length_le (by omega)]
theorem D0J(F T:List A5)(h1:F.length<=1000000000)(h2:T.length<=1000000000):E1 [F,T]=some (F++T,()):=by
  have r0:rd (.sl 150 A7) ([F,T]:List (List A5)) 0=F:=rfl;have r1:rd (.sl 150 A7) ([F,T]:List (List A5)) 1=T:=rfl;have hl:(([F,T]:List (List A5)).length:Int)=2:=rfl;have d0:decide ((0:Int)<2)=true:=rfl;have d1:decide ((0:Int)<=0)=true:=rfl;have d2:decide ((1:Int)<2)=true:=rfl;have d3:decide ((0:Int)<=1)=true:=rfl;have a1:C2 (F3 [F,T]) (0,0,())=some ((F.length:Int)+T.length,()):=by
    rw [A4F (y:=((F.length:Int),1,())) (by
      simp only [F3,hl,r0,d0,d1,cond_true,Int.zero_add];rw [w64 (n:=(F.length:Int)) (by omega) (by omega),A3 (p:=(F.length:Int)<0) (by omega)];rfl)]
    rw [A4F (y:=((F.length:Int)+T.length,2,())) (by
      simp only [F3,hl,r1,d2,d3,cond_true];rw [w64 (n:=(F.length:Int)+T.length) (by omega) (by omega),A3 (p:=(F.length:Int)+T.length<0) (by omega)];rfl)]
    rw [C3];rfl
  have a2:A6I ([]:List A5) ((F.length:Int)+T.length)=some ([],()):=by
    have:(([]:List A5).isEmpty&&decide (0<=(F.length:Int)+T.length)&&decide ((F.length:Int)+T.length<=1000000000000))=true:=by
      rw [A0 (by omega),A0 (by omega)];rfl
    simp only [A6I,this,cond_true]
  have a3:C2 (F4 [F,T]) (0,[],())=some (F++T,()):=by
    rw [A4F (y:=(1,F,())) (by
      simp only [F4,hl,r0,d0,d1,cond_true];rw [D36 (by simp;omega)];rfl)]
    rw [A4F (y:=(2,F++T,())) (by
      simp only [F4,hl,r1,d2,d3,cond_true];rw [D36 (by omega)];rfl)]
    rw [C3];rfl
  simp only [E1,K7,a1,A4];rw [show H5=A6I from rfl,a2];exact a3
def B3g(all:List A5)(f:A5):Nat->Int
  | 0=>0
  | k+1=>if B3g all f k=0 then (if ((rd A7 all (k:Int)).1.toList == f.1.toList) then (k:Int)+1 else 0) else B3g all f k
theorem D0K(all:List A5)(f:A5):∀ k:Nat,0<=B3g all f k/\B3g all f k<=k
  | 0=>⟨Int.le_refl _,Int.le_refl _⟩
  | k+1=>by
    have:=D0K all f k;simp only [B3g];split
    · split<;>omega
    · omega
def exa(all:List A5)(f:A5)(k:Nat):Bool:=!eqB [(rd A7 all (k:Int)).1,(rd A7 all (k:Int)).2] [f.1,f.2]
def fnd(all:List A5)(f:A5)(k:Nat):(Int×Unit)⊕(Int×Bool×Unit):=if k<all.length then .inr ((k:Int)+1,true,()) else .inl (B3g all f all.length,())
def A0k(all:List A5)(f:A5):Int×Bool:=
  if K2 (exa all f) 0 all.length<all.length then ((K2 (exa all f) 0 all.length:Int)+1,true) else (B3g all f all.length,false)
theorem C75(all:List A5)(f:A5):0<=(A0k all f).1/\(A0k all f).1<=all.length:=by
  unfold A0k;split
  · exact ⟨by simp only [];omega,by simp only [];omega⟩
  · exact D0K all f all.length
theorem D0L(all:List A5)(f:A5)(hl:all.length<=1000000000)(k:Nat)(hk:k<all.length) :
    W5 (all,()) f (B3g all f k,(k:Int),())=if exa all f k then some (.inl (B3g all f (k+1),((k+1:Nat):Int),())) else some (.inr (fnd all f k)):=by
  have h1:(k:Int)<(all.length:Int):=by omega
  have h2:(0:Int)<=(k:Int):=by omega
  simp only [W5,A0 h1,A0 h2,cond_true];rw [w64 (by omega) (by omega)];unfold exa fnd;cases eqB [(rd A7 all (k:Int)).1,(rd A7 all (k:Int)).2] [f.1,f.2] with
  | true=>simp only [cond_true,Bool.not_true,if_pos hk];rfl
  | false=>
    simp only [cond_false,Bool.not_false,if_true,B3g];by_cases hb:B3g all f k=0
    · simp only [hb,decide_true,cond_true,if_true]
      cases ((rd A7 all (k:Int)).1.toList == f.1.toList)<;>simp
    · simp only [A3 hb,cond_false,if_neg hb]
      rfl
theorem E1w(all:List A5)(f:A5):(D7 (some (fnd all f (K2 (exa all f) 0 all.length))) fun (m1:Int×Unit)=>some (m1.1,false,()))=some ((A0k all f).1,(A0k all f).2,()):=by
  unfold A0k fnd;by_cases h:K2 (exa all f) 0 all.length<all.length
  · simp only [if_pos h,D7]
  · simp only [if_neg h,D7]
theorem D39(all:List A5)(f:A5)(hl:all.length<=1000000000):(D7 (C2 (W5 (all,()) f) (0,0,())) fun (m1:Int×Unit)=>some (m1.1,false,()))=some ((A0k all f).1,(A0k all f).2,()):=by
  have:=B3c (W5 (all,()) f) (fun k=>(B3g all f k,(k:Int),())) all.length (fnd all f) (exa all f) (fun k hk=>D0L all f hl k hk) (by
    have h1:¬ ((all.length:Nat):Int)<(all.length:Int):=by omega
    have h2:¬ all.length<all.length:=by omega
    simp only [W5,A3 h1,cond_false,fnd,if_neg h2])
  rw [show ((0:Int),(0:Int),())=(fun k:Nat=>(B3g all f k,(k:Int),())) 0 from rfl,this];exact E1w all f
theorem C35(t:B4)(f:A5)(h:t.2.length<=900000000):A3L t f=some ((A0k (firstT++t.2) f).1,(A0k (firstT++t.2) f).2,()):=by
  have hF:=A5U;have:=D39 (firstT++t.2) f (by rw [List.length_append];omega);simp only [A3L,A9N,B0I,A4,D0J firstT t.2 (by omega) (by omega)];exact this
theorem E20{F T:List A5}{k:Nat}(h:k<F.length):rd A7 (F++T) (k:Int)=rd A7 F (k:Int):=by
  unfold rd;simp only [Int.toNat_natCast,List.getD_eq_getElem?_getD];rw [List.getElem?_append_left h]
theorem E21{F T:List A5}{k:Nat}{i:Int}(h:F.length<=k)(hi:i=(k:Int)-F.length):rd A7 (F++T) (k:Int)=rd A7 T i:=by
  subst hi;unfold rd;rw [show ((k:Int)-F.length).toNat=k-F.length by omega];simp only [Int.toNat_natCast,List.getD_eq_getElem?_getD];rw [List.getElem?_append_right h]
set_option maxRecDepth 100000
def ofF(f:A5):Int:=(f.1.size:Int)+f.2.size+32
def szT:List A5->Int
  | []=>0
  | f::fs=>ofF f+szT fs
theorem B7W(f:A5):32<=ofF f:=by unfold ofF;omega
theorem A5p:∀ fs:List A5,32*(fs.length:Int)<=szT fs
  | []=>by simp [szT]
  | f::fs=>by
    have:=A5p fs;have:=B7W f;simp only [szT,List.length_cons];omega
theorem C8B:∀ a b:List A5,szT (a++b)=szT a+szT b
  | [],b=>by simp [szT]
  | f::a,b=>by simp only [List.cons_append,szT,C8B a b];omega
theorem D9q(fs:List A5)(i:Nat):szT (fs.take i)<=szT fs:=by
  have h:=C8B (fs.take i) (fs.drop i);rw [List.take_append_drop] at h;have:=A5p (fs.drop i);omega
theorem D0M(fs:List A5){i:Nat}(h:i<fs.length):szT (fs.take (i+1))=szT (fs.take i)+ofF fs[i]:=by
  rw [List.take_succ_eq_append_getElem h,C8B];simp [szT]
theorem E22(f:A5)(h:ofF f<=10000000000000):C9s f=some (ofF f,()):=by
  unfold ofF at *
  simp only [C9s,C9r];rw [w64 (n:=(f.1.size:Int)+f.2.size) (by omega) (by omega),w64 (by omega) (by omega)]
theorem C0A(f:A5)(h:ofF f<=10000000000000):A1t f=some (ofF f,()):=E22 f h
theorem D0N(xs:List A5)(h:xs.length<=1000000000):C5 xs=some (xs,()):=by
  simp only [C5,L6];rw [D36 (by simp;omega)];by_cases h0:0<xs.length
  · rw [A0 h0,cond_true];rfl
  · rw [A3 h0,cond_false]
    have:xs = []:=List.length_eq_zero_iff.1 (by omega);subst this;simp [eqO]
theorem A4m(t:B4)(h:t.2.length<=1000000000):I7 t=some (t,()):=by
  simp only [I7,A9L,D0N t.2 h,A4]
theorem E2W(m:Int)(fs:List A5)(hm:0<=m)(hm2:m<=1000000)(hs:szT fs<=1000000000) :
    ∃ k,k<=fs.length/\(k<fs.length->decide (0<=m-szT (fs.take (k+1)))=false)/\O6 (m,fs)=some ((m,fs.take k),())/\szT (fs.take k)<=m:=by
  have hl:=A5p fs;obtain ⟨k,hk,ht,hf,he⟩:=A5T (A2H A1t C5 (m,fs)) (fun i=>(m-szT (fs.take i),(i:Int),())) fs.length (fun i=>((m,fs.take i),())) (fun i=>decide (0<=m-szT (fs.take (i+1)))) (fun i hi=>by
    have h1:(i:Int)<(fs.length:Int):=by omega
    have h2:(0:Int)<=(i:Int):=by omega
    have h22:(i:Int)<=(fs.length:Int):=by omega
    have h3:=D0M fs hi;have h4:=D9q fs (i+1);have h5:=A5p (fs.take i);have h6:rd A7 fs (i:Int)=fs[i]:=A6O (k:=A7) hi;have h7:=B7W fs[i];have h8:=A5p (fs.take (i+1));simp only [A2H,A0 h1,A0 h2,A0 h22,cond_true,h6,List.drop_zero,Int.toNat_natCast];rw [C0A _ (by omega),D0N _ (by simp;omega)];simp only [A4];rw [w64 (n:=m-szT (fs.take i)-ofF fs[i]) (by omega) (by omega),w64 (n:=(i:Int)+1) (by omega) (by omega)];by_cases hq:0<=m-szT (fs.take (i+1))
    · rw [A3 (by omega),cond_false,A0 hq,if_pos rfl,h3]
      rw [show m-szT (fs.take i)-ofF fs[i]=m-(szT (fs.take i)+ofF fs[i]) by omega];rfl
    · rw [A0 (by omega),cond_true,A3 hq]
      rfl) (by
    have h1:¬ ((fs.length:Nat):Int)<(fs.length:Int):=by omega
    simp only [A2H,A3 h1,cond_false];rw [List.take_of_length_le (by omega)])
  have hkm:szT (fs.take k)<=m:=by
    cases k with
    | zero=>simp [szT];omega
    | succ k=>have:=of_decide_eq_true (ht k (by omega));omega
  refine ⟨k,hk,hf,?_,hkm⟩;simp only [O6,A7W];have e0:(m,(0:Int),())=(fun i:Nat=>(m-szT (fs.take i),(i:Int),())) 0:=by simp [szT]
  rw [e0];exact he
theorem E40(t:B4)(f:A5)(hm:0<=t.1)(hm2:t.1<=1000000)(hs:szT t.2+ofF f<=1000000000) :
    ∃ T,Q8 t f=some ((t.1,T),())/\szT T<=t.1:=by
  obtain ⟨m,fs⟩:=t;have hl:=A5p fs;have hf:=B7W f;simp only at hm hm2 hs;obtain ⟨k,_,_,h1,h3⟩:=E2W m (f::fs) hm hm2 (by simp only [szT];omega);refine ⟨(f::fs).take k,?_,h3⟩;have e:C6u fs 0 [f]=some (f::fs,()):=by
    simp only [C6u];rw [A0 (by omega),A0 (by omega),A0 (by simp),A0 (by simp;omega)];rfl
  simp only [Q8,A9M,show G6=C6u from rfl,e,A4,h1]
def P9(t:B4):Prop:=0<=t.1/\t.1<=4096/\szT t.2<=t.1
theorem A3o{t:B4}(h:P9 t):t.2.length<=128:=by
  have:=A5p t.2;obtain ⟨h0,h1,h2⟩:=h;omega
theorem bO{A B:Type}(x:A)(f:A->Option B):A4 (some x) f=f x:=rfl
theorem bSl{A B:Type}(x:A)(f:A->Option B):D7 (some (Sum.inl x)) f=f x:=rfl
theorem bSr{A B:Type}(y:B)(f:A->Option B):D7 (some (Sum.inr y)) f=some y:=rfl
set_option maxRecDepth 100000
def itB(n:Int):X0:=⟨(Lib.itoa n).toArray⟩
theorem C1q(n:Int)(h0:0<=n)(h1:n<=4294967295):O5 n=some (itB n,()):=by
  have e:(decide (-9223372036854775808<=n)&&decide (n<=9223372036854775807))=true:=by
    rw [A0 (by omega),A0 (by omega)];rfl
  rw [show O5 n=C1u n from rfl];simp only [C1u,e,cond_true];rfl
theorem C0B{r:A1m}(h:B6j r=true):(1<=r.1/\r.1<=6)/\r.2.1.size<=8/\0<=r.2.2/\r.2.2<=4294967295:=by
  simp only [B6j,idB,Bool.and_eq_true,decide_eq_true_eq] at h;refine ⟨h.1.1,by omega,h.2.1,?_⟩;have:=h.2.2;unfold C86 at this;split at this
  · omega
  · split at this
    · omega
    · split at this<;>omega
set_option maxRecDepth 100000
def czN(a:Int):Nat:=if a<1 then 1 else if a>1000 then 1000 else a.toNat
theorem B7a(a:Int):1<=czN a/\czN a<=1000:=by
  unfold czN;split
  · omega
  · split<;>omega
theorem D9r(a:Int):(bif decide ((bif decide (1000<a) then 1000 else a)>1) then (bif decide (1000<a) then 1000 else a) else 1)=(czN a:Int):=by
  unfold czN;by_cases h2:1000<a
  · rw [A0 h2,cond_true,if_neg (by omega),if_pos (by omega)];rfl
  · rw [A3 h2,cond_false]
    by_cases h:a>1
    · rw [A0 h,cond_true,if_neg (by omega),if_neg (by omega)];omega
    · rw [A3 h,cond_false]
      by_cases h3:a<1
      · rw [if_pos h3];rfl
      · rw [if_neg h3,if_neg (by omega)];omega
theorem D3A(a:Int):czN ((czN a:Nat):Int)=czN a:=by
  have:=B7a a;generalize czN a=n at *
  unfold czN;rw [if_neg (by omega),if_neg (by omega)];omega
def ceN(n L:Nat):Nat:=(L+n-1) / n
theorem B3h{n L j:Nat}(hn:0<n):j<ceN n L↔j*n<L:=by
  unfold ceN;rw [Nat.lt_iff_add_one_le,Nat.le_div_iff_mul_le hn,Nat.succ_mul];omega
theorem C8C{n L:Nat}(hn:0<n):L<=ceN n L*n:=by
  have h:¬ ceN n L<ceN n L:=Nat.lt_irrefl _;rw [B3h hn] at h;omega
theorem C36{n L:Nat}(hn:0<n):ceN n L<=L:=by
  have h:¬ L<ceN n L:=by
    rw [B3h hn];have:=Nat.le_mul_of_pos_right L hn;omega
  omega
def frx(id fl:Int)(n:Nat)(xs:List Int)(j:Nat):B0:=(if j=0 then 1 else 9,if j=0 then fl else 0,id,O4 n xs j)
def frs(id fl:Int)(n:Nat)(xs:List Int):Nat->List B0
  | 0=> []
  | j+1=>frs id fl n xs j ++ [frx id fl n xs j]
theorem B7b(id fl:Int)(n:Nat)(xs:List Int):∀ j,(frs id fl n xs j).length=j
  | 0=>rfl
  | j+1=>by simp only [frs,List.length_append,B7b id fl n xs j,List.length_singleton]
def D77(f:B0):B0:=(f.1,bOr .i64 f.2.1 4,f.2.2)
def A69(id fl:Int)(n:Nat)(xs:List Int):List B0:=frs id fl n xs (max 1 (ceN n xs.length)-1) ++ [D77 (frx id fl n xs (max 1 (ceN n xs.length)-1))]
theorem C8D{A:List B0}{x:B0}:rd K6 (A ++ [x]) (A.length:Int)=x:=by
  simp [rd]
theorem D0O{A:List B0}{x y:B0}:(A ++ [x]).set A.length y=A ++ [y]:=by
  simp [List.set_append_right]
theorem A4G(xs:List Int)(h:xs.length<=1000000000):A9 xs=some (xs,()):=by
  simp only [A9,R0];rw [gA (by simp;omega)];by_cases h0:0<xs.length
  · rw [A0 h0,cond_true];rfl
  · rw [A3 h0,cond_false]
    have:xs = []:=List.length_eq_zero_iff.1 (by omega);subst this;simp [eqO]
theorem A2V(n:Nat)(xs:List Int)(j:Nat):(O4 n xs j).length=min (j*n+n) xs.length-j*n:=by
  simp [O4]
theorem C37{X Y:Type}(G:X->Y->Option Y):∀ (xs:List X) (x:X) (y:Y),B2P G (xs ++ [x]) y=A4 (B2P G xs y) (G x)
  | [],x,y=>by
    simp only [List.nil_append,B2P,bO];cases G x y<;>rfl
  | z::xs,x,y=>by
    simp only [List.cons_append,B2P];cases G z y with
    | none=>rfl
    | some y'=>exact C37 G xs x y'
theorem D0P(id fl:Int)(n:Nat)(xs:List Int)(hn:0<n)(hx:xs.length<=100000000):∀ j,j<=ceN n xs.length->
    B2P (B1a A9 id) ((List.range j).map (O4 n xs)) ([(1,(fl,(id,[])))],())=some (if j=0 then [(1,(fl,(id,[])))] else frs id fl n xs j,()):=by
  have hC:=C36 (n:=n) (L:=xs.length) hn;intro j
  induction j with
  | zero=>intro _;rfl
  | succ j ih=>
    intro hj;have hlt:=(B3h (n:=n) (L:=xs.length) (j:=j) hn).1 (by omega);have hpl:=A2V n xs j;rw [List.range_succ,List.map_append,List.map_cons,List.map_nil,C37,ih (by omega),bO,if_neg (Nat.succ_ne_zero j)];have hcl:=A4G (O4 n xs j) (by omega);cases j with
    | zero=>
      simp only [if_true,B1a,List.length_singleton];rw [show IntKind.i64.wrap (((1:Nat):Int)-1)=0 from rfl];have r0:rd K6 ([(1,(fl,(id,[])))]:List B0) 0=(1,(fl,(id,[]))):=rfl;rw [A0 (by omega),A0 (by omega),r0];simp only [cond_true,List.length_nil];rw [A3 (by omega),cond_false,hcl];rfl
    | succ j=>
      have hpl':=A2V n xs j;have hlt':=(B3h (n:=n) (L:=xs.length) (j:=j) hn).1 (by omega);rw [if_neg (Nat.succ_ne_zero j)];have hfl:=B7b id fl n xs j;have e1:frs id fl n xs (j+1)=frs id fl n xs j ++ [frx id fl n xs j]:=rfl;have hl2:=B7b id fl n xs (j+1);have w1:IntKind.i64.wrap (((frs id fl n xs (j+1)).length:Int)-1)=((frs id fl n xs j).length:Int):=by rw [hl2,hfl,w64 (by omega) (by omega)];omega
      have hl3:∀ y:B0,(frs id fl n xs (j+1) ++ [y]).length=j+2:=fun y=>by rw [List.length_append,hl2];rfl
      have w2:∀ y:B0,IntKind.i64.wrap (((frs id fl n xs (j+1) ++ [y]).length:Int)-1)=((frs id fl n xs (j+1)).length:Int):=fun y=>by rw [hl3,hl2,w64 (by omega) (by omega)];omega
      have hq:((rd K6 (frs id fl n xs (j+1)) ((frs id fl n xs j).length:Int)).2.2.2.length:Int)>0:=by
        rw [e1,C8D];simp only [frx];rw [hpl'];have:=Nat.succ_mul j n;omega
      simp only [B1a,w1,w2];rw [A0 (by omega),A0 (by rw [hfl,hl2];omega)];simp only [cond_true];rw [A0 hq,cond_true,E4k (by rw [hl2];simp;omega),A0 (by omega),A0 (by rw [hl2,hl3];omega),hcl];simp only [cond_true,bO,Int.toNat_natCast,C8D,D0O];rfl
theorem C76(id:Int)(a1:Bool)(xs:List Int)(a3:Int)(hid:1<=id/\id<=2147483647)(hx:xs.length<=100000000) :
    A7b id a1 xs a3=some (A69 id (if a1 then 1 else 0) (czN a3) xs,()):=by
  have hn:=B7a a3;have hn0:0<czN a3:=by omega
  have hC:=C36 (n:=czN a3) (L:=xs.length) hn0;have e1:(bif a1 then bif decide (0<(([(1,(0,(id,[])))]:List B0).length:Int)) then A4 (some (([(1,(0,(id,[])))]).set 0 ((rd K6 ([(1,(0,(id,[])))]) 0).1,(1,(rd K6 ([(1,(0,(id,[])))]) 0).2.2)))) fun (c9002:List B0)=>some (c9002,()) else none else some ([(1,(0,(id,[])))],()))=some (([(1,((if a1 then 1 else 0),(id,[])))]:List B0),()):=by
    cases a1<;>rfl
  simp only [bO] at e1;simp only [A7b,C2t,F7,A0 hid,bO,Bool.not_true,cond_false,D9r];rw [e1];simp only [bO];have f1:=D0P id (if a1 then 1 else 0) (czN a3) xs hn0 hx (ceN (czN a3) xs.length) (Nat.le_refl _);generalize (if a1 then (1:Int) else 0)=fl at *
  unfold A69;generalize czN a3=n at *
  have hpc:pieces n xs=(List.range (ceN n xs.length)).map (O4 n xs):=rfl;rw [A0 (by omega),A0 (by omega),A0 (by omega)];simp only [cond_true,Int.toNat_natCast];rw [hpc,f1];simp only [bO];have e2:(if ceN n xs.length=0 then ([(1,(fl,(id,[])))]:List B0) else frs id fl n xs (ceN n xs.length))=frs id fl n xs (max 1 (ceN n xs.length)-1) ++ [frx id fl n xs (max 1 (ceN n xs.length)-1)]:=by
    by_cases h:ceN n xs.length=0
    · rw [if_pos h,h]
      have hx0:xs = []:=by
        have:=C8C (n:=n) (L:=xs.length) hn0;rw [h] at this;exact List.length_eq_zero_iff.1 (by omega)
      subst hx0;simp [frs,frx,O4]
    · rw [if_neg h,show max 1 (ceN n xs.length)=(max 1 (ceN n xs.length)-1)+1 by omega]
      have:ceN n xs.length=(max 1 (ceN n xs.length)-1)+1:=by omega
      conv=>lhs;rw [this]
      rfl
  have hl:=B7b id fl n xs (max 1 (ceN n xs.length)-1);rw [e2];generalize frs id fl n xs (max 1 (ceN n xs.length)-1)=A at *
  generalize frx id fl n xs (max 1 (ceN n xs.length)-1)=x at *
  have hl1:(A ++ [x]).length=A.length+1:=by simp
  have w1:IntKind.i64.wrap (((A ++ [x]).length:Int)-1)=(A.length:Int):=by rw [hl1,w64 (by omega) (by omega)];omega
  simp only [w1,C8D,D0O,Int.toNat_natCast];rw [A0 (by omega),A0 (by omega)];rfl
theorem fok(k fl id:Int)(q:List Int)(h1:0<=k/\k<=255)(h2:0<=fl/\fl<=255)(h3:0<=id/\id<=2147483647)(h4:(q.length:Int)<=1000):J6 (k,fl,id,q)=true:=by
  simp only [J6,A0 h1,A0 h2,A0 h3,A0 h4];rfl
theorem D9s(id:Int)(a1:Bool)(n:Nat)(xs:List Int)(hid:1<=id/\id<=2147483647)(hn:n<=1000)(j:Nat) :
    J6 (frx id (if a1 then 1 else 0) n xs j)=true/\J6 (D77 (frx id (if a1 then 1 else 0) n xs j))=true:=by
  have hpl:=A2V n xs j;have h1:((O4 n xs j).length:Int)<=1000:=by omega
  have h2:0<=id/\id<=2147483647:=by omega
  have b0:bOr .i64 0 4=4:=rfl;have b1:bOr .i64 1 4=5:=rfl;unfold D77 frx;rcases Nat.eq_zero_or_pos j with h | h
  · subst h
    cases a1
    · exact ⟨fok 1 0 id _ (by omega) (by omega) h2 h1,fok 1 (bOr .i64 0 4) id _ (by omega) (by rw [b0];omega) h2 h1⟩
    · exact ⟨fok 1 1 id _ (by omega) (by omega) h2 h1,fok 1 (bOr .i64 1 4) id _ (by omega) (by rw [b1];omega) h2 h1⟩
  · simp only [if_neg (show ¬ j=0 by omega)]
    exact ⟨fok 9 0 id _ (by omega) (by omega) h2 h1,fok 9 (bOr .i64 0 4) id _ (by omega) (by rw [b0];omega) h2 h1⟩
theorem D9t(id:Int)(a1:Bool)(n:Nat)(xs:List Int)(hid:1<=id/\id<=2147483647)(hn:n<=1000):∀ j,∀ f∈frs id (if a1 then 1 else 0) n xs j,J6 f=true
  | 0,f,hf=>by simp [frs] at hf
  | j+1,f,hf=>by
    simp only [frs,List.mem_append,List.mem_singleton] at hf;rcases hf with h | h
    · exact D9t id a1 n xs hid hn j f h
    · subst h;exact (D9s id a1 n xs hid hn j).1
theorem C38(id:Int)(a1:Bool)(n:Nat)(xs:List Int)(hid:1<=id/\id<=2147483647)(hn:n<=1000):∀ f∈A69 id (if a1 then 1 else 0) n xs,J6 f=true:=by
  intro f hf;simp only [A69,List.mem_append,List.mem_singleton] at hf;rcases hf with h | h
  · exact D9t id a1 n xs hid hn _ f h
  · subst h;exact (D9s id a1 n xs hid hn _).2
theorem C77(id fl:Int)(n:Nat)(xs:List Int)(hn:0<n):(A69 id fl n xs).length<=xs.length+1:=by
  have:=C36 (n:=n) (L:=xs.length) hn;simp only [A69,List.length_append,B7b,List.length_singleton];omega
def C5K(fs:List B0):Nat->List Int
  | 0=> []
  | k+1=>C5K fs k++E5 (fs.getD k (0,0,0,[]))
theorem A5V(f:B0)(h:J6 f=true):(E5 f).length<=1009:=by
  simp only [J6,Bool.and_eq_true,decide_eq_true_eq] at h;simp only [E5,List.length_append,A2U,List.length_cons,List.length_nil];omega
theorem B6k{f:B0}(h:Byt f.2.2.2):Byt (E5 f):=by
  unfold E5;refine A03 (A03 (A03 (D5T _ _) fun x hx=>?_) (D5T _ _)) h;simp only [List.mem_cons,List.not_mem_nil,or_false] at hx;rcases hx with rfl | rfl<;>exact wrap_u8 _
theorem B95{xs:List Int}(h:Byt xs)(n j:Nat):Byt (O4 n xs j):=B0G (B7S h _) _
theorem D5f{id fl:Int}{n:Nat}{xs:List Int}(h:Byt xs):∀ j,∀ f∈frs id fl n xs j,Byt f.2.2.2
  | 0,f,hf=>by cases hf
  | j+1,f,hf=>by
    rcases List.mem_append.1 hf with hf | hf
    · exact D5f h j f hf
    · rcases List.mem_singleton.1 hf with rfl;exact B95 h n j
theorem C78{id fl:Int}{n:Nat}{xs:List Int}(h:Byt xs):∀ f∈A69 id fl n xs,Byt f.2.2.2:=fun f hf=>by
  rcases List.mem_append.1 hf with hf | hf
  · exact D5f h _ f hf
  · rcases List.mem_singleton.1 hf with rfl;exact B95 h n _
theorem C39(fs:List B0)(h:∀ f∈fs,J6 f=true):∀ k,k<=fs.length->(C5K fs k).length<=1009*k
  | 0,_=>by simp [C5K]
  | k+1,hk=>by
    have h1:=C39 fs h k (by omega);have h2:fs.getD k (0,0,0,[])=fs[k]:=by rw [List.getD_eq_getElem?_getD,List.getElem?_eq_getElem (by omega)];rfl
    have h3:=A5V fs[k] (h _ (List.getElem_mem (by omega)));simp only [C5K,List.length_append,h2];omega
theorem D0Q{f:B0}(h:J6 f=true):f.2.2.2.length<=1000:=by
  simp only [J6,Bool.and_eq_true,decide_eq_true_eq] at h;omega
theorem B3i(fs:List B0)(h:∀ f∈fs,J6 f=true)(hl:fs.length<=1000000000):A0D [] fs=some (C5K fs fs.length,()):=by
  simp only [A0D,A9S];refine N6 (A3k E3 fs) (fun k=>((k:Int),C5K fs k,())) fs.length _ (fun k hk=>?_) ?_
  · have h1:(k:Int)<(fs.length:Int):=by omega
    have h2:(0:Int)<=(k:Int):=by omega
    have h3:rd K6 fs (k:Int)=fs[k]:=A6O (k:=K6) hk;have h4:fs.getD k (0,0,0,[])=fs[k]:=by rw [List.getD_eq_getElem?_getD,List.getElem?_eq_getElem (by omega)];rfl
    have h5:=C39 fs h k (by omega);have h6:=D0Q (h _ (List.getElem_mem hk));simp only [A3k,A0 h1,A0 h2,cond_true,h3];rw [A3U _ _ (by omega),bO,w64 (by omega) (by omega)];simp only [C5K,h4];rfl
  · have h1:¬ ((fs.length:Nat):Int)<(fs.length:Int):=by omega
    simp only [A3k,A3 h1,cond_false]
set_option maxRecDepth 100000
def A7w(id:Int)(n:Nat)(xs:List Int):Nat->List Int
  | 0=> []
  | j+1=>A7w id n xs j++E5 (0,(if xs.length<=j*n+n then 1 else 0),id,O4 n xs j)
theorem C8E(id:Int)(n:Nat)(xs:List Int)(hid:1<=id/\id<=2147483647)(hn:n<=1000)(j:Nat):J6 (0,(if xs.length<=j*n+n then 1 else 0),id,O4 n xs j)=true:=by
  have hpl:=A2V n xs j;refine fok _ _ _ _ (by omega) ?_ (by omega) (by omega);split<;>omega
theorem D0R(id:Int)(n:Nat)(xs:List Int)(hid:1<=id/\id<=2147483647)(hn:n<=1000):∀ j,(A7w id n xs j).length<=1009*j
  | 0=>by simp [A7w]
  | j+1=>by
    have h1:=D0R id n xs hid hn j;have h2:=A5V _ (C8E id n xs hid hn j);simp only [A7w,List.length_append];omega
theorem E3I(id:Int)(a4:Int)(xs o:List Int)(hid:1<=id/\id<=2147483647)(hx:xs.length<=100000000)(ho:o.length<=1000000000000) :
    C2 (U9 E3 a4 id) (xs,o,())=some (o++A7w id (czN a4) xs (ceN (czN a4) xs.length),()):=by
  have hn:=B7a a4;have hcz:=D9r a4;have hn0:0<czN a4:=by omega
  have hC:=C36 (n:=czN a4) (L:=xs.length) hn0;have hstep:∀ l,U9 E3 a4 id l=U9 E3 ((czN a4:Nat):Int) id l:=by
    intro l;have h2:=D9r ((czN a4:Nat):Int);rw [D3A] at h2;simp only [U9,hcz,h2]
  rw [funext hstep];generalize hnn:czN a4=n at *
  have hcz2:=D9r ((n:Nat):Int);rw [<- hnn,D3A,hnn] at hcz2;refine (N6 (U9 E3 (n:Int) id) (fun j=>(xs.drop (j*n),o++A7w id n xs j,())) (ceN n xs.length) _ (fun j hj=>?_) ?_ |> fun h=>by
    rw [show (xs,o,())=(fun j:Nat=>(xs.drop (j*n),o++A7w id n xs j,())) 0 by simp [A7w]];exact h)
  · have hlt:=(B3h (n:=n) (L:=xs.length) (j:=j) hn0).1 hj
    have hpl:=A2V n xs j;have hok:=C8E id n xs hid hn.2 j;have hbl:=D0R id n xs hid hn.2 j;have hfl:=A5V _ hok;have hol:(o++A7w id n xs j).length<=1000000000000+1009*j:=by rw [List.length_append];omega
    have e1:(A7w id n xs (j+1))=A7w id n xs j++E5 (0,(if xs.length<=j*n+n then 1 else 0),id,O4 n xs j):=rfl;have hdl:(xs.drop (j*n)).length=xs.length-j*n:=List.length_drop;have hm:(bif decide (((xs.drop (j*n)).length:Int)<(n:Int)) then ((xs.drop (j*n)).length:Int) else (n:Int))=((min (xs.length-j*n) n:Nat):Int):=by
      by_cases h:((xs.drop (j*n)).length:Int)<(n:Int)
      · rw [A0 h,cond_true,hdl];omega
      · rw [A3 h,cond_false];omega
    have hp:(xs.drop (j*n)).take (min (xs.length-j*n) n)=O4 n xs j:=by
      unfold O4;rw [List.drop_take];by_cases h:xs.length-j*n<=n
      · rw [Nat.min_eq_left h,List.take_of_length_le (by omega),List.take_of_length_le (by omega)]
      · rw [Nat.min_eq_right (by omega),show j*n+n-j*n=n by omega]
    have hd:((xs.drop (j*n)).take (xs.drop (j*n)).length).drop (min (xs.length-j*n) n)=xs.drop ((j+1)*n):=by
      rw [List.take_of_length_le (Nat.le_refl _),List.drop_drop];by_cases h:xs.length-j*n<=n
      · rw [Nat.succ_mul,List.drop_of_length_le (by omega),List.drop_of_length_le (by omega)]
      · rw [Nat.min_eq_right (by omega),Nat.succ_mul]
    have hd2:(xs.drop ((j+1)*n)).length=xs.length-(j*n+n):=by rw [List.length_drop,Nat.succ_mul]
    have hpf:∀ fl:Int,fl=(if xs.length<=j*n+n then 1 else 0)->E3 (o++A7w id n xs j) (0,(fl,(id,O4 n xs j)))=some (o++A7w id n xs (j+1),()):=by
      intro fl hfl2;subst hfl2;rw [A3U _ _ (by simp only [];omega),e1,List.append_assoc]
    simp only [U9,hcz2,hm];rw [A0 (p:=((xs.drop (j*n)).length:Int)>0) (by omega),A0 (p:=(0:Int)<=((min (xs.length-j*n) n:Nat):Int)) (by omega),A0 (p:=((min (xs.length-j*n) n:Nat):Int)<=((xs.drop (j*n)).length:Int)) (by omega)];simp only [cond_true,Int.toNat_natCast,List.drop_zero,hp,hd];by_cases hL:xs.length<=j*n+n
    · rw [A0 (by omega),cond_true,hpf 1 (by rw [if_pos hL])]
      rfl
    · rw [A3 (by omega),cond_false,hpf 0 (by rw [if_neg hL])]
      rfl
  · have h:=C8C (n:=n) (L:=xs.length) hn0
    have hdl:(xs.drop (ceN n xs.length*n)).length=xs.length-ceN n xs.length*n:=List.length_drop;have h1:¬ ((xs.drop (ceN n xs.length*n)).length:Int)>0:=by omega
    simp only [U9,A3 h1,cond_false]
set_option maxRecDepth 100000
theorem D9u{R:Type}{n:Nat}{X:Option R}(h:n<=1000000000000):(bif decide (n<=9223372036854775807) then bif decide (n*72<=140737488355328) then X else none else none)=X:=by
  rw [A0 (by omega),A0 (by omega)];rfl
def E41(c:Q4):Prop:=c.2.1.length<=2000000/\c.2.2.1.2.2.length<=2000000/\c.2.2.2.1.2.length<=2000000/\c.2.2.2.2.1.2.length<=2000000/\c.2.2.2.2.2.1.length<=2000000/\∀ x∈c.2.2.2.2.2.1,x.2.2.2.length<=2000000
theorem B5C(g:I6)(h:g.2.2.length<=2000000):V3 g=some (g,()):=by
  simp only [V3,A7d,A4G g.2.2 (by omega),A4]
theorem B3j(c:Q4)(h:E41 c):A0u c=some (c,()):=by
  obtain ⟨h1,h2,h3,h4,h5,h6⟩:=h;simp only [A0u,B1e,A4G c.2.1 (by omega),B5C _ h2,A4m c.2.2.2.1 (by omega),A4m c.2.2.2.2.1 (by omega),bO];refine N6 (A4U A9 c) (fun k=>((k:Int),c.1,c.2.2.1.1,c.2.2.1.2.1,c.2.2.2.1.1,c.2.2.2.2.1.1,c.2.2.2.2.2.2.1,c.2.2.2.2.2.2.2,c.2.1,c.2.2.1.2.2,c.2.2.2.1.2,c.2.2.2.2.1.2,c.2.2.2.2.2.1.take k,())) c.2.2.2.2.2.1.length (c,()) (fun k hk=>?_) ?_
  · have a1:(k:Int)<(c.2.2.2.2.2.1.length:Int):=by omega
    have a2:(0:Int)<=(k:Int):=by omega
    have a3:rd F5 c.2.2.2.2.2.1 (k:Int)=c.2.2.2.2.2.1[k]:=A6O (k:=F5) hk;have a4:=h6 _ (List.getElem_mem hk);simp only [A4U,A0 a1,A0 a2,cond_true,a3,A4G _ (show (c.2.2.2.2.2.1[k]).2.2.2.length<=1000000000 by omega),bO];rw [D9u (by simp;omega),w64 (by omega) (by omega),List.take_succ_eq_append_getElem hk];rfl
  · have a1:¬ ((c.2.2.2.2.2.1.length:Nat):Int)<(c.2.2.2.2.2.1.length:Int):=by omega
    simp only [A4U,A3 a1,cond_false];rw [List.take_of_length_le (Nat.le_refl _)]
def D9v(c:Q4)(j:Nat):Int:=(rd F5 c.2.2.2.2.2.1 (j:Int)).1
theorem str_eq(c:Q4)(id:Int)(h:c.2.2.2.2.2.1.length<=2000000):∃ i,i<=c.2.2.2.2.2.1.length/\(∀ j,j<i->D9v c j<id)/\(i<c.2.2.2.2.2.1.length->¬ D9v c i<id)/\
    K8 c id=some ((i:Int),(decide (i<c.2.2.2.2.2.1.length)&&decide (D9v c i=id)),c,()):=by
  obtain ⟨i,h1,h2,h3,h4⟩:=A5T (A4V c id) (fun j=>((j:Int),())) c.2.2.2.2.2.1.length (fun j=>((j:Int),())) (fun j=>decide (D9v c j<id)) (fun j hj=>by
    have a1:(j:Int)<(c.2.2.2.2.2.1.length:Int):=by omega
    have a2:(0:Int)<=(j:Int):=by omega
    simp only [A4V,A0 a1,A0 a2,cond_true];rw [w64 (by omega) (by omega)];unfold D9v;cases decide ((rd F5 c.2.2.2.2.2.1 (j:Int)).1<id)<;>rfl) (by
    have a1:¬ ((c.2.2.2.2.2.1.length:Nat):Int)<(c.2.2.2.2.2.1.length:Int):=by omega
    simp only [A4V,A3 a1,cond_false])
  refine ⟨i,h1,fun j hj=>by simpa using h2 j hj,fun hi=>by simpa using h3 hi,?_⟩;simp only [K8,A72];rw [show ((0:Int),())=(fun j:Nat=>((j:Int),())) 0 from rfl,h4];simp only [bO];by_cases hi:i<c.2.2.2.2.2.1.length
  · rw [A0 (p:=(i:Int)<(c.2.2.2.2.2.1.length:Int)) (by omega),A0 (p:=(0:Int)<=(i:Int)) (by omega),A0 hi]
    rfl
  · rw [A3 (p:=(i:Int)<(c.2.2.2.2.2.1.length:Int)) (by omega),A3 hi]
    rfl
set_option maxRecDepth 100000
def H8:Nat->Nat->List Bool
  | 0,_=> []
  | n+1,v=>v.testBit n::H8 n v
theorem A2W:∀ n v,(H8 n v).length=n
  | 0,_=>rfl
  | n+1,v=>by simp only [H8,List.length_cons,A2W n v]
theorem A4H(m:Nat):∀ (n v:Nat),n<=m->H8 n (v % 2 ^ m)=H8 n v
  | 0,_,_=>rfl
  | n+1,v,h=>by
    simp only [H8];rw [A4H m n v (by omega),Nat.testBit_mod_two_pow,A0 (show n<m by omega),Bool.true_and]
theorem B0J:∀ a b v,H8 (a+b) v=H8 a (v / 2 ^ b)++H8 b v
  | 0,b,v=>by simp [H8]
  | a+1,b,v=>by
    rw [show a+1+b=(a+b)+1 by omega];simp only [H8,List.cons_append];rw [B0J a b v,Nat.testBit_div_two_pow]
theorem B96:∀ n v w,v<2 ^ n->w<2 ^ n->H8 n v=H8 n w->v=w
  | 0,v,w,hv,hw,_=>by simp at hv hw;omega
  | n+1,v,w,hv,hw,h=>by
    simp only [H8,List.cons.injEq] at h;obtain ⟨h1,h2⟩:=h;rw [<- A4H n n v (Nat.le_refl _),<- A4H n n w (Nat.le_refl _)] at h2;have h3:=B96 n _ _ (Nat.mod_lt _ (Nat.two_pow_pos n)) (Nat.mod_lt _ (Nat.two_pow_pos n)) h2;rw [Nat.testBit_eq_decide_div_mod_eq,Nat.testBit_eq_decide_div_mod_eq] at h1;rw [Nat.pow_succ] at hv hw;have h0:=Nat.two_pow_pos n;generalize 2 ^ n=p at *
    have h4:=Nat.div_add_mod v p;have h5:=Nat.div_add_mod w p;have h6:v / p<2:=Nat.div_lt_of_lt_mul hv;have h7:w / p<2:=Nat.div_lt_of_lt_mul hw;have h8:v / p=w / p:=by
      clear h4 h5
      generalize v / p=a at *
      generalize w / p=b at *
      have q1:a=0\/a=1:=by omega
      have q2:b=0\/b=1:=by omega
      rcases q1 with rfl | rfl<;>rcases q2 with rfl | rfl<;>simp_all
    rw [h8] at h4;omega
theorem B22:∀ n m,n<=m->H8 n (2 ^ m-1)=List.replicate n true
  | 0,_,_=>rfl
  | n+1,m,h=>by
    simp only [H8,List.replicate_succ];rw [B22 n m (by omega),Nat.testBit_two_pow_sub_one,A0 (show n<m by omega)]
def F2(l:List Int):List Bool:=l.flatMap fun x=>H8 8 x.toNat
theorem B7c(a b:List Int):F2 (a++b)=F2 a++F2 b:=by simp [F2]
theorem A3W(x:Int)(b:List Int):F2 (x::b)=H8 8 x.toNat++F2 b:=by simp [F2]
theorem C8F(x:Int):F2 [x]=H8 8 x.toNat:=by simp [F2]
theorem A04:∀ l:List Int,(F2 l).length=8*l.length
  | []=>rfl
  | x::l=>by
    have:=A04 l;rw [A3W,List.length_append,A2W,List.length_cons];omega
theorem B7d:∀ {a b:List Int},Byt a->Byt b->F2 a=F2 b->a=b
  | [],[],_,_,_=>rfl
  | [],y::b,_,_,h=>by have:=congrArg List.length h;rw [A04,A04] at this;simp at this
  | x::a,[],_,_,h=>by have:=congrArg List.length h;rw [A04,A04] at this;simp at this
  | x::a,y::b,ha,hb,h=>by
    rw [A3W,A3W] at h;have h1:=List.append_inj h (by rw [A2W,A2W]);have hx:=ha x List.mem_cons_self;have hy:=hb y List.mem_cons_self;have h2:=B96 8 _ _ (by omega) (by omega) h1.1;have h3:=B7d (fun z hz=>ha z (List.mem_cons_of_mem _ hz)) (fun z hz=>hb z (List.mem_cons_of_mem _ hz)) h1.2;rw [h3,show x=y by omega]
def coN(x:Nat):Nat:=(codesT.getD x 0).toNat
def leN(x:Nat):Nat:=(lensT.getD x 0).toNat
def cod(x:Nat):List Bool:=H8 (leN x) (coN x)
theorem D9w:(List.range 257).all (fun x=>decide (0<=codesT.getD x 0)&&decide ((codesT.getD x 0).toNat<2 ^ (lensT.getD x 0).toNat))=true:=by kernel_rfl
theorem C1r{x:Nat}(h:x<257):0<=codesT.getD x 0/\coN x<2 ^ leN x:=by
  have:=List.all_eq_true.1 D9w x (List.mem_range.2 h);simpa [coN,leN] using this
theorem B0K{x:Nat}(h:x<257):5<=lensT.getD x 0/\lensT.getD x 0<=30:=by
  have h:=List.all_eq_true.1 C73 (lensT.getD x 0) (by
    rw [List.getD_eq_getElem?_getD,List.getElem?_eq_getElem (by rw [R8];exact h)];exact List.getElem_mem _)
  simpa using h
def O1(l:List Nat):List Bool:=l.flatMap cod
theorem C0C(a b:List Nat):O1 (a++b)=O1 a++O1 b:=by simp [O1]
theorem B0L{x y:Nat}(hx:x<9223372036854775808)(hy:y<9223372036854775808):M5 .i64 (x:Int) (y:Int)=((x &&& y:Nat):Int):=by
  have h:x &&& y<9223372036854775808:=Nat.lt_of_le_of_lt Nat.and_le_left hx;unfold M5;rw [BitVec.toNat_and,bits_nat (by simp only [IntKind.bits];omega),bits_nat (by simp only [IntKind.bits];omega)];exact D33 h
theorem B7e{x y:Nat}(hx:x<9223372036854775808)(hy:y<9223372036854775808):bOr .i64 (x:Int) (y:Int)=((x ||| y:Nat):Int):=D5R hx hy
theorem C8G{m:Nat}(h:m<64):(min (IntKind.u64.wrap (m:Int)).toNat IntKind.i64.bits)=m:=by
  have:IntKind.u64.wrap (m:Int)=m:=by
    simp only [IntKind.wrap,IntKind.bits,IntKind.signed,Bool.false_and];simp;omega
  rw [this];simp only [IntKind.bits];omega
theorem B7f(m:Nat):((2:Int) ^ m)=((2 ^ m:Nat):Int):=by simp
theorem B7g{m n:Nat}(h:m<=n):2 ^ m<=2 ^ n:=Nat.pow_le_pow_right (by omega) h
theorem p62{m:Nat}(h:m<=62):2 ^ m<=4611686018427387904:=Nat.le_trans (B7g h) (by decide)
theorem D5g{v m:Nat}(hm:m<62)(h:v*2 ^ m<9223372036854775808):IntKind.i64.wrap ((v:Int)*2 ^ (min (IntKind.u64.wrap (m:Int)).toNat IntKind.i64.bits))=((v*2 ^ m:Nat):Int):=by
  rw [C8G (by omega),B7f,<- Int.natCast_mul,w64 (by omega) (by omega)]
theorem C8H{m:Nat}(hm:m<62):IntKind.i64.wrap (IntKind.i64.wrap (1*2 ^ (min (IntKind.u64.wrap (m:Int)).toNat IntKind.i64.bits))-1)=((2 ^ m-1:Nat):Int):=by
  have h1:=p62 (show m<=62 by omega);have h2:=Nat.two_pow_pos m;have:=D5g (v:=1) hm (by omega);rw [show ((1:Nat):Int)=1 from rfl] at this;rw [this,w64 (by omega) (by omega)];omega
theorem B7h{x:Nat}(h:x<256):IntKind.u8.wrap (x:Int)=x:=by
  simp only [IntKind.wrap,IntKind.bits,IntKind.signed,Bool.false_and];simp;omega
theorem D5h:∀ (k v n:Nat),v<2 ^ n->n<8*(k+1)->n<=60->∃ v' n':Nat,(dr k (v:Int) (n:Int)).1=v'/\(dr k (v:Int) (n:Int)).2.1=n'/\v'<2 ^ n'/\Byt (dr k (v:Int) (n:Int)).2.2/\F2 (dr k (v:Int) (n:Int)).2.2++H8 n' v' = H8 n v
  | 0,v,n,hv,h1,h2=>⟨v,n,rfl,rfl,hv,(fun x hx=>by cases hx),rfl⟩
  | k+1,v,n,hv,h1,h2=>by
    by_cases h:8<=n
    · have e:((n:Int)-8)=((n-8:Nat):Int):=by omega
      have hp:=p62 (show n<=62 by omega);have hq:=B7g (show n-8<=n by omega);have h0:=Nat.two_pow_pos (n-8);have e1:M5 .i64 (v:Int) (IntKind.i64.wrap (IntKind.i64.wrap (1*2 ^ (min (IntKind.u64.wrap ((n:Int)-8)).toNat IntKind.i64.bits))-1))=((v % 2 ^ (n-8):Nat):Int):=by
        rw [e,C8H (by omega),B0L (by omega) (by omega),Nat.and_two_pow_sub_one_eq_mod]
      have e2:IntKind.u8.wrap ((v:Int).fdiv (2 ^ (min (IntKind.u64.wrap ((n:Int)-8)).toNat IntKind.i64.bits)))=((v / 2 ^ (n-8):Nat):Int):=by
        rw [e,C8G (by omega),Int.fdiv_eq_ediv_of_nonneg _ (by rw [B7f];omega),B7f,<- Int.natCast_ediv,B7h];refine Nat.div_lt_of_lt_mul ?_;rw [show n=(n-8)+8 by omega,Nat.pow_add] at hv;exact hv
      have e3:v / 2 ^ (n-8)<256:=by
        refine Nat.div_lt_of_lt_mul ?_;rw [show n=(n-8)+8 by omega,Nat.pow_add] at hv;exact hv
      obtain ⟨v',n',i1,i2,i3,i4,i5⟩:=D5h k (v % 2 ^ (n-8)) (n-8) (Nat.mod_lt _ h0) (by omega) (by omega);have hge:(n:Int)>=8:=by omega
      have hd:dr (k+1) (v:Int) (n:Int)=((dr k ((v % 2 ^ (n-8):Nat):Int) ((n-8:Nat):Int)).1,(dr k ((v % 2 ^ (n-8):Nat):Int) ((n-8:Nat):Int)).2.1,((v / 2 ^ (n-8):Nat):Int)::(dr k ((v % 2 ^ (n-8):Nat):Int) ((n-8:Nat):Int)).2.2):=by
        simp only [dr,if_pos hge];rw [e1,e2,e]
      rw [hd];refine ⟨v',n',i1,i2,i3,?_,?_⟩
      · intro x hx
        rcases List.mem_cons.1 hx with rfl | hx
        · generalize v / 2 ^ (n-8)=y at e3
          omega
        · exact i4 x hx
      · simp only []
        rw [A3W,List.append_assoc,i5,Int.toNat_natCast,A4H (n-8) (n-8) v (Nat.le_refl _),<- B0J 8 (n-8) v]
        congr 1
        omega
    · have hge:¬ (n:Int)>=8:=by omega
      refine ⟨v,n,?_,?_,hv,?_,?_⟩
      · simp only [dr,if_neg hge]
      · simp only [dr,if_neg hge]
      · simp only [dr,if_neg hge]
        intro x hx;cases hx
      · simp only [dr,if_neg hge]
        rfl
def C8I(s:X0):Nat->List Nat
  | 0=> []
  | k+1=>C8I s k ++ [(bt s k).toNat]
theorem C8J(s:X0)(k:Nat):leA s k=((leN (bt s k).toNat:Nat):Int):=by
  have:=B0K (B94 s k);simp only [leA,leN];omega
theorem E23(s:X0)(k:Nat):coA s k=((coN (bt s k).toNat:Nat):Int):=by
  have:=C1r (B94 s k);simp only [coA,coN];omega
theorem D0S(s:X0):∀ k:Nat,∃ v n:Nat,(hst s k).1=v/\(hst s k).2.1=n/\v<2 ^ n/\n<8/\Byt (hst s k).2.2/\F2 (hst s k).2.2++H8 n v=O1 (C8I s k)
  | 0=>⟨0,0,rfl,rfl,by decide,by omega,(fun x hx=>by cases hx),rfl⟩
  | k+1=>by
    obtain ⟨v,n,h1,h2,h3,h4,h5,h6⟩:=D0S s k;have hl:=B7V s k;have hf:=(C1r (B94 s k)).2;rw [C8J] at hl;have hle:leN (bt s k).toNat<=30:=by omega
    generalize hL:leN (bt s k).toNat=L at *
    generalize hC:coN (bt s k).toNat=C at *
    have hp:v*2 ^ L+C<2 ^ (n+L):=by
      rw [Nat.pow_add];have:v*2 ^ L+2 ^ L<=2 ^ n*2 ^ L:=by rw [<- Nat.succ_mul];exact Nat.mul_le_mul_right _ h3
      omega
    have hq:2 ^ (n+L)<=2 ^ 38:=B7g (by omega);have hq':(2:Nat) ^ 38=274877906944:=by decide
    have e1:bOr .i64 (IntKind.i64.wrap ((hst s k).1*2 ^ (min (IntKind.u64.wrap (leA s k)).toNat IntKind.i64.bits))) (coA s k)=((v*2 ^ L+C:Nat):Int):=by
      rw [h1,C8J,E23,hL,hC,D5g (by omega) (by omega),B7e (by omega) (by omega),Nat.mul_comm v,Nat.two_pow_add_eq_or_of_lt hf]
    obtain ⟨v',n',i1,i2,i3,i4,i5⟩:=D5h 5 (v*2 ^ L+C) (n+L) hp (by omega) (by omega);have e2:(hst s k).2.1+leA s k=((n+L:Nat):Int):=by rw [h2,C8J,hL];omega
    have h7:=D0G s (k+1);simp only [hst,e1,e2] at h7;refine ⟨v',n',?_,?_,i3,?_,?_,?_⟩
    · simp only [hst,e1,e2];exact i1
    · simp only [hst,e1,e2];exact i2
    · omega
    · simp only [hst,e1,e2]
      intro x hx;rcases List.mem_append.1 hx with q | q
      · exact h5 x q
      · exact i4 x q
    · simp only [hst,e1,e2]
      rw [B7c,List.append_assoc,i5,B0J n L];have a1:(v*2 ^ L+C) / 2 ^ L=v:=by
        rw [Nat.mul_comm,Nat.mul_add_div (Nat.two_pow_pos L),Nat.div_eq_of_lt hf,Nat.add_zero]
      have a2:H8 L (v*2 ^ L+C)=H8 L C:=by
        rw [<- A4H L L (v*2 ^ L+C) (Nat.le_refl _),Nat.mul_comm,Nat.mul_add_mod,A4H L L C (Nat.le_refl _)]
      rw [a1,a2,<- List.append_assoc,h6];simp only [C8I,C0C]
      congr 1
      simp only [O1,List.flatMap_cons,List.flatMap_nil,List.append_nil,cod,hL,hC]
theorem B6l(s:X0):Byt (R9 s)/\∃ p,p<8/\F2 (R9 s)=O1 (C8I s s.size)++List.replicate p true:=by
  obtain ⟨v,n,h1,h2,h3,h4,h5,h6⟩:=D0S s s.size;unfold R9;by_cases h:(hst s s.size).2.1>0
  · rw [if_pos h]
    have hn:0<n:=by omega
    have e1:IntKind.i64.wrap (8-(hst s s.size).2.1)=((8-n:Nat):Int):=by rw [h2,w64 (by omega) (by omega)];omega
    have hp:v*2 ^ (8-n)+(2 ^ (8-n)-1)<2 ^ (n+(8-n)):=by
      rw [Nat.pow_add];have:v*2 ^ (8-n)+2 ^ (8-n)<=2 ^ n*2 ^ (8-n):=by rw [<- Nat.succ_mul];exact Nat.mul_le_mul_right _ h3
      have:=Nat.two_pow_pos (8-n);omega
    rw [show n+(8-n)=8 by omega] at hp;have hq:2 ^ (8-n)<=2 ^ 8:=B7g (by omega);have h0:=Nat.two_pow_pos (8-n);have hm:v*2 ^ (8-n)<256:=by omega
    rw [e1,h1,C8H (by omega),D5g (by omega) (by omega),B7e (by omega) (by omega),Nat.mul_comm v,<- Nat.two_pow_add_eq_or_of_lt (show 2 ^ (8-n)-1<2 ^ (8-n) by omega),Nat.mul_comm _ v,B7h hp];refine ⟨fun x hx=>?_,8-n,by omega,?_⟩
    · rcases List.mem_append.1 hx with q | q
      · exact h5 x q
      · rcases List.mem_singleton.1 q with rfl
        omega
    · rw [B7c,C8F,Int.toNat_natCast,show (8:Nat)=n+(8-n) by omega,B0J n (8-n)]
      rw [show n+(8-n)-n=8-n by omega];have a1:(v*2 ^ (8-n)+(2 ^ (8-n)-1)) / 2 ^ (8-n)=v:=by
        rw [Nat.mul_comm,Nat.mul_add_div h0,Nat.div_eq_of_lt (by omega),Nat.add_zero]
      have a2:H8 (8-n) (v*2 ^ (8-n)+(2 ^ (8-n)-1))=List.replicate (8-n) true:=by
        rw [<- A4H (8-n) (8-n) _ (Nat.le_refl _),Nat.mul_comm,Nat.mul_add_mod,A4H (8-n) (8-n) _ (Nat.le_refl _),B22 _ _ (Nat.le_refl _)]
      rw [a1,a2,<- List.append_assoc,h6]
  · rw [if_neg h]
    refine ⟨h5,0,by omega,?_⟩;have:n=0:=by omega
    subst this;simpa [H8] using h6
set_option maxRecDepth 100000
def fdC:Nat->Nat->Int->Int->Option Nat
  | 0,_,_,_=>none
  | k+1,i,c,n=>if codesT.getD i 0=c/\lensT.getD i 0=n then some i else fdC k (i+1) c n
theorem C3A:∀ (k i:Nat) (c n:Int) (j:Nat),fdC k i c n=some j->i<=j/\j<i+k/\codesT.getD j 0=c/\lensT.getD j 0=n
  | 0,_,_,_,_,h=>by cases h
  | k+1,i,c,n,j,h=>by
    unfold fdC at h;by_cases hc:codesT.getD i 0=c/\lensT.getD i 0=n
    · rw [if_pos hc] at h
      injection h with h
      subst h;exact ⟨Nat.le_refl _,by omega,hc⟩
    · rw [if_neg hc] at h
      have:=C3A k (i+1) c n j h;omega
def A4I(c n:Nat):Option Nat:=fdC 257 0 (c:Int) (n:Int)
theorem A5W{c n j:Nat}(h:A4I c n=some j):j<257/\coN j=c/\leN j=n:=by
  obtain ⟨h1,h2,h3,h4⟩:=C3A _ _ _ _ _ h;refine ⟨by omega,?_,?_⟩
  · simp only [coN,h3];omega
  · simp only [leN,h4];omega
theorem D78{c n:Nat}(h:A4I c n=some 256):n=30:=by
  have:=(A5W h).2.2;have e:leN 256=30:=by kernel_rfl
  omega
abbrev RdS:=Nat×Nat×List Int
def A6i(st:RdS)(x:Bool):Option RdS:=
  if st.2.1+1>30 then none else match A4I (2*st.1+x.toNat) (st.2.1+1) with
  | some j=>if j<256 then some (0,0,st.2.2 ++ [(j:Int)]) else some (2*st.1+x.toNat,st.2.1+1,st.2.2)
  | none=>some (2*st.1+x.toNat,st.2.1+1,st.2.2)
def H3(st:RdS)(x:Bool):Option RdS:=
  match A4I (2*st.1+x.toNat) (st.2.1+1) with
  | some j=>if j=256 then none else if st.2.1+1>30 then none else some (0,0,st.2.2 ++ [(j:Int)])
  | none=>if st.2.1+1>30 then none else some (2*st.1+x.toNat,st.2.1+1,st.2.2)
def Q1(f:RdS->Bool->Option RdS):List Bool->RdS->RdS×Bool
  | [],st=>(st,false)
  | x::xs,st=>match f st x with
    | some st'=>Q1 f xs st'
    | none=>(st,true)
theorem C3B(f:RdS->Bool->Option RdS):∀ (xs ys:List Bool) (st:RdS),Q1 f (xs++ys) st=bif (Q1 f xs st).2 then Q1 f xs st else Q1 f ys (Q1 f xs st).1
  | [],ys,st=>by simp [Q1]
  | x::xs,ys,st=>by
    simp only [List.cons_append,Q1];cases f st x with
    | none=>rfl
    | some st'=>exact C3B f xs ys st'
def A80(l:List Int):List Nat:=l.map Int.toNat
theorem C3C(n v:Nat)(x:Bool):H8 (n+1) (2*v+x.toNat)=H8 n v ++ [x]:=by
  rw [B0J n 1];cases x<;>simp [H8,Nat.testBit_zero]<;>(try (congr 1;omega))<;>omega
def RdI(done:List Bool)(st:RdS):Prop:=st.1<2 ^ st.2.1/\st.2.1<=30/\Byt st.2.2/\O1 (A80 st.2.2)++H8 st.2.1 st.1=done
theorem E00{done:List Bool}{st:RdS}(h:RdI done st)(x:Bool)(h30:st.2.1+1<=30):RdI (done ++ [x]) (2*st.1+x.toNat,st.2.1+1,st.2.2):=by
  obtain ⟨h1,h2,h3,h4⟩:=h;refine ⟨?_,h30,h3,?_⟩
  · simp only [Nat.pow_succ]
    have:x.toNat<=1:=by cases x<;>simp
    omega
  · simp only [C3C]
    rw [<- List.append_assoc,h4]
theorem E24{done:List Bool}{st:RdS}(h:RdI done st)(x:Bool){j:Nat}(hj:A4I (2*st.1+x.toNat) (st.2.1+1)=some j)(h2:j<256):RdI (done ++ [x]) (0,0,st.2.2 ++ [(j:Int)]):=by
  obtain ⟨h1,h30,h3,h4⟩:=h;obtain ⟨e1,e2,e3⟩:=A5W hj;refine ⟨by simp,by simp,?_,?_⟩
  · intro y hy
    rcases List.mem_append.1 hy with q | q
    · exact h3 y q
    · rcases List.mem_singleton.1 q with rfl
      omega
  · simp only [A80,List.map_append,C0C,H8,List.append_nil]
    rw [show O1 (List.map Int.toNat [(j:Int)])=H8 (st.2.1+1) (2*st.1+x.toNat) by simp [O1,cod,e2,e3],C3C,<- List.append_assoc];exact congrArg (· ++ [x]) h4
theorem B7i:∀ (xs done:List Bool) (st:RdS),RdI done st->
    ((Q1 H3 xs st).2=false/\Q1 A6i xs st=Q1 H3 xs st/\RdI (done++xs) (Q1 H3 xs st).1)\/
    ((Q1 H3 xs st).2=true/\((Q1 A6i xs st).2=true\/(Q1 A6i xs st).1.2.1>=30)/\(O1 (A80 (Q1 H3 xs st).1.2.2)).length+30<=(done++xs).length/\Byt (Q1 H3 xs st).1.2.2)
  | [],done,st,h=>.inl ⟨rfl,rfl,by simpa [Q1] using h⟩
  | x::xs,done,st,h=>by
    have hd:done++x::xs=(done ++ [x])++xs:=by simp
    have hlen:(O1 (A80 st.2.2)).length+st.2.1=done.length:=by
      have:=congrArg List.length h.2.2.2;rw [List.length_append,A2W] at this;exact this
    have hlost:∀ (ys:List Bool) (s:RdS),s.2.1>=30->(Q1 A6i ys s).2=true\/(Q1 A6i ys s).1.2.1>=30:=fun ys s hs=>by
      cases ys with
      | nil=>exact .inr hs
      | cons y ys=>
        left;simp only [Q1];have:A6i s y=none:=by unfold A6i;rw [if_pos (by omega)]
        rw [this]
    rw [hd];by_cases h30:st.2.1+1>30
    · right
      have e1:A6i st x=none:=by unfold A6i;rw [if_pos h30]
      have e2:H3 st x=none:=by
        unfold H3;cases A4I (2*st.1+x.toNat) (st.2.1+1) with
        | none=>simp only [];rw [if_pos h30]
        | some j=>simp only [if_pos h30];split<;>rfl
      simp only [Q1,e1,e2];exact ⟨trivial,.inl trivial,by simp only [List.length_append,List.length_singleton];omega,h.2.2.1⟩
    · cases hj:A4I (2*st.1+x.toNat) (st.2.1+1) with
      | none=>
        have e1:A6i st x=some (2*st.1+x.toNat,st.2.1+1,st.2.2):=by simp only [A6i,if_neg h30,hj]
        have e2:H3 st x=some (2*st.1+x.toNat,st.2.1+1,st.2.2):=by simp only [H3,if_neg h30,hj]
        simp only [Q1,e1,e2];exact B7i xs _ _ (E00 h x (by omega))
      | some j=>
        by_cases h256:j<256
        · have e1:A6i st x=some (0,0,st.2.2 ++ [(j:Int)]):=by simp only [A6i,if_neg h30,hj,if_pos h256]
          have e2:H3 st x=some (0,0,st.2.2 ++ [(j:Int)]):=by simp only [H3,if_neg h30,hj,if_neg (show ¬ j=256 by omega)]
          simp only [Q1,e1,e2];exact B7i xs _ _ (E24 h x hj h256)
        · have hj':j=256:=by have:=(A5W hj).1;omega
          subst hj';have e0:=D78 hj;right;have e1:A6i st x=some (2*st.1+x.toNat,st.2.1+1,st.2.2):=by simp only [A6i,if_neg h30,hj,if_neg h256]
          have e2:H3 st x=none:=by simp only [H3,hj,if_true]
          simp only [Q1,e1,e2];exact ⟨trivial,hlost xs _ (by simp only;omega),by simp only [List.length_append,List.length_singleton];omega,h.2.2.1⟩
theorem E01{l:List Int}(hl:Byt l){k:Nat}(hk:k<l.length):bt (strOf l) (k:Int)=l[k]:=by
  have hb:=hl _ (List.getElem_mem hk);unfold bt strOf strOfNums;simp [List.getD,hk];omega
theorem C3D{l:List Int}(hl:Byt l):∀ k,k<=l.length->C8I (strOf l) k=(A80 l).take k
  | 0,_=>by simp [C8I]
  | k+1,h=>by
    rw [C8I,C3D hl k (by omega),E01 hl (by omega),List.take_succ_eq_append_getElem (show k<(A80 l).length by simp [A80];omega)];simp [A80]
theorem D0T{l:List Int}(hl:Byt l):C8I (strOf l) (strOf l).size=A80 l:=by
  rw [B20,C3D hl _ (Nat.le_refl _),List.take_of_length_le (by simp [A80])]
def unH(b:List Int):List Int:=(Q1 H3 (F2 b) (0,0,[])).1.2.2
def C5L(b:List Int):RdS×Bool:=Q1 A6i (F2 b) (0,0,[])
def C8K(b:List Int):Bool:=!(C5L b).2&&decide ((C5L b).1.2.1<=7)&&decide ((C5L b).1.1=2 ^ (C5L b).1.2.1-1)
theorem D5i(b:List Int):Byt (unH b):=by
  rcases B7i (F2 b) [] (0,0,[]) ⟨by simp,by simp,(fun x hx=>by cases hx),by simp [A80,O1,H8]⟩ with ⟨_,_,h⟩ | ⟨_,_,_,h⟩
  · exact h.2.2.1
  · exact h
theorem D5j(b:List Int):5*(unH b).length<=8*b.length:=by
  have hs:∀ l:List Int,Byt l->5*l.length<=(O1 (A80 l)).length:=by
    intro l
    induction l with
    | nil=>intro _;simp
    | cons x l ih=>
      intro hb;have h1:=ih fun y hy=>hb y (List.mem_cons_of_mem _ hy)
      have h2:=hb x List.mem_cons_self;have h3:=B0K (show x.toNat<257 by omega);simp only [A80,List.map_cons,O1,List.flatMap_cons,List.length_append,List.length_cons,cod,A2W,leN] at h1 ⊢;omega
  have hb:=D5i b;have h1:=hs _ hb;have h2:=A04 b;rcases B7i (F2 b) [] (0,0,[]) ⟨by simp,by simp,(fun x hx=>by cases hx),by simp [A80,O1,H8]⟩ with ⟨_,_,h⟩ | ⟨_,_,h,_⟩
  · have:=congrArg List.length h.2.2.2
    rw [List.length_append] at this;simp only [List.nil_append] at this;unfold unH at h1 ⊢;omega
  · simp only [List.nil_append] at h
    unfold unH at h1 ⊢;omega
theorem E02(b:List Int)(hb:Byt b):(R9 (strOf (unH b))=b↔C8K b=true)/\(C8K b=true->(C5L b).1.2.2=unH b):=by
  have hu:=D5i b;obtain ⟨c1,p,c2,c3⟩:=B6l (strOf (unH b));rw [D0T hu] at c3;have hl:=A04 b;rcases B7i (F2 b) [] (0,0,[]) ⟨by simp,by simp,(fun x hx=>by cases hx),by simp [A80,O1,H8]⟩ with ⟨h1,h2,h3⟩ | ⟨h1,h2,h3,h4⟩
  · obtain ⟨i1,i2,i3,i4⟩:=h3
    simp only [List.nil_append] at i4;have e:C5L b=Q1 H3 (F2 b) (0,0,[]):=h2;have e2:(C5L b).2=false:=by rw [e];exact h1
    refine ⟨⟨fun hq=>?_,fun hq=>?_⟩,fun _=>by rw [e];rfl⟩
    · rw [hq,<- i4] at c3
      have c4:H8 _ _=List.replicate p true:=List.append_cancel_left (show O1 (A80 (unH b))++_=O1 (A80 (unH b))++_ from c3);have c5:=congrArg List.length c4;rw [A2W,List.length_replicate] at c5;unfold C8K;rw [e2,e,c5];have c6:H8 p (Q1 H3 (F2 b) (0,0,[])).1.1=H8 p (2 ^ p-1):=by
        rw [B22 p p (Nat.le_refl _),<- c4,c5]
      have c7:=B96 p _ _ (by rw [<- c5];exact i1) (by have:=Nat.two_pow_pos p;omega) c6;simp only [Bool.not_false,Bool.true_and,Bool.and_eq_true,decide_eq_true_eq];exact ⟨by omega,c7⟩
    · unfold C8K at hq
      rw [e2,e] at hq;simp only [Bool.not_false,Bool.true_and,Bool.and_eq_true,decide_eq_true_eq] at hq;obtain ⟨q1,q2⟩:=hq;refine B7d c1 hb ?_;rw [c3,<- i4];have hn:(Q1 H3 (F2 b) (0,0,[])).1.2.1=p:=by
        have d1:=congrArg List.length c3;have d2:=congrArg List.length i4;rw [A04,List.length_append,List.length_replicate] at d1;rw [List.length_append,A2W,hl] at d2;unfold unH at d1;omega
      rw [q2,hn,B22 p p (Nat.le_refl _)];rfl
  · have hno:C8K b=false:=by
      unfold C8K;rcases h2 with h2 | h2
      · rw [show (C5L b).2=true from h2];rfl
      · rw [show decide ((C5L b).1.2.1<=7)=false from A3 (by have:(C5L b).1.2.1>=30:=h2;omega)];simp
    refine ⟨⟨fun hq=>?_,fun hq=>by rw [hno] at hq;cases hq⟩,fun hq=>by rw [hno] at hq;cases hq⟩;exfalso;have d1:=congrArg List.length c3;rw [hq,hl,List.length_append,List.length_replicate] at d1;simp only [List.nil_append] at h3;unfold unH at d1;omega
set_option maxRecDepth 100000
def E2a:List ((Int×Int)×Int):=(List.range 257).map fun k=>((codesT.getD k 0,lensT.getD k 0),(k:Int))
theorem D79:mkM (codesT.zip lensT) 257=E2a:=by kernel_rfl
theorem C79(c n:Int):∀ (k i j:Nat),fdM ((List.range' i k).map fun q=>((codesT.getD q 0,lensT.getD q 0),(q:Int))) (c,n) j=(fdC k i c n).map fun (q:Nat)=>(j+(q-i),(q:Int))
  | 0,i,j=>rfl
  | k+1,i,j=>by
    rw [List.range'_succ,List.map_cons,fdM,fdC];by_cases h:codesT.getD i 0=c/\lensT.getD i 0=n
    · rw [if_pos ⟨h.1.symm,h.2.symm⟩,if_pos h]
      simp
    · rw [if_neg (fun e=>h ⟨e.1.symm,e.2.symm⟩),if_neg h,C79 c n k (i+1) (j+1)]
      cases hq:fdC k (i+1) c n with
      | none=>rfl
      | some q=>
        have:=(C3A k (i+1) c n q hq).1;simp only [Option.map_some,Option.some.injEq,Prod.mk.injEq,and_true];omega
theorem C7A(c n:Nat):fdM (mkM (codesT.zip lensT) 257) ((c:Int),(n:Int)) 0=(A4I c n).map fun (q:Nat)=>(q,(q:Int)):=by
  rw [D79,E2a,List.range_eq_range',C79];unfold A4I;cases fdC 257 0 (c:Int) (n:Int)<;>simp
theorem D7A(c n:Nat):lkO (mkM (codesT.zip lensT) 257) ((c:Int),(n:Int))=(A4I c n).isSome:=by
  unfold lkO;rw [C7A];cases A4I c n<;>rfl
theorem D7B{c n j:Nat}(h:A4I c n=some j):lkV (mkM (codesT.zip lensT) 257) ((c:Int),(n:Int))=(j:Int):=by
  unfold lkV;rw [C7A,h];rfl
theorem E03{x:Nat}(h:x<9223372036854775808):M5 .i64 (x:Int) 1=(((x.testBit 0).toNat:Nat):Int):=by
  rw [show (1:Int)=((1:Nat):Int) from rfl,B0L h (by omega)]
  congr 1
  rw [Nat.and_one_is_mod,Nat.testBit_zero];rcases Nat.mod_two_eq_zero_or_one x with e | e<;>simp [e]
theorem E04{x k:Nat}(h:x<256):((x:Int).fdiv (2 ^ k))=((x / 2 ^ k:Nat):Int):=by
  rw [Int.fdiv_eq_ediv_of_nonneg _ (by rw [B7f];exact Int.natCast_nonneg _),B7f,<- Int.natCast_ediv]
theorem E3J{x k:Nat}(h:x<256)(hk:k<8):M5 .i64 (((x:Int).fdiv (2 ^ (min (IntKind.u64.wrap (k:Int)).toNat IntKind.i64.bits)))) 1=(((x.testBit k).toNat:Nat):Int):=by
  rw [C8G (by omega),E04 h,E03 (Nat.lt_of_le_of_lt (Nat.div_le_self _ _) (by omega)),Nat.testBit_div_two_pow,Nat.zero_add]
theorem E3K{v n:Nat}(hv:v<2 ^ n)(hn:n<=30)(x:Bool):bOr .i64 (IntKind.i64.wrap ((v:Int)*2)) ((x.toNat:Nat):Int)=((2*v+x.toNat:Nat):Int):=by
  have h1:=p62 (show n<=62 by omega);have h2:2 ^ n<=2 ^ 30:=B7g hn;have h3:(2:Nat) ^ 30=1073741824:=by decide
  have h4:x.toNat<2 ^ 1:=by cases x<;>simp
  rw [show (v:Int)*2=((v*2:Nat):Int) by omega,w64 (by omega) (by omega),B7e (by omega) (by cases x<;>simp),Nat.mul_comm v]
  congr 1
  have:=Nat.two_pow_add_eq_or_of_lt h4 v;simpa using this.symm
def RdG(st:RdS):Prop:=st.1<2 ^ st.2.1/\st.2.1<=30
theorem C3E{st st':RdS}{x:Bool}(h:RdG st)(e:H3 st x=some st'):RdG st'/\st'.2.2.length<=st.2.2.length+1:=by
  unfold H3 at e;have hx:x.toNat<=1:=by cases x<;>simp
  have hp:2*st.1+x.toNat<2 ^ (st.2.1+1):=by have:=h.1;rw [Nat.pow_succ];omega
  cases hj:A4I (2*st.1+x.toNat) (st.2.1+1) with
  | none=>
    rw [hj] at e;by_cases h30:st.2.1+1>30
    · simp only [if_pos h30] at e;cases e
    · simp only [if_neg h30,Option.some.injEq] at e
      subst e;exact ⟨⟨hp,by simp only;omega⟩,by simp⟩
  | some j=>
    rw [hj] at e;by_cases h256:j=256
    · simp only [if_pos h256] at e;cases e
    · by_cases h30:st.2.1+1>30
      · simp only [if_neg h256,if_pos h30] at e;cases e
      · simp only [if_neg h256,if_neg h30,Option.some.injEq] at e
        subst e;exact ⟨⟨by simp,by simp⟩,by simp⟩
theorem B97(a:List Int)(j:Nat)(x:Nat)(hx:x<256)(hj:rd (.int .u8) a (j:Int)=(x:Int))(q1 q2:Int)(q3:List Int):∀ (k:Nat) (st:RdS),k<=8->RdG st->st.2.2.length+k<=1000000000000->j<1000000000000->
    C2 (A73 (codesT.zip lensT) a ((j:Int),q1,q2,q3,())) ((k:Int)-1,(st.1:Int),(st.2.1:Int),st.2.2,()) =
      (if (Q1 H3 (H8 k x) st).2 then some (.inr (.inr (strOf (Q1 H3 (H8 k x) st).1.2.2,()))) else some (.inl (((j+1:Nat):Int),((Q1 H3 (H8 k x) st).1.1:Int),((Q1 H3 (H8 k x) st).1.2.1:Int),(Q1 H3 (H8 k x) st).1.2.2,())))
  | 0,st,_,_,_,hj2=>by
    rw [C3];have h:¬ ((0:Nat):Int)-1>=0:=by omega
    simp only [A73,A3 h,cond_false,H8,Q1];rw [w64 (n:=(j:Int)+1) (by omega) (by omega),show (j:Int)+1=((j+1:Nat):Int) by omega];rfl
  | k+1,st,h8,hg,hl,hj2=>by
    rw [C3];have e0:((k+1:Nat):Int)-1=(k:Int):=by omega
    have h0:(k:Int)>=0:=by omega
    have e1:IntKind.i64.wrap (x:Int)=(x:Int):=w64 (by omega) (by omega);have e2:=E3J hx (show k<8 by omega);have e3:=E3K hg.1 hg.2 (x.testBit k);have e4:IntKind.i64.wrap ((st.2.1:Int)+1)=((st.2.1+1:Nat):Int):=by have:=hg.2;rw [w64 (by omega) (by omega)];omega
    have e5:IntKind.i64.wrap ((k:Int)-1)=(k:Int)-1:=w64 (by omega) (by omega);rw [e0];simp only [A73,A0 h0,cond_true,A3 (u64_nonneg _),cond_false,hj,e1,e2,e3,e4,e5,D7A];simp only [H8,Q1];cases hs:A4I (2*st.1+(x.testBit k).toNat) (st.2.1+1) with
    | none=>
      simp only [Option.isSome_none,cond_false];by_cases h30:st.2.1+1>30
      · have d1:((st.2.1+1:Nat):Int)>30:=by omega
        have e6:H3 st (x.testBit k)=none:=by unfold H3;rw [hs];simp only [if_pos h30]
        rw [e6];simp only [A0 d1,cond_true,D7,if_true]
      · have d1:¬ ((st.2.1+1:Nat):Int)>30:=by omega
        have e6:H3 st (x.testBit k)=some (2*st.1+(x.testBit k).toNat,st.2.1+1,st.2.2):=by unfold H3;rw [hs];simp only [if_neg h30]
        have hg2:=C3E hg e6;rw [e6];simp only [A3 d1,cond_false,D7];exact B97 a j x hx hj q1 q2 q3 k _ (by omega) hg2.1 (by simp only;omega) hj2
    | some s=>
      have e7:=D7B hs;have hlt:=(A5W hs).1;simp only [Option.isSome_some,cond_true,e7];by_cases h256:s=256
      · have d1:(s:Int)=256:=by omega
        have e6:H3 st (x.testBit k)=none:=by unfold H3;rw [hs];simp only [if_pos h256]
        rw [e6];simp only [A0 d1,cond_true,D7,if_true]
      · have d1:¬ (s:Int)=256:=by omega
        by_cases h30:st.2.1+1>30
        · have d2:((st.2.1+1:Nat):Int)>30:=by omega
          have e6:H3 st (x.testBit k)=none:=by unfold H3;rw [hs];simp only [if_neg h256,if_pos h30]
          rw [e6];simp only [A3 d1,A0 d2,cond_true,cond_false,D7,if_true]
        · have d2:¬ ((st.2.1+1:Nat):Int)>30:=by omega
          have e6:H3 st (x.testBit k)=some (0,0,st.2.2 ++ [(s:Int)]):=by unfold H3;rw [hs];simp only [if_neg h256,if_neg h30]
          have hg2:=C3E hg e6;rw [e6];simp only [A3 d1,A3 d2,cond_false,D7,B7h (show s<256 by omega)];rw [gA (by simp;omega)];exact B97 a j x hx hj q1 q2 q3 k _ (by omega) hg2.1 (by simp only [List.length_append,List.length_singleton];omega) hj2
theorem D0U(f:RdS->Bool->Option RdS)(hf:∀ st x st',RdG st->f st x=some st'->RdG st'/\st'.2.2.length<=st.2.2.length+1):∀ (xs:List Bool) (st:RdS),RdG st->RdG (Q1 f xs st).1/\(Q1 f xs st).1.2.2.length<=st.2.2.length+xs.length
  | [],st,h=>⟨h,by simp [Q1]⟩
  | x::xs,st,h=>by
    simp only [Q1];cases e:f st x with
    | none=>exact ⟨h,by simp only [List.length_cons];omega⟩
    | some st'=>
      have h1:=hf _ _ _ h e;have h2:=D0U f hf xs st' h1.1;exact ⟨h2.1,by simp only [List.length_cons];omega⟩
theorem C3F(a:List Int)(ha:Byt a)(hl:a.length<=1000000000):∀ (k j:Nat) (st:RdS),j+k=a.length->RdG st->st.2.2.length+8*k<=100000000000->
    C2 (A4d a (codesT.zip lensT)) ((j:Int),(st.1:Int),(st.2.1:Int),st.2.2,()) =
      (if (Q1 H3 (F2 (a.drop j)) st).2 then some (.inr (strOf (Q1 H3 (F2 (a.drop j)) st).1.2.2,())) else some (.inl ((Q1 H3 (F2 (a.drop j)) st).1.2.2,())))
  | 0,j,st,hj,hg,hlen=>by
    rw [C3];have h:¬ (j:Int)<(a.length:Int):=by omega
    simp only [A4d,A3 h,cond_false];rw [List.drop_eq_nil_of_le (by omega)];rfl
  | k+1,j,st,hj,hg,hlen=>by
    rw [C3];have h:(j:Int)<(a.length:Int):=by omega
    have h0:(0:Int)<=(j:Int):=by omega
    have hx:=ha _ (List.getElem_mem (show j<a.length by omega));have hr:rd (.int .u8) a (j:Int)=((a[j].toNat:Nat):Int):=by rw [C85 (show j<a.length by omega)];exact (Int.toNat_of_nonneg hx.1).symm
    simp only [A4d,A0 h,A0 h0,cond_true];have e:=B97 a j a[j].toNat (by omega) hr (st.1:Int) (st.2.1:Int) st.2.2 8 st (by omega) hg (by omega) (by omega);rw [show ((8:Nat):Int)-1=7 from rfl] at e;rw [e];have hd:F2 (a.drop j)=H8 8 a[j].toNat++F2 (a.drop (j+1)):=by rw [List.drop_eq_getElem_cons (show j<a.length by omega),A3W]
    rw [hd,C3B];have hg2:=D0U H3 (fun st x st' h e=>C3E h e) (H8 8 a[j].toNat) st hg;rw [A2W] at hg2;cases hs:(Q1 H3 (H8 8 a[j].toNat) st).2 with
    | true=>simp only [if_true,hs,cond_true]
    | false=>
      simp only [Bool.false_eq_true,if_false,cond_false];exact C3F a ha hl k (j+1) _ (by omega) hg2.1 (by omega)
theorem D0V(a:List Int)(ha:Byt a)(hl:a.length<=1000000000):A7j (codesT.zip lensT) a=some (strOf (unH a),()):=by
  have h257:(codesT.zip lensT).length=257:=by rw [List.length_zip,A0H,R8];rfl
  simp only [A7j,B6b,A0 h257,cond_true];have e:=C3F a ha hl a.length 0 (0,0,[]) (by omega) ⟨by simp,by simp⟩ (by simp;omega);have e':C2 (A4d a (codesT.zip lensT)) (0,0,0,[],())=_:=e;rw [e',List.drop_zero];cases hs:(Q1 H3 (F2 a) (0,0,[])).2 with
  | true=>simp only [if_true,D7];rfl
  | false=>simp only [Bool.false_eq_true,if_false,D7];rfl
theorem D7C{a b:List Int}(ha:Byt a)(hb:Byt b):((strOf a).toList == (strOf b).toList)=decide (a=b):=by
  by_cases h:a=b
  · subst h;simp
  · rw [A3 h]
    cases hq:((strOf a).toList == (strOf b).toList) with
    | false=>rfl
    | true=>exact absurd (D6w ha hb (by simpa using hq)) h
def A3p(a:List Int):X0×Bool×Unit:=if C8K a=true then (strOf (unH a),true,()) else (⟨#[]⟩,false,())
theorem D0W(a:List Int)(ha:Byt a)(hl:a.length<=500000000):A7k a=some (A3p a):=by
  have hz:(strOf (unH a)).size<=1000000000000:=by rw [B20];have:=D5j a;omega
  have hu:=D5j a;simp only [A7k,B6c,B7U,D0V a ha (by omega),bO];rw [C74 _ [] (by simp) (by rw [B20];omega)];simp only [bO,List.nil_append,A5i,A9V];rw [D7C (B6l _).1 ha];have h:=(E02 a ha).1;unfold A3p;by_cases hq:C8K a=true
  · rw [if_pos hq,A0 (h.2 hq)];rfl
  · rw [if_neg hq,A3 (fun e=>hq (h.1 e))];rfl
set_option maxRecDepth 100000
def byN(b:List Int)(p:Nat):Nat:=(b.getD p 0).toNat
def gpN(b:List Int)(p n i:Nat):Nat:=n+byN b p % 128*2 ^ (7*i)
def gpL(b:List Int):Nat->Nat->Nat->Nat->Int×Int×Bool×Unit
  | 0,_,_,_=>(0,0,false,())
  | k+1,p,n,i=>if p<b.length then (if byN b p<128 then (if gpN b p n i>16777216 then (0,0,false,()) else ((gpN b p n i:Int),((p+1:Nat):Int),true,())) else gpL b k (p+1) (gpN b p n i) (i+1)) else (0,0,false,())
def B1(b:List Int)(p m:Nat):Int×Int×Bool×Unit:=
  if p<b.length then (if byN b p % 2 ^ m<2 ^ m-1 then (((byN b p % 2 ^ m:Nat):Int),((p+1:Nat):Int),true,()) else gpL b 4 (p+1) (byN b p % 2 ^ m) 0) else (0,0,false,())
theorem B6m{b:List Int}(hb:Byt b){p:Nat}(h:p<b.length):rd (.int .u8) b (p:Int)=(byN b p:Int)/\byN b p<256:=by
  have h1:=C32 hb p;have e:rd (.int .u8) b (p:Int)=b.getD p 0:=by simp [rd,zd]
  refine ⟨e.trans (show b.getD p 0=(((b.getD p 0).toNat:Nat):Int) by omega),?_⟩;unfold byN;omega
theorem D5k(b:List Int):∀ k p n i,(gpL b k p n i).2.2.1=true->0<=(gpL b k p n i).1/\(gpL b k p n i).1<=16777216/\(p:Int)<(gpL b k p n i).2.1/\(gpL b k p n i).2.1<=b.length
  | 0,_,_,_,h=>by cases h
  | k+1,p,n,i,h=>by
    unfold gpL at h ⊢;by_cases h1:p<b.length
    · rw [if_pos h1] at h ⊢
      by_cases h2:byN b p<128
      · rw [if_pos h2] at h ⊢
        by_cases h3:gpN b p n i>16777216
        · rw [if_pos h3] at h;cases h
        · rw [if_neg h3]
          simp only [];omega
      · rw [if_neg h2] at h ⊢
        have:=D5k b k _ _ _ h;omega
    · rw [if_neg h1] at h;cases h
theorem A28(b:List Int)(p m:Nat)(hm:m<=8)(h:(B1 b p m).2.2.1=true):0<=(B1 b p m).1/\(B1 b p m).1<=16777216/\(p:Int)<(B1 b p m).2.1/\(B1 b p m).2.1<=b.length:=by
  unfold B1 at h ⊢;by_cases h1:p<b.length
  · rw [if_pos h1] at h ⊢
    by_cases h2:byN b p % 2 ^ m<2 ^ m-1
    · rw [if_pos h2]
      have:2 ^ m<=2 ^ 8:=B7g hm;simp only [];omega
    · rw [if_neg h2] at h ⊢
      have:=D5k b _ _ _ _ h;omega
  · rw [if_neg h1] at h;cases h
theorem D5l{x m:Nat}(hx:x<256)(hm:m<=8):M5 .i64 (x:Int) ((2 ^ m-1:Nat):Int)=((x % 2 ^ m:Nat):Int):=by
  have:2 ^ m<=2 ^ 8:=B7g hm;rw [B0L (by omega) (by omega),Nat.and_two_pow_sub_one_eq_mod]
theorem E42{x:Nat}(hx:x<256):M5 .i64 (x:Int) 127=((x % 128:Nat):Int):=D5l (m:=7) hx (by omega)
theorem E3L{b:List Int}{p n i:Nat}(hi:i<4)(hn:n<=255+128 ^ i):gpN b p n i<=255+128 ^ (i+1)/\byN b p % 128*2 ^ (7*i)<=268435456:=by
  have e:2 ^ (7*i)=128 ^ i:=by rw [Nat.pow_mul]
  have h1:byN b p % 128<128:=Nat.mod_lt _ (by omega);have h2:byN b p % 128*128 ^ i<=127*128 ^ i:=Nat.mul_le_mul_right _ (by omega);have h3:128 ^ (i+1)=128 ^ i*128:=Nat.pow_succ ..;have h4:128 ^ i<=128 ^ 3:=Nat.pow_le_pow_right (by omega) (by omega);unfold gpN;rw [e];omega
theorem E2b{b:List Int}(hb:Byt b)(hl:b.length<=500000000):∀ (k p n i:Nat),k+i=4->n<=255+128 ^ i->p<=2000000000->
    (D7 (C2 (A18 b) ((p:Int),(n:Int),(i:Int),())) fun (m3:Unit)=>some (0,0,false,()))=some (gpL b k p n i)
  | 0,p,n,i,hk,hn,hp=>by
    have h:¬ (i:Int)<4:=by omega
    rw [C3];simp only [A18,A3 h,cond_false,D7,gpL]
  | k+1,p,n,i,hk,hn,hp=>by
    have h:(i:Int)<4:=by omega
    rw [C3];by_cases h1:p<b.length
    · have d1:(p:Int)<(b.length:Int):=by omega
      have d2:(0:Int)<=(p:Int):=by omega
      obtain ⟨e1,e2⟩:=B6m hb h1;have hg:=E3L (b:=b) (p:=p) (show i<4 by omega) hn;have h5:128 ^ (i+1)<=128 ^ 4:=Nat.pow_le_pow_right (by omega) (by omega);have e3:IntKind.i64.wrap (byN b p:Int)=(byN b p:Int):=w64 (by omega) (by omega);have e4:IntKind.i64.wrap (7*(i:Int))=((7*i:Nat):Int):=by rw [w64 (by omega) (by omega)];omega
      have e5:=D5g (v:=byN b p % 128) (m:=7*i) (by omega) (by omega);have e6:IntKind.i64.wrap ((n:Int)+((byN b p % 128*2 ^ (7*i):Nat):Int))=(gpN b p n i:Int):=by
        have e0:(n:Int)+((byN b p % 128*2 ^ (7*i):Nat):Int)=((gpN b p n i:Nat):Int):=by unfold gpN;omega
        rw [e0];exact D33 (by omega)
      have e7:IntKind.i64.wrap ((p:Int)+1)=((p+1:Nat):Int):=by rw [w64 (by omega) (by omega)];omega
      have e8:IntKind.i64.wrap ((i:Int)+1)=((i+1:Nat):Int):=by rw [w64 (by omega) (by omega)];omega
      simp only [A18,A0 h,A0 d1,A0 d2,cond_true,bSl,A3 (u64_nonneg _),cond_false,e1,e3,E42 e2,e4,e5,e6,e7,e8,gpL,if_pos h1];by_cases h2:byN b p<128
      · rw [A0 (show (byN b p:Int)<128 by omega),if_pos h2]
        by_cases h3:gpN b p n i>16777216
        · rw [A0 (show (gpN b p n i:Int)>16777216 by omega),if_pos h3];rfl
        · rw [A3 (show ¬ (gpN b p n i:Int)>16777216 by omega),if_neg h3];rfl
      · rw [A3 (show ¬ (byN b p:Int)<128 by omega),if_neg h2]
        exact E2b hb hl k (p+1) _ (i+1) (by omega) hg.1 (by omega)
    · have d1:¬ (p:Int)<(b.length:Int):=by omega
      simp only [A18,A0 h,A3 d1,cond_true,cond_false,D7,gpL,if_neg h1]
theorem B3k{b:List Int}(hb:Byt b)(hl:b.length<=500000000)(p m:Nat)(hp:p<=1000000000)(hm:1<=m/\m<=8):A0F b (p:Int) (m:Int)=some (B1 b p m):=by
  have d1:decide ((1:Int)<=(m:Int)/\(m:Int)<=8)=true:=A0 (by omega);have e1:IntKind.i64.wrap ((b.length:Int)-1)=(b.length:Int)-1:=w64 (by omega) (by omega);simp only [A0F,A9U,F7,bO,d1,Bool.not_true,cond_false,e1];unfold B1;by_cases h1:p<b.length
  · have d2:decide ((0:Int)<=(p:Int)/\(p:Int)<=(b.length:Int)-1)=true:=A0 (by omega)
    have d3:(p:Int)<(b.length:Int):=by omega
    obtain ⟨q1,q2⟩:=B6m hb h1;have e2:=C8H (m:=m) (by omega);have e3:IntKind.i64.wrap (byN b p:Int)=(byN b p:Int):=w64 (by omega) (by omega);have e7:IntKind.i64.wrap ((p:Int)+1)=((p+1:Nat):Int):=by rw [w64 (by omega) (by omega)];omega
    have h8:byN b p % 2 ^ m<=255:=by have:=Nat.mod_le (byN b p) (2 ^ m);omega
    simp only [d2,Bool.not_true,cond_false,bSl,A3 (u64_nonneg _),A0 (show (0:Int)<=(p:Int) by omega),A0 d3,cond_true,q1,e2,e3,e7,D5l q2 hm.2,if_pos h1];by_cases h2:byN b p % 2 ^ m<2 ^ m-1
    · rw [A0 (show ((byN b p % 2 ^ m:Nat):Int)<((2 ^ m-1:Nat):Int) by omega),if_pos h2];rfl
    · rw [A3 (show ¬ ((byN b p % 2 ^ m:Nat):Int)<((2 ^ m-1:Nat):Int) by omega),if_neg h2]
      exact E2b hb hl 4 (p+1) _ 0 (by omega) (by omega) (by omega)
  · have d2:decide ((0:Int)<=(p:Int)/\(p:Int)<=(b.length:Int)-1)=false:=A3 (by omega)
    simp only [d2,Bool.not_false,cond_true,bSr,if_neg h1]
def A6j(b:List Int)(p n:Nat):List Int:=(b.take (p+n)).drop p
def I4(b:List Int)(p:Nat):X0×Int×Bool×Unit:=
  if (B1 b p 7).2.2.1=false then (⟨#[]⟩,0,false,()) else if (B1 b p 7).1>4000 then (⟨#[]⟩,0,false,()) else if (B1 b p 7).1>(b.length:Int)-(B1 b p 7).2.1 then (⟨#[]⟩,0,false,())
  else if byN b p<128 then (strOf (A6j b (B1 b p 7).2.1.toNat (B1 b p 7).1.toNat),(B1 b p 7).2.1+(B1 b p 7).1,true,())
  else if (A3p (A6j b (B1 b p 7).2.1.toNat (B1 b p 7).1.toNat)).2.1=false then (⟨#[]⟩,0,false,())
  else if (((A3p (A6j b (B1 b p 7).2.1.toNat (B1 b p 7).1.toNat)).1.size:Int)>4000) then (⟨#[]⟩,0,false,())
  else ((A3p (A6j b (B1 b p 7).2.1.toNat (B1 b p 7).1.toNat)).1,(B1 b p 7).2.1+(B1 b p 7).1,true,())
theorem D7D{b:List Int}(hb:Byt b)(p n:Nat):Byt (A6j b p n):=B0G (B7S hb _) _
theorem D7E(b:List Int)(p n:Nat):(A6j b p n).length<=b.length:=by simp [A6j];omega
theorem A7K{b:List Int}(p:Nat)(h:(I4 b p).2.2.1=true):(I4 b p).1.size<=4000/\(p:Int)<(I4 b p).2.1/\(I4 b p).2.1<=b.length:=by
  unfold I4 at h ⊢;by_cases h1:(B1 b p 7).2.2.1=false
  · rw [if_pos h1] at h;cases h
  have hr:=A28 b p 7 (by omega) (by simpa using h1);rw [if_neg h1] at h ⊢;by_cases h2:(B1 b p 7).1>4000
  · rw [if_pos h2] at h;cases h
  rw [if_neg h2] at h ⊢;by_cases h3:(B1 b p 7).1>(b.length:Int)-(B1 b p 7).2.1
  · rw [if_pos h3] at h;cases h
  rw [if_neg h3] at h ⊢;by_cases h4:byN b p<128
  · rw [if_pos h4]
    refine ⟨?_,by simp only;omega,by simp only;omega⟩;rw [B20];simp only [A6j,List.length_drop,List.length_take];omega
  rw [if_neg h4] at h ⊢;by_cases h5:(A3p (A6j b (B1 b p 7).2.1.toNat (B1 b p 7).1.toNat)).2.1=false
  · rw [if_pos h5] at h;cases h
  rw [if_neg h5] at h ⊢;by_cases h6:(((A3p (A6j b (B1 b p 7).2.1.toNat (B1 b p 7).1.toNat)).1.size:Int)>4000)
  · rw [if_pos h6] at h;cases h
  rw [if_neg h6];refine ⟨by simp only;omega,by simp only;omega,by simp only;omega⟩
theorem B3l{b:List Int}(hb:Byt b)(hl:b.length<=500000000)(p:Nat)(hp:p<=1000000000):A3R b (p:Int)=some (I4 b p):=by
  have e0:=B3k hb hl p 7 hp (by omega);rw [show ((7:Nat):Int)=7 from rfl] at e0;simp only [A3R,A9W,e0,bO];unfold I4;by_cases h1:(B1 b p 7).2.2.1=false
  · rw [if_pos h1,h1];rfl
  have h1':(B1 b p 7).2.2.1=true:=by simpa using h1
  obtain ⟨r1,r2,r3,r4⟩:=A28 b p 7 (by omega) h1';rw [if_neg h1,h1',w64 (n:=(b.length:Int)-(B1 b p 7).2.1) (by omega) (by omega),w64 (n:=(B1 b p 7).2.1+(B1 b p 7).1) (by omega) (by omega)];simp only [Bool.not_true,cond_false];by_cases h2:(B1 b p 7).1>4000
  · rw [if_pos h2,A0 h2];rfl
  rw [if_neg h2,A3 h2];by_cases h3:(B1 b p 7).1>(b.length:Int)-(B1 b p 7).2.1
  · rw [if_pos h3,A0 h3];rfl
  obtain ⟨q1,q2⟩:=B6m hb (show p<b.length by omega);have e3:((B1 b p 7).2.1+(B1 b p 7).1).toNat=(B1 b p 7).2.1.toNat+(B1 b p 7).1.toNat:=by omega
  rw [if_neg h3,A3 h3];simp only [cond_false,bSl];rw [A0 (show (0:Int)<=(B1 b p 7).2.1 by omega),A0 (show (B1 b p 7).2.1<=(B1 b p 7).2.1+(B1 b p 7).1 by omega),A0 (show (B1 b p 7).2.1+(B1 b p 7).1<=(b.length:Int) by omega),A0 (show (0:Int)<=(p:Int) by omega),A0 (show (p:Int)<(b.length:Int) by omega),q1,e3];simp only [cond_true];rw [show ((b.take ((B1 b p 7).2.1.toNat+(B1 b p 7).1.toNat)).drop (B1 b p 7).2.1.toNat)=A6j b (B1 b p 7).2.1.toNat (B1 b p 7).1.toNat from rfl,D0W _ (D7D hb _ _) (Nat.le_trans (D7E _ _ _) hl)];simp only [bO];by_cases h4:byN b p<128
  · rw [if_pos h4,A0 (show (byN b p:Int)<128 by omega)];rfl
  rw [if_neg h4,A3 (show ¬ (byN b p:Int)<128 by omega)];simp only [cond_false];by_cases h5:(A3p (A6j b (B1 b p 7).2.1.toNat (B1 b p 7).1.toNat)).2.1=false
  · rw [if_pos h5,h5];rfl
  rw [if_neg h5,show (A3p (A6j b (B1 b p 7).2.1.toNat (B1 b p 7).1.toNat)).2.1=true by simpa using h5];by_cases h6:(((A3p (A6j b (B1 b p 7).2.1.toNat (B1 b p 7).1.toNat)).1.size:Int)>4000)
  · rw [if_pos h6,A0 h6];rfl
  · rw [if_neg h6,A3 h6];rfl
set_option maxRecDepth 100000
abbrev noF:A5:=(⟨#[]⟩,⟨#[]⟩)
noncomputable def V5(t:B4)(i:Int):A5×Bool×Unit:=
  if i<=61 then (if 1<=i then (rd A7 firstT (i-1),true,()) else (noF,false,())) else if i-61>(t.2.length:Int) then (noF,false,()) else (rd A7 t.2 (i-62),true,())
theorem D5m:∀ {fs:List A5} {f:A5},f∈fs->ofF f<=szT fs
  | [],_,h=>by cases h
  | x::fs,f,h=>by
    have h2:=A5p fs;have h3:=B7W x;simp only [szT];rcases List.mem_cons.1 h with rfl | h
    · omega
    · have:=D5m h;omega
theorem E05(xs:List A5)(i:Int):rd A7 xs i∈xs\/rd A7 xs i=noF:=by
  unfold rd;rw [List.getD_eq_getElem?_getD];by_cases h:i.toNat<xs.length
  · rw [List.getElem?_eq_getElem h];exact .inl (List.getElem_mem h)
  · rw [List.getElem?_eq_none (by omega)];exact .inr rfl
theorem D0a{t:B4}(ht:P9 t)(i:Int):(V5 t i).1.1.size<=10000/\(V5 t i).1.2.size<=10000:=by
  unfold V5;have h0:noF.1.size<=10000/\noF.2.size<=10000:=⟨by decide,by decide⟩;split
  · split
    · rcases E05 firstT (i-1) with h | h
      · have:=Nat.le_of_ble_eq_true (List.all_eq_true.1 D75 _ h)
        simp only;omega
      · simp only [h];exact h0
    · exact h0
  · split
    · exact h0
    · rcases E05 t.2 (i-62) with h | h
      · have h1:=D5m h
        obtain ⟨_,h2,h3⟩:=ht;unfold ofF at h1;simp only;omega
      · simp only [h];exact h0
theorem C8L(t:B4)(i:Int)(hi:0<=i/\i<=100000000)(ht:t.2.length<=1000000):A67 t i=some (V5 t i):=by
  simp only [A67,B3T,A4c,A7i,F7,B0I,bO];unfold V5;by_cases h1:i<=61
  · rw [A0 h1,if_pos h1]
    by_cases h2:1<=i
    · rw [A0 ⟨h2,h1⟩,if_pos h2,w64 (n:=i-1) (by omega) (by omega),A0 (show 0<=i-1 by omega),A0 (show i-1<(firstT.length:Int) by rw [A5U];omega)]
      rfl
    · rw [A3 (show ¬ (1<=i/\i<=61) by omega),if_neg h2]
      rfl
  · rw [A3 h1,if_neg h1,w64 (n:=i-61) (by omega) (by omega),w64 (n:=i-61-1) (by omega) (by omega)]
    by_cases h2:i-61>(t.2.length:Int)
    · rw [A0 h2,if_pos h2];rfl
    · rw [A3 h2,if_neg h2,A0 (show 0<=i-61-1 by omega),A0 (show i-61-1<(t.2.length:Int) by omega),show i-61-1=i-62 by omega]
      rfl
noncomputable def C8M(t:B4)(f:A5):B4:=match Q8 t f with
  | some x=>x.1
  | none=>t
noncomputable def D7F(t:B4)(n:Int):B4:=match O6 (n,t.2) with
  | some x=>x.1
  | none=>t
theorem C8N{t:B4}(ht:P9 t){f:A5}(h1:f.1.size<=10000)(h2:f.2.size<=10000):Q8 t f=some (C8M t f,())/\P9 (C8M t f):=by
  obtain ⟨q0,q1,q2⟩:=ht;obtain ⟨T,e,hT⟩:=E40 t f q0 (by omega) (by unfold ofF;omega);have hv:C8M t f=(t.1,T):=by unfold C8M;rw [e]
  rw [hv];exact ⟨e,q0,q1,hT⟩
theorem D5n{t:B4}(ht:P9 t){n:Int}(h1:0<=n)(h2:n<=4096):O6 (n,t.2)=some (D7F t n,())/\P9 (D7F t n):=by
  obtain ⟨q0,q1,q2⟩:=ht;obtain ⟨k,_,_,e,hT⟩:=E2W n t.2 h1 (by omega) (by omega);have hv:D7F t n=(n,t.2.take k):=by unfold D7F;rw [e]
  rw [hv];exact ⟨e,h1,h2,hT⟩
theorem C7B{t:B4}(h:P9 t):N4 t=some (true,()):=by
  obtain ⟨h0,h1,h2⟩:=h;obtain ⟨m,fs⟩:=t;simp only at h0 h1 h2;have e:A7V (m,fs)=some (szT fs,()):=by
    have hl:=A5p fs;have:=N6 (A6w A1t (m,fs)) (fun k=>(szT (fs.take k),(k:Int),())) fs.length (szT fs,()) (fun k hk=>by
      have h3:(k:Int)<(fs.length:Int):=by omega
      have h4:(0:Int)<=(k:Int):=by omega
      have h5:=D0M fs hk;have h6:=D9q fs (k+1);have h7:=B7W fs[k];have h8:=A5p (fs.take k);have e1:rd A7 fs (k:Int)=fs[k]:=A6O (k:=A7) hk;simp only [A6w,A0 h3,A0 h4,cond_true,e1];rw [C0A _ (by omega)];simp only [A4];rw [w64 (n:=szT (fs.take k)+ofF fs[k]) (by omega) (by omega),w64 (n:=(k:Int)+1) (by omega) (by omega),h5];rfl) (by
      have h3:¬ ((fs.length:Nat):Int)<(fs.length:Int):=by omega
      simp only [A6w,A3 h3,cond_false];rw [List.take_of_length_le (by omega)])
    simp only [A7V,B6P];rw [show ((0:Int),(0:Int),())=(fun k:Nat=>(szT (fs.take k),(k:Int),())) 0 by simp [szT]];rw [this]
    try rfl
  simp only [N4,B3L,F7,A4,e];rw [A0 ⟨h0,h1⟩,A0 h2];rfl
noncomputable def A3B(t:B4)(b:List Int)(p m:Nat):Int×A5×Nat:=
  if (B1 b p m).2.2.1=false then (1,noF,0)
  else if (B1 b p m).1=0 then
    (if (I4 b (B1 b p m).2.1.toNat).2.2.1=false then (1,noF,0)
     else if (I4 b (I4 b (B1 b p m).2.1.toNat).2.1.toNat).2.2.1=false then (1,noF,0)
     else (0,((I4 b (B1 b p m).2.1.toNat).1,(I4 b (I4 b (B1 b p m).2.1.toNat).2.1.toNat).1),(I4 b (I4 b (B1 b p m).2.1.toNat).2.1.toNat).2.1.toNat))
  else if (V5 t (B1 b p m).1).2.1=false then (2,noF,0)
  else if (I4 b (B1 b p m).2.1.toNat).2.2.1=false then (1,noF,0)
  else (0,((V5 t (B1 b p m).1).1.1,(I4 b (B1 b p m).2.1.toNat).1),(I4 b (B1 b p m).2.1.toNat).2.1.toNat)
theorem C8O{t:B4}(ht:P9 t){b:List Int}{p m:Nat}(hm:m<=8)(h:(A3B t b p m).1=0):(A3B t b p m).2.1.1.size<=10000/\(A3B t b p m).2.1.2.size<=10000/\p<(A3B t b p m).2.2/\(A3B t b p m).2.2<=b.length:=by
  unfold A3B at h ⊢;by_cases h1:(B1 b p m).2.2.1=false
  · rw [if_pos h1] at h;cases h
  have r1:=A28 b p m hm (by simpa using h1);rw [if_neg h1] at h ⊢;by_cases h2:(B1 b p m).1=0
  · rw [if_pos h2] at h ⊢
    by_cases h3:(I4 b (B1 b p m).2.1.toNat).2.2.1=false
    · rw [if_pos h3] at h;cases h
    rw [if_neg h3] at h ⊢;have r2:=A7K (B1 b p m).2.1.toNat (by simpa using h3);by_cases h4:(I4 b (I4 b (B1 b p m).2.1.toNat).2.1.toNat).2.2.1=false
    · rw [if_pos h4] at h;cases h
    rw [if_neg h4];have r3:=A7K (I4 b (B1 b p m).2.1.toNat).2.1.toNat (by simpa using h4);simp only;omega
  · rw [if_neg h2] at h ⊢
    by_cases h5:(V5 t (B1 b p m).1).2.1=false
    · rw [if_pos h5] at h;cases h
    rw [if_neg h5] at h ⊢;by_cases h3:(I4 b (B1 b p m).2.1.toNat).2.2.1=false
    · rw [if_pos h3] at h;cases h
    rw [if_neg h3];have r2:=A7K (B1 b p m).2.1.toNat (by simpa using h3);have r4:=D0a ht (B1 b p m).1;simp only;omega
section
variable {b:List Int} (hb:Byt b) (hl:b.length<=500000000)
include hb hl
theorem B3m(p m:Nat)(hp:p<=1000000000)(hm:1<=m/\m<=8)(t:B4)(l:List A5) :
    E4 (b,(p:Int),0,t,l) (m:Int)=some (if (B1 b p m).2.2.1=false then (0,(b,(p:Int),1,t,l),()) else ((B1 b p m).1,(b,(B1 b p m).2.1,0,t,l),())):=by
  simp only [E4,A0w,B3k hb hl p m hp hm,bO];by_cases h1:(B1 b p m).2.2.1=false
  · rw [if_pos h1,h1];rfl
  · rw [if_neg h1,show (B1 b p m).2.2.1=true by simpa using h1];rfl
theorem B3n(p:Nat)(hp:p<=1000000000)(t:B4)(l:List A5) :
    K0 (b,(p:Int),0,t,l)=some (if (I4 b p).2.2.1=false then (⟨#[]⟩,(b,(p:Int),1,t,l),()) else ((I4 b p).1,(b,(I4 b p).2.1,0,t,l),())):=by
  simp only [K0,A00,B3l hb hl p hp,bO];by_cases h1:(I4 b p).2.2.1=false
  · rw [if_pos h1,h1];rfl
  · rw [if_neg h1,show (I4 b p).2.2.1=true by simpa using h1];rfl
theorem C3G(p:Nat)(hp:p<=1000000000)(c:Int)(hc:c≠0)(t:B4)(l:List A5) :
    K0 (b,(p:Int),c,t,l)=some (⟨#[]⟩,(b,(p:Int),c,t,l),()):=by
  simp only [K0,A00,B3l hb hl p hp,bO,C1,J9,A3 hc,Bool.not_false,cond_true,cond_false]
theorem B6n(p:Nat)(c:Int)(t:B4)(ht:P9 t)(l:List A5)(i:Int)(hi:0<=i/\i<=100000000) :
    E9 (b,(p:Int),c,t,l) i=some ((V5 t i).1,(if (V5 t i).2.1=false then (b,(p:Int),if c=0 then 2 else c,t,l) else (b,(p:Int),c,t,l)),()):=by
  have h:=A3o ht;simp only [E9,A1a,C8L t i hi (by omega),bO,C1,J9];by_cases h1:(V5 t i).2.1=false
  · rw [if_pos h1,h1]
    by_cases hc:c=0
    · rw [A0 hc,if_pos hc];rfl
    · rw [A3 hc,if_neg hc];rfl
  · rw [if_neg h1,show (V5 t i).2.1=true by simpa using h1];rfl
theorem D0b(p:Nat)(c:Int)(hc:c≠0)(t:B4)(ht:P9 t)(l:List A5)(i:Int)(hi:0<=i/\i<=100000000) :
    E9 (b,(p:Int),c,t,l) i=some ((V5 t i).1,(b,(p:Int),c,t,l),()):=by
  rw [B6n hb hl p c t ht l i hi,if_neg hc];split<;>rfl
theorem C8P(p:Nat)(t:B4)(ht:P9 t)(l:List A5)(i:Int)(hi:0<=i/\i<=100000000) :
    E9 (b,(p:Int),0,t,l) i=some ((V5 t i).1,(b,(p:Int),(if (V5 t i).2.1=false then 2 else 0),t,l),()):=by
  rw [B6n hb hl p 0 t ht l i hi,if_pos rfl];split<;>rfl
theorem B7j(p m:Nat)(hp:p<=1000000000)(hm:1<=m/\m<=8)(t:B4)(ht:P9 t)(l:List A5) :
    ∃ f q,I3 (b,(p:Int),0,t,l) (m:Int)=some (f,(b,q,(A3B t b p m).1,t,l),())/\((A3B t b p m).1=0->f=(A3B t b p m).2.1/\q=((A3B t b p m).2.2:Int)):=by
  simp only [I3,T4,B3m hb hl p m hp hm t l,bO];unfold A3B;by_cases h1:(B1 b p m).2.2.1=false
  · rw [if_pos h1,if_pos h1]
    exact ⟨_,_,rfl,fun h=>by cases h⟩
  have r1:=A28 b p m hm.2 (by simpa using h1);have e1:(B1 b p m).2.1=(((B1 b p m).2.1.toNat:Nat):Int):=by omega
  rw [if_neg h1,if_neg h1];simp only [decide_true,Bool.not_true,cond_false];by_cases h2:(B1 b p m).1=0
  · rw [if_pos h2,A0 h2]
    simp only [cond_true];rw [e1,B3n hb hl _ (by omega) t l,Int.toNat_natCast];simp only [bO];by_cases h3:(I4 b (B1 b p m).2.1.toNat).2.2.1=false
    · rw [if_pos h3,if_pos h3]
      simp only [bSl];rw [C3G hb hl _ (by omega) 1 (by decide) t l];exact ⟨_,_,rfl,fun h=>by cases h⟩
    have r2:=A7K (B1 b p m).2.1.toNat (by simpa using h3);have e2:(I4 b (B1 b p m).2.1.toNat).2.1=(((I4 b (B1 b p m).2.1.toNat).2.1.toNat:Nat):Int):=by omega
    rw [if_neg h3,if_neg h3];simp only [bSl];rw [e2,B3n hb hl _ (by omega) t l,Int.toNat_natCast];simp only [bO];by_cases h4:(I4 b (I4 b (B1 b p m).2.1.toNat).2.1.toNat).2.2.1=false
    · rw [if_pos h4,if_pos h4]
      exact ⟨_,_,rfl,fun h=>by cases h⟩
    · have r3:=A7K (I4 b (B1 b p m).2.1.toNat).2.1.toNat (by simpa using h4)
      rw [if_neg h4,if_neg h4];exact ⟨_,_,rfl,fun _=>⟨rfl,by simp only;omega⟩⟩
  · rw [if_neg h2,A3 h2]
    simp only [cond_false];rw [e1,B6n hb hl _ 0 t ht l _ (by omega),Int.toNat_natCast];simp only [bO];by_cases h5:(V5 t (B1 b p m).1).2.1=false
    · rw [if_pos h5,if_pos h5]
      simp only [bSl,if_true];rw [C3G hb hl _ (by omega) 2 (by decide) t l];exact ⟨_,_,rfl,fun h=>by cases h⟩
    rw [if_neg h5,if_neg h5];simp only [bSl];rw [B3n hb hl _ (by omega) t l];simp only [bO];by_cases h3:(I4 b (B1 b p m).2.1.toNat).2.2.1=false
    · rw [if_pos h3,if_pos h3]
      exact ⟨_,_,rfl,fun h=>by cases h⟩
    · have r2:=A7K (B1 b p m).2.1.toNat (by simpa using h3)
      rw [if_neg h3,if_neg h3];exact ⟨_,_,rfl,fun _=>⟨rfl,by simp only;omega⟩⟩
end
set_option maxRecDepth 100000
abbrev RdT:=Int×B4×Nat×List A5
def A6A(t:B4)(p:Nat)(l:List A5)(f:A5):RdT:=(if 100<l.length+1 then 4 else 0,t,p,l ++ [f])
noncomputable def A9f(b:List Int)(most:Int)(t:B4)(p:Nat)(l:List A5):RdT:=
  if 128<=byN b p then
    (if (B1 b p 7).2.2.1=false then (1,t,p,l) else if (V5 t (B1 b p 7).1).2.1=false then (2,t,p,l) else A6A t (B1 b p 7).2.1.toNat l (V5 t (B1 b p 7).1).1)
  else if 64<=byN b p then (if (A3B t b p 6).1=0 then A6A (C8M t (A3B t b p 6).2.1) (A3B t b p 6).2.2 l (A3B t b p 6).2.1 else ((A3B t b p 6).1,t,p,l))
  else if 32<=byN b p then (if (B1 b p 5).2.2.1=false then (1,t,p,l) else if (B1 b p 5).1>most\/0<l.length then (3,t,p,l) else (0,D7F t (B1 b p 5).1,(B1 b p 5).2.1.toNat,l))
  else (if (A3B t b p 4).1=0 then A6A t (A3B t b p 4).2.2 l (A3B t b p 4).2.1 else ((A3B t b p 4).1,t,p,l))
def RdK(b:List Int)(t:B4)(p:Nat)(l:List A5):Prop:=P9 t/\p<=b.length/\l.length<=100/\∀ f∈l,f.1.size<=10000/\f.2.size<=10000
theorem C3H{b:List Int}{t:B4}{p p':Nat}{l:List A5}{f:A5}(ht:P9 t)(hp:p'<=b.length)(hlt:p<p')(hk:l.length<=100/\∀ f∈l,f.1.size<=10000/\f.2.size<=10000)(h1:f.1.size<=10000)(h2:f.2.size<=10000)(h:(A6A t p' l f).1=0) :
    RdK b (A6A t p' l f).2.1 (A6A t p' l f).2.2.1 (A6A t p' l f).2.2.2/\p<(A6A t p' l f).2.2.1:=by
  unfold A6A at h ⊢;by_cases h3:100<l.length+1
  · simp only [if_pos h3] at h;cases h
  · refine ⟨⟨ht,hp,by simp only [List.length_append,List.length_singleton];omega,fun x hx=>?_⟩,hlt⟩
    rcases List.mem_append.1 hx with q | q
    · exact hk.2 x q
    · rcases List.mem_singleton.1 q with rfl
      exact ⟨h1,h2⟩
theorem D5o{b:List Int}{most:Int}(hmost:most<=4096){t:B4}{p:Nat}{l:List A5}(hk:RdK b t p l)(h:(A9f b most t p l).1=0):RdK b (A9f b most t p l).2.1 (A9f b most t p l).2.2.1 (A9f b most t p l).2.2.2/\p<(A9f b most t p l).2.2.1:=by
  obtain ⟨ht,hp,hl⟩:=hk;unfold A9f at h ⊢;by_cases c1:128<=byN b p
  · rw [if_pos c1] at h ⊢
    by_cases h1:(B1 b p 7).2.2.1=false
    · rw [if_pos h1] at h;cases h
    rw [if_neg h1] at h ⊢;have r1:=A28 b p 7 (by omega) (by simpa using h1);by_cases h2:(V5 t (B1 b p 7).1).2.1=false
    · rw [if_pos h2] at h;cases h
    rw [if_neg h2] at h ⊢;have r2:=D0a ht (B1 b p 7).1;exact C3H ht (by omega) (by omega) hl r2.1 r2.2 h
  rw [if_neg c1] at h ⊢;by_cases c2:64<=byN b p
  · rw [if_pos c2] at h ⊢
    by_cases h1:(A3B t b p 6).1=0
    · rw [if_pos h1] at h ⊢
      obtain ⟨q1,q2,q3,q4⟩:=C8O ht (by omega) h1;exact C3H (C8N ht q1 q2).2 q4 q3 hl q1 q2 h
    · rw [if_neg h1] at h;exact absurd h h1
  rw [if_neg c2] at h ⊢;by_cases c3:32<=byN b p
  · rw [if_pos c3] at h ⊢
    by_cases h1:(B1 b p 5).2.2.1=false
    · rw [if_pos h1] at h;cases h
    rw [if_neg h1] at h ⊢;have r1:=A28 b p 5 (by omega) (by simpa using h1);by_cases h2:(B1 b p 5).1>most\/0<l.length
    · rw [if_pos h2] at h;cases h
    rw [if_neg h2];exact ⟨⟨(D5n ht r1.1 (by omega)).2,by simp only;omega,hl⟩,by simp only;omega⟩
  rw [if_neg c3] at h ⊢;by_cases h1:(A3B t b p 4).1=0
  · rw [if_pos h1] at h ⊢
    obtain ⟨q1,q2,q3,q4⟩:=C8O ht (by omega) h1;exact C3H ht q4 q3 hl q1 q2 h
  · rw [if_neg h1] at h;exact absurd h h1
theorem D3B(t:B4)(p:Nat)(l:List A5)(f:A5):(if 100<l.length+1 then (if (0:Int)=0 then 4 else 0) else 0)=(A6A t p l f).1:=by
  unfold A6A;by_cases h:100<l.length+1
  · rw [if_pos h,if_pos rfl]
    simp only [if_pos h]
  · rw [if_neg h]
    simp only [if_neg h]
theorem E2c(l:List A5){c:Int}(h:c≠0):(if 100<l.length+1 then (if c=0 then 4 else c) else c)=c:=by
  rw [if_neg h];split<;>rfl
theorem C3I(b:List Int)(q c:Int)(t:B4)(l:List A5)(f:A5)(hl:l.length<=1000) :
    (bif decide (l.length+([f]:List A5).length<=9223372036854775807) then bif decide ((l.length+([f]:List A5).length)*32<=140737488355328) then bif (decide (((l ++ [f]).length:Int)>100)) then A4 (C1 (b,(q,(c,(t,(l ++ [f]))))) 4) fun c63=>some (c63.1,()) else some ((b,(q,(c,(t,(l ++ [f]))))),()) else none else none) =
      some ((b,q,(if 100<l.length+1 then (if c=0 then 4 else c) else c),t,l ++ [f]),()):=by
  rw [D36 (by simp;omega)];by_cases h:100<l.length+1
  · rw [A0 (show ((l ++ [f]).length:Int)>100 by simp;omega),if_pos h]
    simp only [cond_true,C1,J9];by_cases hc:c=0
    · rw [A0 hc,if_pos hc];rfl
    · rw [A3 hc,if_neg hc];rfl
  · rw [A3 (show ¬ ((l ++ [f]).length:Int)>100 by simp;omega),if_neg h]
    rfl
theorem D0c{t:B4}(ht:P9 t){n:Int}(h1:0<=n)(h2:n<=4096):A7l t n=some (D7F t n,()):=by
  have hl:=A3o ht;simp only [A7l,B6d,A4m t (by omega),F7,C7B ht,bO,A0 (show 0<=n/\n<=4096 from ⟨h1,h2⟩),Bool.not_true,cond_false,bSl,(D5n ht h1 h2).1]
theorem D7G{b:List Int}(hb:Byt b)(hl:b.length<=500000000)(most:Int)(hmost:0<=most/\most<=4096)(t:B4)(p:Nat)(l:List A5)(hk:RdK b t p l)(hp:p<b.length) :
    ∃ q c t' l',F6 (b,(p:Int),0,t,l) most=some ((b,q,c,t',l'),())/\c=(A9f b most t p l).1/\((A9f b most t p l).1=0->q=((A9f b most t p l).2.2.1:Int)/\t' = (A9f b most t p l).2.1/\l' = (A9f b most t p l).2.2.2):=by
  obtain ⟨ht,_,hl1,hl2⟩:=hk;obtain ⟨q1,q2⟩:=B6m hb hp;have d1:decide ((0:Int)<=(p:Int))=true:=A0 (by omega);have d2:decide ((p:Int)<(b.length:Int))=true:=A0 (by omega);simp only [F6,V8,d1,d2,cond_true,q1];unfold A9f;by_cases c1:128<=byN b p
  · rw [A0 (show (byN b p:Int)>=128 by omega),if_pos c1]
    have e:=B3m hb hl p 7 (by omega) (by omega) t l;rw [show ((7:Nat):Int)=7 from rfl] at e;simp only [cond_true,e,bO];by_cases h1:(B1 b p 7).2.2.1=false
    · rw [if_pos h1,if_pos h1]
      simp only [];rw [D0b hb hl p 1 (by decide) t ht l 0 (by omega)];simp only [bO,bSl];rw [show ((V5 t 0).1.1,(V5 t 0).1.2)=(V5 t 0).1 from rfl,C3I b _ 1 t l _ (by omega)];exact ⟨_,_,_,_,rfl,by simp,fun h=>by cases h⟩
    have r1:=A28 b p 7 (by omega) (by simpa using h1);have e1:(B1 b p 7).2.1=(((B1 b p 7).2.1.toNat:Nat):Int):=by omega
    rw [if_neg h1,if_neg h1];simp only [];rw [e1,C8P hb hl _ t ht l _ (by omega),Int.toNat_natCast];simp only [bO,bSl];by_cases h2:(V5 t (B1 b p 7).1).2.1=false
    · rw [if_pos h2,if_pos h2]
      rw [show ((V5 t (B1 b p 7).1).1.1,(V5 t (B1 b p 7).1).1.2)=(V5 t (B1 b p 7).1).1 from rfl,C3I b _ 2 t l _ (by omega)];exact ⟨_,_,_,_,rfl,by simp,fun h=>by cases h⟩
    · rw [if_neg h2,if_neg h2]
      rw [show ((V5 t (B1 b p 7).1).1.1,(V5 t (B1 b p 7).1).1.2)=(V5 t (B1 b p 7).1).1 from rfl,C3I b _ 0 t l _ (by omega)];refine ⟨_,_,_,_,rfl,?_,fun h=>⟨?_,rfl,rfl⟩⟩
      · exact D3B ..
      · unfold A6A;rfl
  rw [A3 (show ¬ (byN b p:Int)>=128 by omega),if_neg c1];simp only [cond_false];by_cases c2:64<=byN b p
  · rw [A0 (show (byN b p:Int)>=64 by omega),if_pos c2]
    obtain ⟨f,q,e,e'⟩:=B7j hb hl p 6 (by omega) (by omega) t ht l;rw [show ((6:Nat):Int)=6 from rfl] at e;simp only [cond_true,e,bO];by_cases h1:(A3B t b p 6).1=0
    · obtain ⟨e1,e2⟩:=e' h1
      obtain ⟨s1,s2,s3,s4⟩:=C8O ht (by omega) h1;subst e1 e2;rw [A0 h1,if_pos h1];simp only [cond_true,(C8N ht s1 s2).1,bO,bSl,h1];rw [show ((A3B t b p 6).2.1.1,(A3B t b p 6).2.1.2)=(A3B t b p 6).2.1 from rfl,C3I b _ 0 (C8M t (A3B t b p 6).2.1) l _ (by omega)];refine ⟨_,_,_,_,rfl,?_,fun h=>⟨?_,rfl,rfl⟩⟩
      · exact D3B ..
      · unfold A6A;rfl
    · rw [A3 h1,if_neg h1]
      simp only [cond_false,bSl];rw [show (f.1,f.2)=f from rfl,C3I b _ _ t l _ (by omega)];refine ⟨_,_,_,_,rfl,?_,fun h=>absurd h h1⟩;exact E2c l h1
  rw [A3 (show ¬ (byN b p:Int)>=64 by omega),if_neg c2];simp only [cond_false];by_cases c3:32<=byN b p
  · rw [A0 (show (byN b p:Int)>=32 by omega),if_pos c3]
    have e:=B3m hb hl p 5 (by omega) (by omega) t l;rw [show ((5:Nat):Int)=5 from rfl] at e;simp only [cond_true,N8,U4,e,bO];by_cases h1:(B1 b p 5).2.2.1=false
    · rw [if_pos h1,if_pos h1]
      simp only [A3 (show ¬ (0:Int)>most by omega),cond_false,C1,J9,bO,show decide ((1:Int)=0)=false from rfl];cases decide ((l.length:Int)>0)<;>exact ⟨_,_,_,_,rfl,rfl,fun h=>by cases h⟩
    have r1:=A28 b p 5 (by omega) (by simpa using h1);rw [if_neg h1,if_neg h1];simp only [C1,J9,bO,decide_true,cond_true];by_cases h2:(B1 b p 5).1>most
    · rw [A0 h2,if_pos (.inl h2)]
      exact ⟨_,_,_,_,rfl,rfl,fun h=>by cases h⟩
    · rw [A3 h2]
      simp only [cond_false];by_cases h3:0<l.length
      · rw [A0 (show (l.length:Int)>0 by omega),if_pos (.inr h3)]
        exact ⟨_,_,_,_,rfl,rfl,fun h=>by cases h⟩
      · rw [A3 (show ¬ (l.length:Int)>0 by omega),if_neg (by omega)]
        simp only [cond_false,bO,decide_true,cond_true,D0c ht r1.1 (show (B1 b p 5).1<=4096 by omega),bSr];exact ⟨_,_,_,_,rfl,rfl,fun _=>⟨by omega,rfl,rfl⟩⟩
  rw [A3 (show ¬ (byN b p:Int)>=32 by omega),if_neg c3];obtain ⟨f,q,e,e'⟩:=B7j hb hl p 4 (by omega) (by omega) t ht l;rw [show ((4:Nat):Int)=4 from rfl] at e;simp only [cond_false,e,bO,bSl];by_cases h1:(A3B t b p 4).1=0
  · obtain ⟨e1,e2⟩:=e' h1
    subst e1 e2;rw [if_pos h1];simp only [h1];rw [show ((A3B t b p 4).2.1.1,(A3B t b p 4).2.1.2)=(A3B t b p 4).2.1 from rfl,C3I b _ 0 t l _ (by omega)];refine ⟨_,_,_,_,rfl,?_,fun h=>⟨?_,rfl,rfl⟩⟩
    · exact D3B ..
    · unfold A6A;rfl
  · rw [if_neg h1,show (f.1,f.2)=f from rfl,C3I b _ _ t l _ (by omega)]
    refine ⟨_,_,_,_,rfl,?_,fun h=>absurd h h1⟩;exact E2c l h1
noncomputable def gfM(b:List Int)(most:Int):Nat->B4->Nat->List A5->Int×B4×List A5
  | 0,t,p,l=>(0,t,l)
  | k+1,t,p,l=>if p<b.length then (if (A9f b most t p l).1=0 then gfM b most k (A9f b most t p l).2.1 (A9f b most t p l).2.2.1 (A9f b most t p l).2.2.2 else ((A9f b most t p l).1,t,l)) else (0,t,l)
theorem E06{b:List Int}{most:Int}(hmost:most<=4096):∀ (k:Nat) (t:B4) (p:Nat) (l:List A5),RdK b t p l->(gfM b most k t p l).1=0->P9 (gfM b most k t p l).2.1/\(gfM b most k t p l).2.2.length<=100/\∀ f∈(gfM b most k t p l).2.2,f.1.size<=10000/\f.2.size<=10000
  | 0,t,p,l,hk,_=>⟨hk.1,hk.2.2⟩
  | k+1,t,p,l,hk,h=>by
    unfold gfM at h ⊢;by_cases h1:p<b.length
    · rw [if_pos h1] at h ⊢
      by_cases h2:(A9f b most t p l).1=0
      · rw [if_pos h2] at h ⊢
        exact E06 hmost k _ _ _ (D5o hmost hk h2).1 h
      · rw [if_neg h2] at h;exact absurd h h2
    · rw [if_neg h1];exact ⟨hk.1,hk.2.2⟩
theorem C7C{b:List Int}(hb:Byt b)(hl:b.length<=500000000)(most:Int)(hmost:0<=most/\most<=4096):∀ (k:Nat) (t:B4) (p:Nat) (l:List A5),RdK b t p l->b.length<=p+k->
    ∃ q t1 t2 l',C2 (W6 F6 b most) (b,(p:Int),0,t.1,t.2,l,())=some (b,q,(gfM b most k t p l).1,t1,t2,l',())/\((gfM b most k t p l).1=0->(t1,t2)=(gfM b most k t p l).2.1/\l' = (gfM b most k t p l).2.2)
  | 0,t,p,l,hk,hle=>by
    have h1:¬ (p:Int)<(b.length:Int):=by omega
    rw [C3];simp only [W6,decide_true,cond_true,A3 h1,cond_false];exact ⟨_,_,_,_,rfl,fun _=>⟨rfl,rfl⟩⟩
  | k+1,t,p,l,hk,hle=>by
    rw [C3];unfold gfM;by_cases h1:p<b.length
    · obtain ⟨q,c,t',l',e,hc,hz⟩:=D7G hb hl most hmost t p l hk h1
      have e':F6 (b,(p:Int),0,(t.1,t.2),l) most=some ((b,q,c,t',l'),()):=e;simp only [W6,decide_true,cond_true,A0 (show (p:Int)<(b.length:Int) by omega),e',bO];rw [if_pos h1];by_cases h2:(A9f b most t p l).1=0
      · obtain ⟨z1,z2,z3⟩:=hz h2
        subst z1 z2 z3;rw [if_pos h2,hc,h2];have hk2:=D5o hmost.2 hk h2;exact C7C hb hl most hmost k _ _ _ hk2.1 (by omega)
      · rw [if_neg h2,C3]
        have hc0:¬ c=0:=by rw [hc];exact h2
        simp only [A3 hc0,cond_false,W6];rw [hc];exact ⟨_,_,_,_,rfl,fun h=>absurd h h2⟩
    · have h1':¬ (p:Int)<(b.length:Int):=by omega
      rw [if_neg h1];simp only [W6,decide_true,cond_true,A3 h1',cond_false];exact ⟨_,_,_,_,rfl,fun _=>⟨rfl,rfl⟩⟩
noncomputable def L9(t:B4)(most:Int)(b:List Int):List A5×B4×Int×Unit:=
  if (gfM b most b.length t 0 []).1=0 then ((gfM b most b.length t 0 []).2.2,(gfM b most b.length t 0 []).2.1,0,()) else ([],t,(gfM b most b.length t 0 []).1,())
theorem C3J{t:B4}(ht:P9 t){most:Int}(hmost:most<=4096)(b:List Int):P9 (L9 t most b).2.1/\(L9 t most b).1.length<=100/\∀ f∈(L9 t most b).1,f.1.size<=10000/\f.2.size<=10000:=by
  unfold L9;by_cases h:(gfM b most b.length t 0 []).1=0
  · rw [if_pos h]
    exact E06 hmost b.length t 0 [] ⟨ht,by omega,by simp,fun f hf=>by cases hf⟩ h
  · rw [if_neg h]
    exact ⟨ht,by simp,fun f hf=>by cases hf⟩
theorem B3o{t:B4}(ht:P9 t){b:List Int}(hb:Byt b)(hl:b.length<=500000000){most:Int}(hmost:0<=most/\most<=4096):V0 t most b=some (L9 t most b):=by
  have htl:=A3o ht;obtain ⟨q,t1,t2,l',e,hz⟩:=C7C hb hl most hmost b.length t 0 [] ⟨ht,by omega,by simp,fun f hf=>by cases hf⟩ (by omega);rw [show ((0:Nat):Int)=0 from rfl] at e;simp only [V0,A9a,F7,A0 hmost,C7B ht,A4m t (by omega),bO,Bool.not_true,cond_false,bSl,e];unfold L9;by_cases h:(gfM b most b.length t 0 []).1=0
  · obtain ⟨z1,z2⟩:=hz h
    rw [if_pos h,h,<- z1,<- z2];rfl
  · rw [if_neg h,A3 h]
    rfl
set_option maxRecDepth 100000
def nmA(l:List A5)(k:Nat):X0:=(rd A7 l (k:Int)).1
def A43(l:List A5)(name:X0):Nat->Nat
  | 0=>0
  | k+1=>A43 l name k+(if ((nmA l k).toList == name.toList)=true then 1 else 0)
def A0I(l:List A5)(name:X0):Nat->X0
  | 0=>⟨#[]⟩
  | k+1=>if ((nmA l k).toList == name.toList)=true then (if A43 l name k=0 then (rd A7 l (k:Int)).2 else A0I l name k) else A0I l name k
theorem D5p(l:List A5)(name:X0):∀ k,A43 l name k<=k
  | 0=>Nat.le_refl _
  | k+1=>by have:=D5p l name k;unfold A43;split<;>omega
theorem A13(l:List A5)(name:X0)(hl:l.length<=1000000):G9 l name=some (A0I l name l.length,(A43 l name l.length:Int),()):=by
  have e:=N6 (A3S l name) (fun k=>(A0I l name k,(A43 l name k:Int),(k:Int),())) l.length (A0I l name l.length,(A43 l name l.length:Int),()) (fun k hk=>by
    have h1:(k:Int)<(l.length:Int):=by omega
    have h2:(0:Int)<=(k:Int):=by omega
    have h3:=D5p l name k;have w1:IntKind.i64.wrap ((k:Int)+1)=((k+1:Nat):Int):=by rw [w64 (by omega) (by omega)];omega
    have w2:IntKind.i64.wrap ((A43 l name k:Int)+1)=((A43 l name k+1:Nat):Int):=by rw [w64 (by omega) (by omega)];omega
    simp only [A3S,A0 h1,A0 h2,cond_true,w1,w2];simp only [A0I,A43];rw [show (rd A7 l (k:Int)).1=nmA l k from rfl];cases hq:((nmA l k).toList == name.toList) with
    | false=>simp only [cond_false,Bool.false_eq_true,if_false,Nat.add_zero]
    | true=>
      simp only [cond_true,if_true];by_cases h0:A43 l name k=0
      · rw [A0 (show (A43 l name k:Int)=0 by omega),if_pos h0];rfl
      · rw [A3 (show ¬ (A43 l name k:Int)=0 by omega),if_neg h0];rfl) (by
    have h1:¬ ((l.length:Nat):Int)<(l.length:Int):=by omega
    simp only [A3S,A3 h1,cond_false])
  simp only [G9,B3U];have e':C2 (A3S l name) ((⟨#[]⟩:X0),0,0,())=some (A0I l name l.length,(A43 l name l.length:Int),()):=e;rw [e'];rfl
theorem E3M{go:Nat->Bool}{n:Nat}{f:Int×Unit->Option ((Int×Unit)⊕(Unit⊕(Bool×Unit)))}(hs:∀ i:Nat,i<n->f ((i:Int),())=if go i then some (.inl (((i+1:Nat):Int),())) else some (.inr (.inr (false,()))))
    (he:f ((n:Int),())=some (.inr (.inl ()))) (g:Unit->Option (Bool×Unit)) (c:Bool) (hg:g ()=some (c,())):D7 (C2 f (0,())) g=some ((List.range n).all go&&c,()):=by
  obtain ⟨i,h1,h2,h3,h4⟩:=A5T f (fun i=>((i:Int),())) n (fun i=>if i<n then .inr (false,()) else .inl ()) go (fun i hi=>by
    simp only [if_pos hi];exact hs i hi) (by simp only [Nat.lt_irrefl,if_false];exact he)
  have h4':C2 f (0,())=some (if i<n then .inr (false,()) else .inl ()):=h4;rw [h4'];by_cases hi:i<n
  · rw [if_pos hi]
    have:(List.range n).all go=false:=by
      rw [List.all_eq_false];exact ⟨i,List.mem_range.2 hi,by simp [h3 hi]⟩
    simp [D7,this]
  · rw [if_neg hi]
    have:(List.range n).all go=true:=by
      rw [List.all_eq_true];intro j hj;exact h2 j (by have:=List.mem_range.1 hj;omega)
    simp only [D7,this,hg,Bool.true_and]
def D3C(s:X0)(i:Nat):Bool:=decide (65<=bt s (i:Int))&&decide (bt s (i:Int)<=90)
def D0d(s:X0):Bool:=(List.range s.size).all (fun i=>!D3C s i)&&!(s.toList == (⟨#[]⟩:X0).toList)
theorem D0e(s:X0)(h:s.size<=1000000000):A23 s=some (D0d s,()):=by
  simp only [A23,B6e];refine E3M (fun i hi=>?_) ?_ _ _ rfl
  · have h1:(i:Int)<(s.size:Int):=by omega
    have h2:(0:Int)<=(i:Int):=by omega
    have w1:IntKind.i64.wrap ((i:Int)+1)=((i+1:Nat):Int):=by rw [w64 (by omega) (by omega)];omega
    simp only [B1p,A0 h1,A0 h2,cond_true,w1];by_cases a:65<=bt s (i:Int)
    · rw [A0 (show bt s (i:Int)>=65 from a)]
      by_cases b:bt s (i:Int)<=90
      · rw [show D3C s i=true by unfold D3C;rw [A0 a,A0 b];rfl,A0 b];rfl
      · rw [show D3C s i=false by unfold D3C;rw [A0 a,A3 b];rfl,A3 b];rfl
    · rw [show D3C s i=false by unfold D3C;rw [A3 a];rfl,A3 (show ¬ bt s (i:Int)>=65 from a)];rfl
  · have h1:¬ (s.size:Int)<(s.size:Int):=by omega
    simp only [B1p,A3 h1,cond_false]
theorem D3D{s:X0}(h:(!(s.toList == (⟨#[]⟩:X0).toList))=true):0<s.size:=by
  rcases Nat.eq_zero_or_pos s.size with h0 | h0
  · exfalso
    have:s=⟨#[]⟩:=ByteArray.ext (Array.eq_empty_of_size_eq_zero h0);rw [this] at h;simp at h
  · exact h0
theorem D3E{s:X0}(h:D0d s=true):0<s.size:=D3D (by
  unfold D0d at h;simp only [Bool.and_eq_true] at h;exact h.2)
abbrev nM:X0:=⟨#[58,109,101,116,104,111,100]⟩
abbrev nS:X0:=⟨#[58,115,99,104,101,109,101]⟩
abbrev nP:X0:=⟨#[58,112,97,116,104]⟩
abbrev nA:X0:=⟨#[58,97,117,116,104,111,114,105,116,121]⟩
def D3F(x:X0):Bool:=(x.toList == nM.toList)||(x.toList == nS.toList)||(x.toList == nP.toList)||(x.toList == nA.toList)
theorem C5M(a b c d x:X0):D0 [a,b,c,d] x=some ((x.toList == a.toList)||(x.toList == b.toList)||(x.toList == c.toList)||(x.toList == d.toList),()):=by
  have s0:E7 [a,b,c,d] x (0,())=bif (x.toList == a.toList) then some (.inr (0,())) else some (.inl (1,())):=rfl
  have s1:E7 [a,b,c,d] x (1,())=bif (x.toList == b.toList) then some (.inr (1,())) else some (.inl (2,())):=rfl
  have s2:E7 [a,b,c,d] x (2,())=bif (x.toList == c.toList) then some (.inr (2,())) else some (.inl (3,())):=rfl
  have s3:E7 [a,b,c,d] x (3,())=bif (x.toList == d.toList) then some (.inr (3,())) else some (.inl (4,())):=rfl
  have s4:E7 [a,b,c,d] x (4,())=some (.inr (-1,())):=rfl;simp only [D0,Q0,M8,T5];rw [C3,s0];cases (x.toList == a.toList)
  case true=>rfl
  simp only [cond_false];rw [C3,s1];cases (x.toList == b.toList)
  case true=>rfl
  simp only [cond_false];rw [C3,s2];cases (x.toList == c.toList)
  case true=>rfl
  simp only [cond_false];rw [C3,s3];cases (x.toList == d.toList)
  case true=>rfl
  simp only [cond_false];rw [C3,s4];rfl
def plN(l:List A5):Nat->Bool
  | 0=>false
  | k+1=>plN l k||!decide (bt (nmA l k) 0=58)
def C7D(l:List A5)(k:Nat):Bool:=D0d (nmA l k)&&(bif decide (bt (nmA l k) 0=58) then !plN l k&&D3F (nmA l k)&&decide (A43 l (nmA l k) l.length<=1) else true)
def D5q(l:List A5):Bool:=(List.range l.length).all (C7D l)&&(decide (1<=A43 l nM l.length)&&decide (1<=A43 l nS l.length)&&decide (1<=A43 l nP l.length))
theorem D0f(l:List A5)(hl:l.length<=1000000)(hn:∀ f∈l,f.1.size<=1000000000)(k:Nat)(hk:k<l.length) :
    A2O A23 G9 D0 l (plN l k,(k:Int),())=if C7D l k then some (.inl (plN l (k+1),((k+1:Nat):Int),())) else some (.inr (.inr (false,()))):=by
  have h1:(k:Int)<(l.length:Int):=by omega
  have h2:(0:Int)<=(k:Int):=by omega
  have w1:IntKind.i64.wrap ((k:Int)+1)=((k+1:Nat):Int):=by rw [w64 (by omega) (by omega)];omega
  have hz:(nmA l k).size<=1000000000:=by
    have e:rd A7 l (k:Int)=l[k]:=A6O (k:=A7) hk;unfold nmA;rw [e];exact hn _ (List.getElem_mem hk)
  simp only [A2O,A0 h1,A0 h2,cond_true,w1];rw [show (rd A7 l (k:Int)).1=nmA l k from rfl,D0e _ hz];simp only [bO];unfold C7D;cases hq:D0d (nmA l k) with
  | false=>rfl
  | true=>
    have h0:=D3E hq;rw [A0 (show (0:Int)<((nmA l k).size:Int) by omega),A13 l _ hl,C5M];simp only [Bool.not_true,cond_false,cond_true,bO,Bool.true_and,plN];by_cases h58:bt (nmA l k) 0=58
    · rw [A0 h58]
      simp only [Bool.not_true,cond_false,cond_true,Bool.or_false];rw [show ((nmA l k).toList == nM.toList||(nmA l k).toList == nS.toList||(nmA l k).toList == nP.toList||(nmA l k).toList == nA.toList)=D3F (nmA l k) from rfl];cases plN l k with
      | true=>rfl
      | false=>
        cases D3F (nmA l k) with
        | false=>rfl
        | true=>
          by_cases hc:A43 l (nmA l k) l.length<=1
          · rw [A3 (show ¬ (A43 l (nmA l k) l.length:Int)>1 by omega),A0 hc];rfl
          · rw [A0 (show (A43 l (nmA l k) l.length:Int)>1 by omega),A3 hc];rfl
    · rw [A3 h58]
      simp
theorem E25(l:List A5)(hl:l.length<=1000000):C2 (A2P G9 l) (0,())=some (decide (1<=A43 l nM l.length)&&decide (1<=A43 l nS l.length)&&decide (1<=A43 l nP l.length),()):=by
  have s0:A2P G9 l (0,())=A4 (G9 l nM) fun c55=>bif (decide (c55.2.1=0)) then some (.inr (false,())) else some (.inl (1,())):=rfl
  have s1:A2P G9 l (1,())=A4 (G9 l nS) fun c55=>bif (decide (c55.2.1=0)) then some (.inr (false,())) else some (.inl (2,())):=rfl
  have s2:A2P G9 l (2,())=A4 (G9 l nP) fun c55=>bif (decide (c55.2.1=0)) then some (.inr (false,())) else some (.inl (3,())):=rfl
  have s3:A2P G9 l (3,())=some (.inr (true,())):=rfl;have hd:∀ n:Nat,decide ((n:Int)=0)=!decide (1<=n):=fun n=>by
    by_cases h:1<=n
    · rw [A0 h,A3 (by omega)];rfl
    · rw [A3 h,A0 (by omega)];rfl
  rw [C3,s0,A13 l _ hl];simp only [bO,hd];cases decide (1<=A43 l nM l.length)
  case false=>rfl
  simp only [Bool.not_true,cond_false];rw [C3,s1,A13 l _ hl];simp only [bO,hd];cases decide (1<=A43 l nS l.length)
  case false=>rfl
  simp only [Bool.not_true,cond_false];rw [C3,s2,A13 l _ hl];simp only [bO,hd];cases decide (1<=A43 l nP l.length)
  case false=>rfl
  simp only [Bool.not_true,cond_false];rw [C3,s3];rfl
theorem D0g(l:List A5)(hl:l.length<=1000000)(hn:∀ f∈l,f.1.size<=1000000000):A7p l=some (D5q l,()):=by
  simp only [A7p,B6f];obtain ⟨i,h1,h2,h3,h4⟩:=A5T (A2O A23 G9 D0 l) (fun i=>(plN l i,(i:Int),())) l.length (fun i=>if i<l.length then .inr (false,()) else .inl ()) (C7D l) (fun i hi=>by
    simp only [if_pos hi];exact D0f l hl hn i hi) (by
    have h1:¬ ((l.length:Nat):Int)<(l.length:Int):=by omega
    simp only [Nat.lt_irrefl,if_false,A2O,A3 h1,cond_false])
  have h4':C2 (A2O A23 G9 D0 l) (false,0,())=some (if i<l.length then .inr (false,()) else .inl ()):=h4;rw [h4'];unfold D5q;by_cases hi:i<l.length
  · rw [if_pos hi]
    have:(List.range l.length).all (C7D l)=false:=by
      rw [List.all_eq_false];exact ⟨i,List.mem_range.2 hi,by simp [h3 hi]⟩
    simp [D7,this]
  · rw [if_neg hi]
    have:(List.range l.length).all (C7D l)=true:=by
      rw [List.all_eq_true];intro j hj;exact h2 j (by have:=List.mem_range.1 hj;omega)
    simp only [D7,this,Bool.true_and];exact E25 l hl
def opB(a:X0):Int:=
  bif ((⟨#[80,79,83,84]⟩:X0).toList == a.toList) then 1 else bif ((⟨#[72,69,65,68]⟩:X0).toList == a.toList) then 2 else bif ((⟨#[80,65,84,67,72]⟩:X0).toList == a.toList) then 3 else bif ((⟨#[80,85,84]⟩:X0).toList == a.toList) then 4 else bif ((⟨#[71,69,84]⟩:X0).toList == a.toList) then 5 else bif ((⟨#[68,69,76,69,84,69]⟩:X0).toList == a.toList) then 6 else 0
theorem D7H(a:X0):B3V a=some (opB a,()):=by
  have s1:A24 J0 a (1,())=bif ((⟨#[80,79,83,84]⟩:X0).toList == a.toList) then some (.inr (1,())) else some (.inl (2,())):=rfl
  have s2:A24 J0 a (2,())=bif ((⟨#[72,69,65,68]⟩:X0).toList == a.toList) then some (.inr (2,())) else some (.inl (3,())):=rfl
  have s3:A24 J0 a (3,())=bif ((⟨#[80,65,84,67,72]⟩:X0).toList == a.toList) then some (.inr (3,())) else some (.inl (4,())):=rfl
  have s4:A24 J0 a (4,())=bif ((⟨#[80,85,84]⟩:X0).toList == a.toList) then some (.inr (4,())) else some (.inl (5,())):=rfl
  have s5:A24 J0 a (5,())=bif ((⟨#[71,69,84]⟩:X0).toList == a.toList) then some (.inr (5,())) else some (.inl (6,())):=rfl
  have s6:A24 J0 a (6,())=bif ((⟨#[68,69,76,69,84,69]⟩:X0).toList == a.toList) then some (.inr (6,())) else some (.inl (7,())):=rfl
  have s7:A24 J0 a (7,())=some (.inr (0,())):=rfl;simp only [B3V,C2w,opB];rw [C3,s1];cases ((⟨#[80,79,83,84]⟩:X0).toList == a.toList)
  case true=>rfl
  simp only [cond_false];rw [C3,s2];cases ((⟨#[72,69,65,68]⟩:X0).toList == a.toList)
  case true=>rfl
  simp only [cond_false];rw [C3,s3];cases ((⟨#[80,65,84,67,72]⟩:X0).toList == a.toList)
  case true=>rfl
  simp only [cond_false];rw [C3,s4];cases ((⟨#[80,85,84]⟩:X0).toList == a.toList)
  case true=>rfl
  simp only [cond_false];rw [C3,s5];cases ((⟨#[71,69,84]⟩:X0).toList == a.toList)
  case true=>rfl
  simp only [cond_false];rw [C3,s6];cases ((⟨#[68,69,76,69,84,69]⟩:X0).toList == a.toList)
  case true=>rfl
  simp only [cond_false];rw [C3,s7]
abbrev nUp:X0:=⟨#[47,117,112,47]⟩
theorem C3K(s:X0):P2 s nUp=some (bif decide (4<=s.size)&&((s.extract 0 4).toList == nUp.toList) then (s.extract 4 s.size,true,()) else (s,false,())):=by
  have h4:nUp.size=4:=rfl;simp only [P2,A38,J5,P1,J3,P0,h4];by_cases h:4<=s.size
  · rw [A0 (show (s.size:Int)>=((4:Nat):Int) by omega),A0 h]
    simp only [show decide ((0:Int)<=((4:Nat):Int))=true from rfl,cond_true,bO,Int.toNat_natCast,Bool.true_and];cases ((s.extract 0 4).toList == nUp.toList)<;>rfl
  · rw [A3 (show ¬ (s.size:Int)>=((4:Nat):Int) by omega),A3 h]
    rfl
def C5N(s:X0)(i:Nat):Bool:=decide (48<=bt s (i:Int))&&decide (bt s (i:Int)<=57)
def B0M(s:X0):Nat->Nat
  | 0=>0
  | k+1=>B0M s k*10+(bt s (k:Int)-48).toNat
theorem D5r(s:X0):∀ k,B0M s k+25<=25*10 ^ k
  | 0=>by simp [B0M]
  | k+1=>by
    have h1:=D5r s k;have h2:=B7R s (k:Int);rw [B0M,Nat.pow_succ];omega
def E07(s:X0)(most:Int):Bool:=decide (1<=(s.size:Int)/\(s.size:Int)<=10)&&(List.range s.size).all (C5N s)&&decide ((B0M s s.size:Int)<=most)&&((itB (B0M s s.size:Int)).toList == s.toList)
theorem B5D(s:X0)(most:Int)(hm:most<=4294967295):A11 s most=some (bif E07 s most then ((B0M s s.size:Int),true,()) else (0,false,())):=by
  simp only [A11,B1o,F7,bO];unfold E07;by_cases hr:1<=(s.size:Int)/\(s.size:Int)<=10
  · rw [A0 hr]
    simp only [Bool.not_true,cond_false,Bool.true_and];obtain ⟨i,h1,h2,h3,h4⟩:=A5T (A22 s) (fun i=>((B0M s i:Int),(i:Int),())) s.size (fun i=>if i<s.size then .inr (0,false,()) else .inl ((B0M s s.size:Int),())) (C5N s) (fun i hi=>by
      have h1:(i:Int)<(s.size:Int):=by omega
      have h2:(0:Int)<=(i:Int):=by omega
      have w1:IntKind.i64.wrap ((i:Int)+1)=((i+1:Nat):Int):=by rw [w64 (by omega) (by omega)];omega
      have b1:=D01 s (i:Int);have b2:=B7R s (i:Int);have hn:=D5r s i;have hp:10 ^ i<=10 ^ 10:=Nat.pow_le_pow_right (by omega) (by omega);simp only [if_pos hi,A22,A0 h1,A0 h2,cond_true,w1];by_cases c1:bt s (i:Int)<48
      · rw [show C5N s i=false by unfold C5N;rw [A3 (show ¬ 48<=bt s (i:Int) by omega)];rfl,A0 c1];rfl
      · rw [A3 c1]
        by_cases c2:bt s (i:Int)>57
        · rw [show C5N s i=false by unfold C5N;rw [A3 (show ¬ bt s (i:Int)<=57 by omega),Bool.and_false],A0 c2];rfl
        · rw [show C5N s i=true by unfold C5N;rw [A0 (show 48<=bt s (i:Int) by omega),A0 (show bt s (i:Int)<=57 by omega)];rfl,A3 c2]
          simp only [cond_false,bSl,if_true];have e1:IntKind.u8.wrap (bt s (i:Int)-48)=bt s (i:Int)-48:=by
            rw [show bt s (i:Int)-48=(((bt s (i:Int)-48).toNat:Nat):Int) by omega];exact B7h (by omega)
          rw [e1,w64 (n:=bt s (i:Int)-48) (by omega) (by omega),w64 (n:=(B0M s i:Int)*10) (by omega) (by omega),w64 (by omega) (by omega),B0M];rw [show (B0M s i:Int)*10+(bt s (i:Int)-48)=((B0M s i*10+(bt s (i:Int)-48).toNat:Nat):Int) by omega]) (by
      have h1:¬ ((s.size:Nat):Int)<(s.size:Int):=by omega
      simp only [Nat.lt_irrefl,if_false,A22,A3 h1,cond_false])
    have h4':C2 (A22 s) (0,0,())=some (if i<s.size then .inr (0,false,()) else .inl ((B0M s s.size:Int),())):=h4;rw [h4'];by_cases hi:i<s.size
    · rw [if_pos hi]
      have:(List.range s.size).all (C5N s)=false:=by
        rw [List.all_eq_false];exact ⟨i,List.mem_range.2 hi,by simp [h3 hi]⟩
      simp [D7,this]
    · rw [if_neg hi]
      have ha:(List.range s.size).all (C5N s)=true:=by
        rw [List.all_eq_true];intro j hj;exact h2 j (by have:=List.mem_range.1 hj;omega)
      simp only [bSl,ha,Bool.true_and];by_cases hq:(B0M s s.size:Int)<=most
      · rw [A3 (show ¬ (B0M s s.size:Int)>most by omega),A0 hq,C1q _ (by omega) (by omega)]
        simp only [cond_false,bO,Bool.true_and];cases ((itB (B0M s s.size:Int)).toList == s.toList)<;>rfl
      · rw [A0 (show (B0M s s.size:Int)>most by omega),A3 hq]
        rfl
  · rw [A3 hr]
    rfl
set_option maxRecDepth 100000
theorem D5s{l:List A5}(hl:∀ f∈l,f.1.size<=10000/\f.2.size<=10000)(name:X0):∀ k,k<=l.length->(A0I l name k).size<=10000
  | 0,_=>by simp [A0I,ByteArray.size]
  | k+1,h=>by
    have h1:=D5s hl name k (by omega);have e:rd A7 l (k:Int)=l[k]:=A6O (k:=A7) (by omega);unfold A0I;split
    · split
      · rw [e];exact (hl _ (List.getElem_mem _)).2
      · exact h1
    · exact h1
def A9g(op:Int):X0×Int:=if op=1 then (⟨#[117,112,108,111,97,100,45,108,101,110,103,116,104]⟩,1000000000) else if op=3 then (⟨#[117,112,108,111,97,100,45,111,102,102,115,101,116]⟩,1000000000) else if op=4 then (⟨#[117,112,108,111,97,100,45,115,117,109]⟩,4294967295) else (⟨#[]⟩,0)
theorem B0N(op:Int):K3 op=some ((A9g op).1,(A9g op).2,()):=by
  simp only [K3,A3j];unfold A9g;by_cases h1:op=1
  · rw [A0 h1,if_pos h1];rfl
  rw [A3 h1,if_neg h1];by_cases h3:op=3
  · rw [A0 h3,if_pos h3];rfl
  rw [A3 h3,if_neg h3];by_cases h4:op=4
  · rw [A0 h4,if_pos h4];rfl
  · rw [A3 h4,if_neg h4];rfl
theorem D7I(op:Int):(A9g op).2<=4294967295:=by
  unfold A9g;split
  · simp
  · split
    · simp
    · split<;>simp
abbrev noR:A1m:=(0,⟨#[]⟩,0)
def B2R(s:X0):X0×Bool:=bif decide (4<=s.size)&&((s.extract 0 4).toList == nUp.toList) then (s.extract 4 s.size,true) else (s,false)
end Go.Proofs.YthnfghmjipikhaaGreatDoor.Ev
