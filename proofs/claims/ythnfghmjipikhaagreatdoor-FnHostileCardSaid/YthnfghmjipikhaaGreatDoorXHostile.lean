/- What the plain functions of the program and of the reference answer: laws of plain data. -/
import Derived.Test.YthnfghmjipikhaaGreatDoorXHostilea
set_option linter.unusedVariables false
set_option linter.unusedSimpArgs false
set_option linter.unusedSectionVars false
namespace Go.Proofs.YthnfghmjipikhaaGreatDoor.Ev
open IntKind (i64 u8 u64 u32)
set_option maxRecDepth 100000
set_option maxRecDepth 100000
set_option maxRecDepth 100000
set_option maxRecDepth 100000
set_option maxRecDepth 100000
set_option maxRecDepth 100000
set_option maxRecDepth 100000
set_option maxRecDepth 100000
set_option maxRecDepth 100000
set_option maxRecDepth 100000
set_option maxRecDepth 100000
set_option maxRecDepth 100000
set_option maxRecDepth 100000
set_option maxRecDepth 100000
set_option maxRecDepth 100000
set_option maxRecDepth 100000
set_option maxRecDepth 100000
section
variable {b:List Int} (hb:Byt b) (hl:b.length<=500000000)
include hb hl
end
set_option maxRecDepth 100000
set_option maxRecDepth 100000
set_option maxRecDepth 100000
set_option maxRecDepth 100000
def A2g(m:HM)(i:Nat)(s:A16):HM:={m with strs:=m.strs.set i s}
noncomputable def B1b(m:HM)(i:Nat)(ev:Int):Int×HM:=
  if (stV (sAt m.strs i).2.1 ev).2=1 then (1,m) else if (stV (sAt m.strs i).2.1 ev).2=2 then (5,m)
  else (0,A6e (A2g m i ((sAt m.strs i).1,(stV (sAt m.strs i).2.1 ev).1,(sAt m.strs i).2.2)) ((sAt m.strs i).1,(stV (sAt m.strs i).2.1 ev).1,(sAt m.strs i).2.2))
structure HI (m:HM):Prop where
  strs:C05 m.strs m.last
  last:0<=m.last/\m.last<=2147483647
  dec:A07 m.dec
  g:(m.g.1=0/\m.g.2.1=false/\m.g.2.2 = [])\/(1<=m.g.1/\m.g.1<=2147483647/\m.g.2.2.length<=3000)
  gb:Byt m.g.2.2
def HL(m:HM):Prop:=m.calls.length<=1000000000/\m.out.length<=10000000000000
section
variable (pre:Int) (inn:List Int) (enc:D3) (dead:Int)
theorem E3G(m:HM)(s:A16)(hc:m.calls.length<=2000000000)(hs:s.2.2.2.length<=1000000):A7k (mkH pre inn enc dead m) s=some (mkH pre inn enc dead (A6e m s),()):=by
  simp only [A7k,B2d,B36 s.2.2.2 (by omega),bO];unfold A6e;by_cases h:s.2.1=2
  · rw [A0 h,A7 h]
    simp only [mkH,A8];rw [D4O (by simp;omega)]
  · rw [A1 h,A4 h];rfl
theorem D98(m:HM)(i:Nat)(s:A16)(hi:i<m.strs.length)(hsi:sAt m.strs i=s)(hc:m.calls.length<=2000000000)(hs:s.2.2.2.length<=1000000) :
    A18 (mkH pre inn enc dead m) (s.1,s.2.1,s.2.2.1) (i:Int)=some (mkH pre inn enc dead (A6e m s),()):=by
  have d1:decide ((0:Int)<=(i:Int))=true:=A0 (by omega);have d2:decide ((i:Int)<(m.strs.length:Int))=true:=A0 (by omega);have e1:(rd H2 m.strs (i:Int))=s:=hsi;simp only [A18,A5d,mkH,mkC,d1,d2,A8,e1];rw [B36 s.2.2.2 (by omega)];simp only [bO];unfold A6e;by_cases h:s.2.1=2
  · rw [A0 h,A7 h]
    simp only [A8];rw [D4O (by simp;omega)]
  · rw [A1 h,A4 h];rfl
theorem C8n(m:HM)(i:Nat)(ev:Int)(hi:i<m.strs.length)(hc:m.calls.length<=2000000000)(hs:(sAt m.strs i).2.2.2.length<=1000000) :
    A3c (mkH pre inn enc dead m) (i:Int) ev=some ((B1b m i ev).1,mkH pre inn enc dead (B1b m i ev).2,()):=by
  have d1:decide ((0:Int)<=(i:Int))=true:=A0 (by omega);have d2:decide ((i:Int)<(m.strs.length:Int))=true:=A0 (by omega);have e1:(rd H2 m.strs (i:Int))=sAt m.strs i:=rfl;simp only [A3c,A9w,mkH,mkC,d1,d2,A8,e1,D7j,bO];unfold B1b;by_cases h1:(stV (sAt m.strs i).2.1 ev).2=1
  · rw [A0 h1,A7 h1];rfl
  rw [A1 h1,A4 h1];by_cases h2:(stV (sAt m.strs i).2.1 ev).2=2
  · rw [A0 h2,A7 h2];rfl
  rw [A1 h2,A4 h2];simp only [A3,E5];have hset:sAt (m.strs.set i ((sAt m.strs i).1,(stV (sAt m.strs i).2.1 ev).1,(sAt m.strs i).2.2)) i=((sAt m.strs i).1,(stV (sAt m.strs i).2.1 ev).1,(sAt m.strs i).2.2):=by
    rw [A4u (by simpa using hi)];simp
  have e2:rd H2 (m.strs.set i ((sAt m.strs i).1,(stV (sAt m.strs i).2.1 ev).1,(sAt m.strs i).2.2)) (i:Int)=((sAt m.strs i).1,(stV (sAt m.strs i).2.1 ev).1,(sAt m.strs i).2.2):=hset;rw [e2];have key:=D98 pre inn enc dead (A2g m i ((sAt m.strs i).1,(stV (sAt m.strs i).2.1 ev).1,(sAt m.strs i).2.2)) i ((sAt m.strs i).1,(stV (sAt m.strs i).2.1 ev).1,(sAt m.strs i).2.2) (by simpa [A2g] using hi) hset hc hs;simp only [mkH,mkC,A2g] at key;rw [key];rfl
end
theorem D1i(m:HM)(s:A16):(A6e m s).strs=m.strs/\(A6e m s).last=m.last/\(A6e m s).dec=m.dec/\(A6e m s).g=m.g/\(A6e m s).out=m.out/\(A6e m s).calls.length<=m.calls.length+1:=by
  unfold A6e;split<;>simp
theorem D99:stV 1 1=(1,1)/\stV 1 2=(2,0)/\stV 1 3=(1,0)/\stV 1 4=(2,0)/\stV 2 1=(2,2)/\stV 2 2=(2,2)/\stV 2 3=(2,2)/\stV 2 4=(2,2)/\stV 0 1=(1,0)/\stV 0 2=(2,0):=⟨rfl,rfl,rfl,rfl,rfl,rfl,rfl,rfl,rfl,rfl⟩
theorem E9u{m:HM}(h:HI m){i:Nat}{ev:Int}(hi:i<m.strs.length)(hev:1<=ev/\ev<=4):((B1b m i ev).1=0->HI (B1b m i ev).2)/\0<=(B1b m i ev).1/\(B1b m i ev).1<=20/\
    (B1b m i ev).2.last=m.last/\(B1b m i ev).2.out=m.out/\(B1b m i ev).2.dec=m.dec/\(B1b m i ev).2.calls.length<=m.calls.length+1:=by
  unfold B1b;by_cases h1:(stV (sAt m.strs i).2.1 ev).2=1
  · rw [A7 h1];exact ⟨(fun h=>by cases h),(by simp only [];omega),(by simp only [];omega),rfl,rfl,rfl,Nat.le_succ _⟩
  rw [A4 h1];by_cases h2:(stV (sAt m.strs i).2.1 ev).2=2
  · rw [A7 h2];exact ⟨(fun h=>by cases h),(by simp only [];omega),(by simp only [];omega),rfl,rfl,rfl,Nat.le_succ _⟩
  rw [A4 h2];obtain ⟨q1,q2,q3,q4,q5,q6⟩:=D1i (A2g m i ((sAt m.strs i).1,(stV (sAt m.strs i).2.1 ev).1,(sAt m.strs i).2.2)) ((sAt m.strs i).1,(stV (sAt m.strs i).2.1 ev).1,(sAt m.strs i).2.2);have hs:=h.strs.2.2 _ (F2 hi);rw [<- A4u hi] at hs;refine ⟨fun _=>⟨?_,?_,?_,?_,?_⟩,(by simp only [];omega),(by simp only [];omega),q2,q5,q3,q6⟩
  · rw [q1,q2]
    refine D7k h.strs hi rfl ?_ hs.2.2.2.2;have ht:=D99;have he:ev=1\/ev=2\/ev=3\/ev=4:=by omega
    rcases hs.2.2.2.1 with e | e<;>rw [e] at h1 h2 ⊢<;>rcases he with rfl | rfl | rfl | rfl<;>simp_all
  · rw [q2];exact h.last
  · rw [q3];exact h.dec
  · rw [q4];exact h.g
  · rw [q4];exact h.gb
set_option maxRecDepth 100000
structure FrI (f:E2):Prop where
  k:0<=f.1/\f.1<=255
  fl:0<=f.2.1/\f.2.1<=255
  st:0<=f.2.2.1/\f.2.2.1<=2147483647
  n:f.2.2.2.length<=1000
  b:Byt f.2.2.2
def A3g(f:E2)(k:Int):Bool:=!decide (Q4 .i64 f.2.1 k=0)
theorem A9L(f:E2)(k:Int):A3K f k=some (A3g f k,()):=rfl
noncomputable def fcV(f:E2):Int:=match U0 f with
  | some x=>x.1
  | none=>0
theorem A5I(f:E2):U0 f=some (fcV f,()):=by
  have:∃ c,U0 f=some (c,()):=by
    have h1:∃ b,A1a f=some (b,()):=by
      simp only [A1a,A79,S3,bO];cases decide (0<=f.1/\f.1<=255)<;>cases decide (0<=f.2.1/\f.2.1<=255)<;>cases decide (0<=f.2.2.1/\f.2.2.1<=2147483647)<;>exact ⟨_,rfl⟩
    have h2:∃ b,A2W f=some (b,()):=by
      simp only [A2W,A9v,A9L,bO];cases decide (f.1=2)<;>cases decide (f.1=3)<;>cases decide (f.1=8)<;>cases decide (f.1=6)<;>cases decide (f.1=4)<;>cases decide (f.1=7)<;>cases decide ((f.2.2.2.length:Int).tmod 6=0)<;>cases decide ((f.2.2.2.length:Int)=0)<;>exact ⟨_,rfl⟩
    obtain ⟨b1,e1⟩:=h1;obtain ⟨b2,e2⟩:=h2;simp only [U0,A4T,e1,e2,bO];cases b1
    case false=>exact ⟨_,rfl⟩
    cases b2
    case false=>exact ⟨_,rfl⟩
    simp only [C3,A3,bSl];cases decide (f.2.2.1=0)<;>cases decide (f.1=0)<;>cases decide (f.1=1)<;>cases decide (f.1=2)<;>cases decide (f.1=3)<;>cases decide (f.1=5)<;>cases decide (f.1=9)<;>cases decide (f.1=4)<;>cases decide (f.1=6)<;>cases decide (f.1=7)<;>exact ⟨_,rfl⟩
  obtain ⟨c,e⟩:=this;unfold fcV;rw [e]
def C1t(f:E2):Int:=if f.1=1 then (bif A3g f 32 then 5 else 0) else 0
def C8o(b:List Int)(ahead more:Int):List Int×Bool:=if ahead+more>(b.length:Int) then ([],false) else ((b.take ((b.length:Int)-more).toNat).drop ahead.toNat,true)
def B08(f:E2):List Int×Bool:=bif A3g f 8 then (if f.2.2.2.length=0 then ([],false) else C8o (f.2.2.2.drop 1) (C1t f) (byN f.2.2.2 0:Int)) else C8o f.2.2.2 (C1t f) 0
theorem E1E(b:List Int)(a m:Int):(C8o b a m).1.length<=b.length:=by
  unfold C8o;split
  · simp
  · simp only [D4,B5];omega
theorem E1F(f:E2):(B08 f).1.length<=f.2.2.2.length:=by
  unfold B08;cases A3g f 8
  · exact E1E _ _ _
  · simp only [A8]
    split
    · simp
    · have:=E1E (f.2.2.2.drop 1) (C1t f) (byN f.2.2.2 0:Int)
      simp only [D4] at this;omega
theorem E9v{f:E2}(h:Byt f.2.2.2):Byt (B08 f).1:=by
  have hB:∀ b a m,Byt b->Byt (C8o b a m).1:=fun b a m hb=>by
    unfold C8o;split
    · exact fun x hx=>by cases hx
    · exact B73 (C01 hb _) _
  unfold B08;cases A3g f 8
  · exact hB _ _ _ h
  · simp only [A8]
    split
    · exact fun x hx=>by cases hx
    · exact hB _ _ _ (B73 h _)
theorem E9w(b:List Int)(a m:Int)(ha:0<=a/\a<=5)(hm:0<=m/\m<256)(hl:b.length<=1000000) :
    (bif (decide ((i64.wrap (a+m))>(b.length:Int))) then some ([],false,()) else bif decide (0<=a) then bif decide (a<=(i64.wrap ((b.length:Int)-m))) then bif decide ((i64.wrap ((b.length:Int)-m))<=(b.length:Int)) then A5 (H4 ((b.take ((i64.wrap ((b.length:Int)-m)).toNat)).drop a.toNat)) fun c40=>some (c40.1,true,()) else none else none else none)=some ((C8o b a m).1,(C8o b a m).2,()):=by
  rw [w64 (n:=a+m) (by omega) (by omega),w64 (n:=(b.length:Int)-m) (by omega) (by omega)];unfold C8o;by_cases h:a+m>(b.length:Int)
  · rw [A0 h,A7 h];rfl
  · rw [A1 h,A4 h,A0 (show 0<=a by omega),A0 (show a<=(b.length:Int)-m by omega),A0 (show (b.length:Int)-m<=(b.length:Int) by omega),B36 _ (by simp;omega)]
    rfl
theorem F00(f:E2):0<=C1t f/\C1t f<=5:=by
  unfold C1t;split
  · cases A3g f 32<;>simp
  · simp
theorem D4i{f:E2}(hf:FrI f):B9l f=some ((B08 f).1,(B08 f).2,()):=by
  have ha:(bif (decide (f.1=1)) then bif A3g f 32 then some ((5:Int),()) else some (0,()) else some (0,()))=some (C1t f,()):=by
    unfold C1t;by_cases h:f.1=1
    · rw [A0 h,A7 h];cases A3g f 32<;>rfl
    · rw [A1 h,A4 h];rfl
  have hr:=F00 f;have hn:=hf.n;simp only [B9l,C9p,A9L,bO,ha];unfold B08;cases A3g f 8
  · simp only [A3,bSl,bO]
    exact E9w f.2.2.2 (C1t f) 0 hr (by omega) (by omega)
  · simp only [A8]
    by_cases h0:f.2.2.2.length=0
    · rw [A0 (show (f.2.2.2.length:Int)=0 by omega),A7 h0];rfl
    · have h1:=B5F hf.b (show 0<f.2.2.2.length by omega)
      rw [show ((0:Nat):Int)=0 from rfl] at h1;rw [A1 (show ¬ (f.2.2.2.length:Int)=0 by omega),A4 h0,A0 (show (0:Int)<(f.2.2.2.length:Int) by omega),A0 (show (1:Int)<=(f.2.2.2.length:Int) by omega),h1.1,w64 (n:=(byN f.2.2.2 0:Int)) (by omega) (by omega),A11];simp only [A3,A8,bSl,bO];exact E9w (f.2.2.2.drop 1) (C1t f) (byN f.2.2.2 0:Int) hr (by omega) (by simp;omega)
def B09(g:L3)(f:E2):Bool:=if g.1=0 then !decide (f.1=9) else decide (f.1=9)&&decide (f.2.2.1=g.1)
def B76(f:E2)(g:L3)(g2:L3):L3×List Int×Int:=
  if (g2.2.2.length:Int)>3000 then (g,[],4) else bif A3g f 4 then ((0,false,[]),g2.2.2,1) else (g2,[],0)
def D7m(g:L3)(f:E2):L3×List Int×Int:=
  if f.1=1 then (if (B08 f).2=false then (g,[],3) else B76 f g (f.2.2.1,A3g f 1,(B08 f).1)) else if f.1=9 then B76 f g (g.1,g.2.1,g.2.2++f.2.2.2) else (g,[],0)
noncomputable def Q8(g:L3)(f:E2):L3×List Int×Int:=bif !decide (fcV f=0)||!B09 g f then (g,[],2) else D7m g f
theorem E3H(g:L3)(f:E2):B3h g f=some (B09 g f,()):=by
  simp only [B3h,B8j];unfold B09;by_cases h:g.1=0
  · rw [A0 h,A7 h];rfl
  · rw [A1 h,A4 h]
    cases decide (f.1=9)<;>rfl
def GaI(g:L3):Prop:=(g.1=0/\g.2.1=false/\g.2.2 = [])\/(1<=g.1/\g.1<=2147483647/\g.2.2.length<=3000)
theorem C31{g:L3}(h:GaI g):A7f g=some (true,()):=by
  simp only [A7f,C10,S3,bO];rcases h with ⟨h1,h2,h3⟩ | ⟨h1,h2,h3⟩
  · rw [A0 h1,h2,h3];rfl
  · rw [A1 (show ¬ g.1=0 by omega),A0 (show 1<=g.1/\g.1<=2147483647 from ⟨h1,h2⟩),A0 (show (g.2.2.length:Int)<=3000 by omega)]
    rfl
theorem GaI.len{g:L3}(h:GaI g):g.2.2.length<=3000:=by
  rcases h with ⟨_,_,h3⟩ | ⟨_,_,h3⟩
  · rw [h3];simp
  · exact h3
theorem E75{g:L3}(hg:GaI g){f:E2}(hf:FrI f):C8G g f=some ((Q8 g f).1,(Q8 g f).2.1,(Q8 g f).2.2,()):=by
  have hl:=hg.len;have hn:=hf.n;have hcp:=C69 g (by omega);simp only [C8G,D3p,C31 hg,A5I,E3H,hcp,D4i hf,A9L,bO,C3,A3];unfold Q8;cases decide (fcV f=0)
  case false=>rfl
  cases B09 g f
  case false=>rfl
  simp only [C3,A3,bO,bSl,Bool.or_self];unfold D7m;by_cases h1:f.1=1
  · rw [A0 h1,A7 h1]
    simp only [A8];cases hu:(B08 f).2 with
    | false=>rfl
    | true=>
      simp only [C3,A3,bSl,B0G,K7];unfold B76;by_cases h3:((B08 f).1.length:Int)>3000
      · rw [A0 h3,A7 h3];rfl
      · rw [A1 h3,A4 h3]
        cases A3g f 4<;>rfl
  · rw [A1 h1,A4 h1]
    simp only [A3];by_cases h9:f.1=9
    · rw [A0 h9,A7 h9,gA (by omega)]
      simp only [A8,bSl];unfold B76;by_cases h3:((g.2.2++f.2.2.2).length:Int)>3000
      · rw [A0 h3,A7 h3];rfl
      · rw [A1 h3,A4 h3]
        cases A3g f 4<;>rfl
    · rw [A1 h9,A4 h9];rfl
theorem E1G{f:E2}{g g2:L3}(h1:GaI g)(h2:1<=g2.1/\g2.1<=2147483647)(hb:Byt g.2.2)(hb2:Byt g2.2.2):GaI (B76 f g g2).1/\Byt (B76 f g g2).1.2.2/\Byt (B76 f g g2).2.1/\(B76 f g g2).2.1.length<=3000:=by
  have hn:Byt ([]:List Int):=fun x hx=>by cases hx
  unfold B76;by_cases h3:(g2.2.2.length:Int)>3000
  · rw [A7 h3];exact ⟨h1,hb,hn,by simp⟩
  · rw [A4 h3]
    cases A3g f 4
    · exact ⟨.inr ⟨h2.1,h2.2,by simp only [A3];omega⟩,hb2,hn,by simp⟩
    · exact ⟨.inl ⟨rfl,rfl,rfl⟩,hn,hb2,by simp only [A8];omega⟩
theorem C8p{g:L3}(hg:GaI g)(hb:Byt g.2.2){f:E2}(hf:FrI f)(h0:f.2.2.1≠0\/f.1≠1):GaI (Q8 g f).1/\Byt (Q8 g f).1.2.2/\Byt (Q8 g f).2.1/\(Q8 g f).2.1.length<=3000:=by
  have hn:Byt ([]:List Int):=fun x hx=>by cases hx
  unfold Q8;cases hd:(!decide (fcV f=0)||!B09 g f) with
  | true=>exact ⟨hg,hb,hn,by simp⟩
  | false=>
    simp only [A3];unfold D7m;by_cases h1:f.1=1
    · rw [A7 h1]
      by_cases hu:(B08 f).2=false
      · rw [A7 hu];exact ⟨hg,hb,hn,by simp⟩
      · rw [A4 hu]
        have hs:=hf.st;exact E1G hg (by simp only;omega) hb (E9v hf.b)
    · rw [A4 h1]
      by_cases h9:f.1=9
      · rw [A7 h9]
        have hi:B09 g f=true:=by
          simp only [A7T,Bool.not_eq_false'] at hd;exact hd.2
        unfold B09 at hi;by_cases hg0:g.1=0
        · rw [A7 hg0,A0 h9] at hi;cases hi
        · rcases hg with ⟨q,_⟩ | ⟨q1,q2,q3⟩
          · exact absurd q hg0
          · exact E1G (.inr ⟨q1,q2,q3⟩) ⟨q1,q2⟩ hb (A1D hb hf.b)
      · rw [A4 h9];exact ⟨hg,hb,hn,by simp⟩
set_option maxRecDepth 100000
theorem D2p{f:E2}(h:fcV f=0)(h1:f.1=1):f.2.2.1≠0:=by
  intro h0;have e:=A5I f;rw [h] at e;have h2:∃ b,A1a f=some (b,()):=by
    simp only [A1a,A79,S3,bO];cases decide (0<=f.1/\f.1<=255)<;>cases decide (0<=f.2.1/\f.2.1<=255)<;>cases decide (0<=f.2.2.1/\f.2.2.1<=2147483647)<;>exact ⟨_,rfl⟩
  have h3:∃ b,A2W f=some (b,()):=by
    simp only [A2W,A9v,A9L,bO];cases decide (f.1=2)<;>cases decide (f.1=3)<;>cases decide (f.1=8)<;>cases decide (f.1=6)<;>cases decide (f.1=4)<;>cases decide (f.1=7)<;>cases decide ((f.2.2.2.length:Int).tmod 6=0)<;>cases decide ((f.2.2.2.length:Int)=0)<;>exact ⟨_,rfl⟩
  obtain ⟨b1,e1⟩:=h2;obtain ⟨b2,e2⟩:=h3;simp only [U0,A4T,e1,e2,bO,A0 h0,A0 h1] at e;cases b1
  case false=>simp [bSr] at e
  cases b2
  case false=>simp [bSr] at e
  simp only [C3,A3,bSl] at e;cases hq:decide (f.1=0)<;>rw [hq] at e<;>simp [bO] at e
noncomputable def D0C(m:HM)(id:Int)(fin:Bool)(l:List B2):Int×HM:=
  if id.tmod 2=0\/id<=m.last then (1,m) else if 100<=m.strs.length then (11,m)
  else if (A5H l).2≠0 then (0,{m with last:=id,calls:=m.calls ++ [(id,(0,⟨#[]⟩,0),[],(A5H l).2)]})
  else (0,A6e {m with last:=id,strs:=m.strs ++ [(id,(if fin then 2 else 1),(A5H l).1,[])]} (id,(if fin then 2 else 1),(A5H l).1,[]))
noncomputable def B9A(m:HM)(id:Int)(fin:Bool)(b:List Int):Int×HM:=
  if (P1 m.dec 4096 b).2.2.1≠0 then (9,m)
  else if C3D m.strs id=true then B1b {m with dec:=(P1 m.dec 4096 b).2.1} (atM m.strs id) (if fin then 2 else 1)
  else D0C {m with dec:=(P1 m.dec 4096 b).2.1} id fin (P1 m.dec 4096 b).1
noncomputable def C6A(m:HM)(f:E2):Int×HM:=
  if (Q8 m.g f).2.2=2\/(Q8 m.g f).2.2=3 then (1,{m with g:=(Q8 m.g f).1}) else if (Q8 m.g f).2.2=4 then (11,{m with g:=(Q8 m.g f).1})
  else if (Q8 m.g f).2.2=1 then B9A {m with g:=(Q8 m.g f).1} (if m.g.1=0 then f.2.2.1 else m.g.1) (if m.g.1=0 then A3g f 1 else m.g.2.1) (Q8 m.g f).2.1
  else (0,{m with g:=(Q8 m.g f).1})
def D21(m:HM)(f:E2)(body:List Int):HM:=bif A3g f 1 then m else {m with out:=m.out++R1 (f.1,1,0,body)}
def D4j(m:HM)(f:E2):Int×HM:=if f.2.2.1>m.last then (1,m) else (0,m)
noncomputable def C4G(m:HM)(f:E2):Int×HM:=
  if C3D m.strs f.2.2.1=true then
    (if (B08 f).2=false then (1,m) else if ((sAt m.strs (atM m.strs f.2.2.1)).2.2.2.length:Int)+((B08 f).1.length:Int)>2000 then (11,m)
     else B1b (A2g m (atM m.strs f.2.2.1) ((sAt m.strs (atM m.strs f.2.2.1)).1,(sAt m.strs (atM m.strs f.2.2.1)).2.1,(sAt m.strs (atM m.strs f.2.2.1)).2.2.1,(sAt m.strs (atM m.strs f.2.2.1)).2.2.2++(B08 f).1)) (atM m.strs f.2.2.1) (bif A3g f 1 then 4 else 3))
  else D4j m f
def C1u(m:HM)(f:E2):Int×HM:=
  if C3D m.strs f.2.2.1=true then (0,{m with strs:=m.strs.take (atM m.strs f.2.2.1)++m.strs.drop (atM m.strs f.2.2.1+1)}) else D4j m f
def E1H(b:List Int):Bool:=(A2e b 0 4).2.1&&decide ((b.length:Int)=4)&&!decide (Q4 .i64 (A2e b 0 4).1 2147483647=0)
noncomputable def frM(m:HM)(f:E2):Int×HM:=
  if fcV f=2 then (6,m) else if fcV f=3 then (1,m) else if m.g.1≠0\/f.1=1\/f.1=9 then C6A m f
  else if f.1=4 then (0,D21 m f []) else if f.1=6 then (0,D21 m f f.2.2.2) else if f.1=5 then (1,m) else if f.1=8 then (if E1H f.2.2.2=true then (0,m) else (1,m))
  else if f.1=0 then C4G m f else if f.1=3 then C1u m f else (0,m)
section
variable (pre:Int) (inn:List Int) (enc:D3) (dead:Int)
theorem E3I(m:HM)(h:HI m)(hl:m.calls.length<=1000000000)(id:Int)(fin:Bool)(b:List Int)(hb:Byt b)(hbl:b.length<=100000) :
    A7o (mkH pre inn enc dead m) id fin b=some ((B9A m id fin b).1,mkH pre inn enc dead (B9A m id fin b).2,()):=by
  have hg:=C79 h.dec (by omega:(4096:Int)<=4096) b;have hsl:=h.strs.1;have e0:=D4e h.dec hb (by omega) (most:=4096) (by omega);simp only [A7o,B2e,e0,bO];unfold B9A;by_cases h9:(P1 m.dec 4096 b).2.2.1=0
  case neg=>rw [A1 h9,A7 h9];rfl
  rw [A0 h9,A4 (by simpa using h9)];have e1:=C5J pre inn enc dead {m with dec:=(P1 m.dec 4096 b).2.1} id (by simp only;omega);simp only [mkC] at e1;simp only [C3,A3,e1,bO];cases hh:C3D m.strs id with
  | true=>
    have hlt:=B4D hh;have hst:=h.strs.2.2 _ (F2 hlt.1);rw [<- A4u hlt.1] at hst;have eh:C1H fin=some ((if fin then 2 else 1),()):=by cases fin<;>rfl
    have e2:=C8n pre inn enc dead {m with dec:=(P1 m.dec 4096 b).2.1} (atM m.strs id) (if fin then 2 else 1) hlt.1 (by simp only;omega) (by have:=hst.2.2.2.2;simp only;omega);simp only [mkH,mkC] at e2;simp only [A8,eh,bO,e2,bSr,L4]
  | false=>
    simp only [A3,I6,K7];unfold D0C;have ho:(bif (decide ((id.tmod 2)=0)) then some (true,()) else some ((decide (id<=m.last)),()))=some (decide (id.tmod 2=0\/id<=m.last),()):=by
      by_cases q1:id.tmod 2=0
      · rw [A0 q1,A0 (show id.tmod 2=0\/id<=m.last from .inl q1)];rfl
      · rw [A1 q1]
        by_cases q2:id<=m.last
        · rw [A0 q2,A0 (show id.tmod 2=0\/id<=m.last from .inr q2)];rfl
        · rw [A1 q2,A1 (show ¬ (id.tmod 2=0\/id<=m.last) by omega)];rfl
    simp only [ho,bO];by_cases q:id.tmod 2=0\/id<=m.last
    · rw [A0 q,A7 q];rfl
    rw [A1 q,A4 q];simp only [A3];by_cases q2:100<=m.strs.length
    · rw [A0 (show (m.strs.length:Int)>=100 by omega),A7 q2];rfl
    rw [A1 (show ¬ (m.strs.length:Int)>=100 by omega),A4 q2];simp only [A3,bSl];rw [E3C _ (by have:=hg.2.1;omega) hg.2.2];simp only [bO];by_cases q3:(A5H (P1 m.dec 4096 b).1).2=0
    · rw [A0 q3,A4 (by simpa using q3)]
      have eh:C1H fin=some ((if fin then 2 else 1),()):=by cases fin<;>rfl
      have es:A0R 0 (if fin then 2 else 1)=some ((if fin then 2 else 1),0,()):=by cases fin<;>rfl
      simp only [C3,A3,eh,bO,es];rw [D4O (by simp;omega)];have e3:=E3G pre inn enc dead {m with dec:=(P1 m.dec 4096 b).2.1,last:=id,strs:=m.strs ++ [(id,(if fin then 2 else 1),(A5H (P1 m.dec 4096 b).1).1,[])]} (id,(if fin then 2 else 1),(A5H (P1 m.dec 4096 b).1).1,[]) (by simp only;omega) (by simp);simp only [mkH,mkC] at e3;rw [e3];rfl
    · rw [A1 q3,A7 (by simpa using q3)]
      simp only [J3,A8];rw [D4O (by simp;omega)]
theorem D0D(m:HM)(h:HI m)(hl:m.calls.length<=1000000000)(f:E2)(hf:FrI f)(hc:fcV f=0) :
    A9b (mkH pre inn enc dead m) f=some ((C6A m f).1,mkH pre inn enc dead (C6A m f).2,()):=by
  have hok:=C8p h.g h.gb hf (by by_cases h1:f.1=1;exact .inl (D2p hc h1);exact .inr h1);have ho:(bif (decide (m.g.1=0)) then some (f.2.2.1,A3g f 1,()) else some (m.g.1,m.g.2.1,()))=some ((if m.g.1=0 then f.2.2.1 else m.g.1),(if m.g.1=0 then A3g f 1 else m.g.2.1),()):=by
    by_cases q:m.g.1=0
    · rw [A0 q,A7 q,A7 q];rfl
    · rw [A1 q,A4 q,A4 q];rfl
  simp only [A9b,B5A,A9L,bO,ho,E75 h.g hf];unfold C6A;by_cases q2:(Q8 m.g f).2.2=2
  · rw [A0 q2,A7 (show (Q8 m.g f).2.2=2\/(Q8 m.g f).2.2=3 from .inl q2)];rfl
  rw [A1 q2];simp only [A3,bO];by_cases q3:(Q8 m.g f).2.2=3
  · rw [A0 q3,A7 (show (Q8 m.g f).2.2=2\/(Q8 m.g f).2.2=3 from .inr q3)];rfl
  rw [A1 q3,A4 (show ¬ ((Q8 m.g f).2.2=2\/(Q8 m.g f).2.2=3) by omega)];by_cases q4:(Q8 m.g f).2.2=4
  · rw [A0 q4,A7 q4];rfl
  rw [A1 q4,A4 q4];by_cases q1:(Q8 m.g f).2.2=1
  · rw [A0 q1,A7 q1]
    have e:=E3I pre inn enc dead {m with g:=(Q8 m.g f).1} ⟨h.strs,h.last,h.dec,hok.1,hok.2.1⟩ hl (if m.g.1=0 then f.2.2.1 else m.g.1) (if m.g.1=0 then A3g f 1 else m.g.2.1) (Q8 m.g f).2.1 hok.2.2.1 (by omega);simp only [mkH,mkC] at e;simp only [A8,A3,e,bO]
  · rw [A1 q1,A4 q1];rfl
theorem D1j(m:HM)(ho:m.out.length<=100000000000000)(f:E2)(b:List Int)(hb:b.length<=1000):A6k (mkH pre inn enc dead m) f b=some (mkH pre inn enc dead (D21 m f b),()):=by
  simp only [A6k,B16,A9L,bO,mkH];unfold D21;cases A3g f 1 with
  | true=>rfl
  | false=>
    simp only [J3,A8,A3];rw [C64 _ _ (by simp only;omega)];rfl
theorem C8q(m:HM)(f:E2):A3d (mkH pre inn enc dead m) f=some ((D4j m f).1,mkH pre inn enc dead (D4j m f).2,()):=by
  simp only [A3d,B01,mkH,mkC];unfold D4j;by_cases h:f.2.2.1>m.last
  · rw [A0 h,A7 h];rfl
  · rw [A1 h,A4 h];rfl
theorem E76(m:HM)(h:HI m)(hl:m.calls.length<=1000000000)(f:E2)(hf:FrI f) :
    A9d (mkH pre inn enc dead m) f=some ((C4G m f).1,mkH pre inn enc dead (C4G m f).2,()):=by
  have hsl:=h.strs.1;have hn:=hf.n;have hu:=E1F f;have e1:=C5J pre inn enc dead m f.2.2.1 (by omega);have e2:=C8q pre inn enc dead m f;simp only [mkC] at e1;simp only [mkH,mkC] at e2;simp only [A9d,B5B,mkH,mkC,e1,bO,D4i hf,A9L];unfold C4G;cases hh:C3D m.strs f.2.2.1 with
  | false=>
    simp only [J3,A8,I6,K7,e2,bO]
  | true=>
    have hlt:=B4D hh;have hst:=h.strs.2.2 _ (F2 hlt.1);rw [<- A4u hlt.1] at hst;have h5:=hst.2.2.2.2;have d1:decide ((0:Int)<=(atM m.strs f.2.2.1:Int))=true:=A0 (by omega);have d2:decide ((atM m.strs f.2.2.1:Int)<(m.strs.length:Int))=true:=A0 (by omega);have e3:rd H2 m.strs (atM m.strs f.2.2.1:Int)=sAt m.strs (atM m.strs f.2.2.1):=rfl;simp only [C3,A3,L4,d1,d2,A8,e3];cases hq:(B08 f).2 with
    | false=>rfl
    | true=>
      simp only [C3,A3,B0G,K7];rw [w64 (by omega) (by omega)];by_cases q:((sAt m.strs (atM m.strs f.2.2.1)).2.2.2.length:Int)+((B08 f).1.length:Int)>2000
      · rw [A0 q,A7 q];rfl
      · rw [A1 q,A4 q]
        simp only [A3];rw [gA (by omega)];simp only [E5,bO];have e4:=fun ev=>C8n pre inn enc dead (A2g m (atM m.strs f.2.2.1) ((sAt m.strs (atM m.strs f.2.2.1)).1,(sAt m.strs (atM m.strs f.2.2.1)).2.1,(sAt m.strs (atM m.strs f.2.2.1)).2.2.1,(sAt m.strs (atM m.strs f.2.2.1)).2.2.2++(B08 f).1)) (atM m.strs f.2.2.1) ev (by simpa [A2g] using hlt.1) (by simp only [A2g];omega) (by
          simp only [A2g];rw [A4u (by simpa using hlt.1),A3q];simp only [A6];omega)
        simp only [mkH,mkC,A2g] at e4;cases A3g f 1
        · simp only [A3,e4,bO];rfl
        · simp only [A8,e4,bO];rfl
theorem E3J(m:HM)(h:HI m)(f:E2):A7r (mkH pre inn enc dead m) f=some ((C1u m f).1,mkH pre inn enc dead (C1u m f).2,()):=by
  have hsl:=h.strs.1;have e1:=C5J pre inn enc dead m f.2.2.1 (by omega);have e2:=C8q pre inn enc dead m f;simp only [mkC] at e1;simp only [mkH,mkC] at e2;simp only [A7r,B2g,mkH,mkC,e1,bO];unfold C1u;cases hh:C3D m.strs f.2.2.1 with
  | false=>simp only [J3,A8,I6,K7,e2,bO]
  | true=>
    have hlt:=B4D hh;have w1:i64.wrap ((atM m.strs f.2.2.1:Int)+1)=((atM m.strs f.2.2.1+1:Nat):Int):=by rw [w64 (by omega) (by omega)];omega
    have e3:T8 m.strs (atM m.strs f.2.2.1:Int) ((atM m.strs f.2.2.1+1:Nat):Int)=some (m.strs.take (atM m.strs f.2.2.1)++m.strs.drop (atM m.strs f.2.2.1+1),()):=by
      rw [show T8=E0H from rfl];simp only [E0H];rw [A0 (by omega),A0 (by omega),A0 (by omega)];simp only [A8,E5]
    simp only [C3,A3,w1,e3,bO,L4]
theorem E1I(b:List Int)(hb:Byt b)(hl:b.length<=1000):∃ n,B5q b=some (n,E1H b,()):=by
  have e:=E0S b hb (by omega) 0 4 (by omega);rw [show ((4:Nat):Int)=4 from rfl] at e;simp only [B5q,C1P,e,bO];unfold E1H;cases (A2e b 0 4).2.1<;>cases decide ((b.length:Int)=4)<;>cases decide (Q4 .i64 (A2e b 0 4).1 2147483647=0)<;>exact ⟨_,rfl⟩
theorem E3K(m:HM)(h:HI m)(hl:HL m)(f:E2)(hf:FrI f):A3P (mkH pre inn enc dead m) f=some ((frM m f).1,mkH pre inn enc dead (frM m f).2,()):=by
  have hn:=hf.n;simp only [A3P,B2h,A5I,bO];unfold frM;by_cases c2:fcV f=2
  · rw [A0 c2,A7 c2];rfl
  rw [A1 c2,A4 c2];by_cases c3:fcV f=3
  · rw [A0 c3,A7 c3];rfl
  rw [A1 c3,A4 c3];have hc:fcV f=0:=by
    have e:=A5I f;have hall:∃ c,U0 f=some (c,())/\(c=0\/c=2\/c=3):=by
      have h2:∃ b,A1a f=some (b,()):=by
        simp only [A1a,A79,S3,bO];cases decide (0<=f.1/\f.1<=255)<;>cases decide (0<=f.2.1/\f.2.1<=255)<;>cases decide (0<=f.2.2.1/\f.2.2.1<=2147483647)<;>exact ⟨_,rfl⟩
      have h3:∃ b,A2W f=some (b,()):=by
        simp only [A2W,A9v,A9L,bO];cases decide (f.1=2)<;>cases decide (f.1=3)<;>cases decide (f.1=8)<;>cases decide (f.1=6)<;>cases decide (f.1=4)<;>cases decide (f.1=7)<;>cases decide ((f.2.2.2.length:Int).tmod 6=0)<;>cases decide ((f.2.2.2.length:Int)=0)<;>exact ⟨_,rfl⟩
      obtain ⟨b1,e1⟩:=h2;obtain ⟨b2,e2⟩:=h3;simp only [U0,A4T,e1,e2,bO];cases b1
      case false=>exact ⟨_,rfl,.inr (.inl rfl)⟩
      cases b2
      case false=>exact ⟨_,rfl,.inr (.inl rfl)⟩
      simp only [C3,A3,bSl];cases decide (f.2.2.1=0)<;>cases decide (f.1=0)<;>cases decide (f.1=1)<;>cases decide (f.1=2)<;>cases decide (f.1=3)<;>cases decide (f.1=5)<;>cases decide (f.1=9)<;>cases decide (f.1=4)<;>cases decide (f.1=6)<;>cases decide (f.1=7)<;>first | exact ⟨_,rfl,.inl rfl⟩ | exact ⟨_,rfl,.inr (.inr rfl)⟩
    obtain ⟨c,e1,e2⟩:=hall;rw [e1] at e;injection e with e
    injection e with e _
    omega
  simp only [A3];by_cases g0:m.g.1=0
  case neg=>
    rw [A1 g0,A7 (.inl g0)];simp only [J3,A8,D0D pre inn enc dead m h hl.1 f hf hc,bO]
  rw [A0 g0];simp only [C3,A3];by_cases k1:f.1=1
  · rw [A0 k1,A7 (.inr (.inl k1))]
    simp only [A8,bO,D0D pre inn enc dead m h hl.1 f hf hc]
  rw [A1 k1];simp only [A3,bO];by_cases k9:f.1=9
  · rw [A0 k9,A7 (.inr (.inr k9))]
    simp only [A8,bO,D0D pre inn enc dead m h hl.1 f hf hc]
  rw [A1 k9,A4 (by omega)];simp only [A3];by_cases k4:f.1=4
  · rw [A0 k4,A7 k4]
    simp only [A8,D1j pre inn enc dead m (by have:=hl.2;omega) f [] (by simp),bO]
  rw [A1 k4,A4 k4];simp only [A3];by_cases k6:f.1=6
  · rw [A0 k6,A7 k6]
    simp only [A8,D1j pre inn enc dead m (by have:=hl.2;omega) f f.2.2.2 hn,bO]
  rw [A1 k6,A4 k6];simp only [A3];by_cases k5:f.1=5
  · rw [A0 k5,A7 k5];rfl
  rw [A1 k5,A4 k5];simp only [A3];by_cases k8:f.1=8
  · rw [A0 k8,A7 k8]
    obtain ⟨n,e⟩:=E1I f.2.2.2 hf.b hn;simp only [A8,e,bO];cases E1H f.2.2.2<;>rfl
  rw [A1 k8,A4 k8];simp only [A3];by_cases k0:f.1=0
  · rw [A0 k0,A7 k0]
    simp only [A8,E76 pre inn enc dead m h hl.1 f hf,bO]
  rw [A1 k0,A4 k0];simp only [A3];by_cases k3:f.1=3
  · rw [A0 k3,A7 k3]
    simp only [A8,E3J pre inn enc dead m h f,bO]
  · rw [A1 k3,A4 k3];rfl
end
set_option maxRecDepth 100000
structure FrO (m:HM) (r:Int×HM):Prop where
  code:0<=r.1/\r.1<=20
  hi:r.1=0->HI r.2
  last:0<=r.2.last/\r.2.last<=2147483647
  dec:A07 r.2.dec
  calls:r.2.calls.length<=m.calls.length+1
  out:r.2.out.length<=m.out.length+1100
theorem C1v{m:HM}(h:HI m){c:Int}(hc:0<c/\c<=20):FrO m (c,m):=⟨by simp only;omega,fun e=>by simp only at e;omega,h.last,h.dec,by simp only;omega,by simp only;omega⟩
theorem C8r{m:HM}(h:HI m):FrO m (0,m):=⟨by simp only;omega,fun _=>h,h.last,h.dec,by simp only;omega,by simp only;omega⟩
theorem E1J{m m0:HM}(h:HI m){i:Nat}{ev:Int}(hi:i<m.strs.length)(hev:1<=ev/\ev<=4)(h1:m.calls=m0.calls)(h2:m.out=m0.out):FrO m0 (B1b m i ev):=by
  obtain ⟨a1,a2,a3,a4,a5,a6,a7⟩:=E9u h hi hev;exact ⟨⟨a2,a3⟩,a1,by rw [a4];exact h.last,by rw [a6];exact h.dec,by rw [<- h1];exact a7,by rw [a5,h2];omega⟩
theorem E77{m m0:HM}(h:HI m)(id:Int)(hid:id<=2147483647)(fin:Bool)(b:List Int)(h1:m.calls=m0.calls)(h2:m.out=m0.out):FrO m0 (B9A m id fin b):=by
  have hg:=C79 h.dec (by omega:(4096:Int)<=4096) b;have hm:HI {m with dec:=(P1 m.dec 4096 b).2.1}:=⟨h.strs,h.last,hg.1,h.g,h.gb⟩;have hl:=h.last;unfold B9A;by_cases h9:(P1 m.dec 4096 b).2.2.1≠0
  · rw [A7 h9]
    exact ⟨by simp only;omega,fun e=>by simp only at e;omega,h.last,h.dec,by simp only [h1];omega,by simp only [h2];omega⟩
  rw [A4 h9];cases hh:C3D m.strs id with
  | true=>
    rw [A7 rfl];exact E1J hm (B4D hh).1 (by cases fin<;>simp) h1 h2
  | false=>
    rw [A4 (by simp)];unfold D0C;by_cases q:id.tmod 2=0\/id<=m.last
    · rw [A7 q]
      exact ⟨by simp only;omega,fun e=>by simp only at e;omega,h.last,hg.1,by simp only [h1];omega,by simp only [h2];omega⟩
    rw [A4 q];by_cases q2:100<=m.strs.length
    · rw [A7 q2]
      exact ⟨by simp only;omega,fun e=>by simp only at e;omega,h.last,hg.1,by simp only [h1];omega,by simp only [h2];omega⟩
    rw [A4 q2];have ht:id.tmod 2=1:=by
      have:=A1Q (a:=id) (b:=2) (by omega);omega
    by_cases q3:(A5H (P1 m.dec 4096 b).1).2≠0
    · rw [A7 q3]
      exact ⟨by simp only;omega,fun _=>⟨E3F h.strs (by simp only;omega),by simp only;omega,hg.1,h.g,h.gb⟩,by simp only;omega,hg.1,by simp only [A6,G7,h1];omega,by simp only [h2];omega⟩
    · rw [A4 q3]
      obtain ⟨z1,z2,z3,z4,z5,z6⟩:=D1i {m with dec:=(P1 m.dec 4096 b).2.1,last:=id,strs:=m.strs ++ [(id,(if fin then 2 else 1),(A5H (P1 m.dec 4096 b).1).1,[])]} (id,(if fin then 2 else 1),(A5H (P1 m.dec 4096 b).1).1,[]);refine ⟨by simp only;omega,fun _=>⟨?_,?_,?_,?_,?_⟩,?_,?_,?_,?_⟩
      · rw [z1,z2]
        exact E3E h.strs (by omega) (s:=(id,(if fin then 2 else 1),(A5H (P1 m.dec 4096 b).1).1,[])) (by simp only;omega) ht (by cases fin<;>simp) (by simp) (by simp only;omega)
      · rw [z2];simp only;omega
      · rw [z3];exact hg.1
      · rw [z4];exact h.g
      · rw [z4];exact h.gb
      · simp only;rw [z2];simp only;omega
      · simp only;rw [z3];exact hg.1
      · simp only at z6 ⊢;rw [<- h1];exact z6
      · simp only;rw [z5];simp only [h2];omega
theorem F01{m:HM}(h:HI m){f:E2}(hf:FrI f)(hc:fcV f=0):FrO m (C6A m f):=by
  have hok:=C8p h.g h.gb hf (by by_cases h1:f.1=1;exact .inl (D2p hc h1);exact .inr h1);have hm:HI {m with g:=(Q8 m.g f).1}:=⟨h.strs,h.last,h.dec,hok.1,hok.2.1⟩;unfold C6A;by_cases q2:(Q8 m.g f).2.2=2\/(Q8 m.g f).2.2=3
  · rw [A7 q2]
    exact ⟨by simp only;omega,fun e=>by simp only at e;omega,h.last,h.dec,by simp only;omega,by simp only;omega⟩
  rw [A4 q2];by_cases q4:(Q8 m.g f).2.2=4
  · rw [A7 q4]
    exact ⟨by simp only;omega,fun e=>by simp only at e;omega,h.last,h.dec,by simp only;omega,by simp only;omega⟩
  rw [A4 q4];by_cases q1:(Q8 m.g f).2.2=1
  · rw [A7 q1]
    have hs:=hf.st;refine E77 hm _ ?_ _ _ rfl rfl;by_cases g0:m.g.1=0
    · rw [A7 g0];omega
    · rw [A4 g0]
      rcases h.g with q | q
      · exact absurd q.1 g0
      · exact q.2.1
  · rw [A4 q1]
    exact ⟨by simp only;omega,fun _=>hm,h.last,h.dec,by simp only;omega,by simp only;omega⟩
theorem E5W{m:HM}(h:HI m)(f:E2)(hf:FrI f)(b:List Int)(hb:b.length<=1000):FrO m (0,D21 m f b):=by
  have hk:=hf.k;unfold D21;cases A3g f 1
  · have hl:=B07 (f.1,1,0,b) (fok _ _ _ _ (by omega) (by omega) (by omega) (by omega))
    exact ⟨by simp only;omega,fun _=>⟨h.strs,h.last,h.dec,h.g,h.gb⟩,h.last,h.dec,by simp only [A3];omega,by simp only [A3,A6];omega⟩
  · exact C8r h
theorem E5a{m:HM}(h:HI m)(f:E2):FrO m (D4j m f):=by
  unfold D4j;split
  · exact C1v h (by omega)
  · exact C8r h
theorem F02{m:HM}(h:HI m){f:E2}(hf:FrI f):FrO m (C4G m f):=by
  unfold C4G;cases hh:C3D m.strs f.2.2.1 with
  | false=>rw [A4 (by simp)];exact E5a h f
  | true=>
    rw [A7 rfl];have hlt:=B4D hh;have hst:=h.strs.2.2 _ (F2 hlt.1);rw [<- A4u hlt.1] at hst;by_cases hu:(B08 f).2=false
    · rw [A7 hu];exact C1v h (by omega)
    rw [A4 hu];by_cases q:((sAt m.strs (atM m.strs f.2.2.1)).2.2.2.length:Int)+((B08 f).1.length:Int)>2000
    · rw [A7 q];exact C1v h (by omega)
    rw [A4 q];refine E1J ?_ ?_ ?_ rfl rfl
    · exact ⟨D7k h.strs hlt.1 rfl hst.2.2.2.1 (by simp only [A6];omega),h.last,h.dec,h.g,h.gb⟩
    · simpa [A2g] using hlt.1
    · cases A3g f 1<;>simp
theorem E78{m:HM}(h:HI m)(f:E2):FrO m (C1u m f):=by
  unfold C1u;cases hh:C3D m.strs f.2.2.1 with
  | false=>rw [A4 (by simp)];exact E5a h f
  | true=>
    rw [A7 rfl];exact ⟨by simp only;omega,fun _=>⟨E74 h.strs _,h.last,h.dec,h.g,h.gb⟩,h.last,h.dec,by simp only;omega,by simp only;omega⟩
theorem D9A(f:E2):fcV f=0\/fcV f=2\/fcV f=3:=by
  have e:=A5I f;have hall:∃ c,U0 f=some (c,())/\(c=0\/c=2\/c=3):=by
    have h2:∃ b,A1a f=some (b,()):=by
      simp only [A1a,A79,S3,bO];cases decide (0<=f.1/\f.1<=255)<;>cases decide (0<=f.2.1/\f.2.1<=255)<;>cases decide (0<=f.2.2.1/\f.2.2.1<=2147483647)<;>exact ⟨_,rfl⟩
    have h3:∃ b,A2W f=some (b,()):=by
      simp only [A2W,A9v,A9L,bO];cases decide (f.1=2)<;>cases decide (f.1=3)<;>cases decide (f.1=8)<;>cases decide (f.1=6)<;>cases decide (f.1=4)<;>cases decide (f.1=7)<;>cases decide ((f.2.2.2.length:Int).tmod 6=0)<;>cases decide ((f.2.2.2.length:Int)=0)<;>exact ⟨_,rfl⟩
    obtain ⟨b1,e1⟩:=h2;obtain ⟨b2,e2⟩:=h3;simp only [U0,A4T,e1,e2,bO];cases b1
    case false=>exact ⟨_,rfl,.inr (.inl rfl)⟩
    cases b2
    case false=>exact ⟨_,rfl,.inr (.inl rfl)⟩
    simp only [C3,A3,bSl];cases decide (f.2.2.1=0)<;>cases decide (f.1=0)<;>cases decide (f.1=1)<;>cases decide (f.1=2)<;>cases decide (f.1=3)<;>cases decide (f.1=5)<;>cases decide (f.1=9)<;>cases decide (f.1=4)<;>cases decide (f.1=6)<;>cases decide (f.1=7)<;>first | exact ⟨_,rfl,.inl rfl⟩ | exact ⟨_,rfl,.inr (.inr rfl)⟩
  obtain ⟨c,e1,e2⟩:=hall;rw [e1] at e;injection e with e
  injection e with e _
  omega
theorem F03{m:HM}(h:HI m){f:E2}(hf:FrI f):FrO m (frM m f):=by
  have hr:=D9A f;unfold frM;by_cases c2:fcV f=2
  · rw [A7 c2];exact C1v h (by omega)
  rw [A4 c2];by_cases c3:fcV f=3
  · rw [A7 c3];exact C1v h (by omega)
  rw [A4 c3];by_cases k:m.g.1≠0\/f.1=1\/f.1=9
  · rw [A7 k];exact F01 h hf (by omega)
  rw [A4 k];by_cases k4:f.1=4
  · rw [A7 k4];exact E5W h f hf [] (by simp)
  rw [A4 k4];by_cases k6:f.1=6
  · rw [A7 k6];exact E5W h f hf _ hf.n
  rw [A4 k6];by_cases k5:f.1=5
  · rw [A7 k5];exact C1v h (by omega)
  rw [A4 k5];by_cases k8:f.1=8
  · rw [A7 k8]
    split
    · exact C8r h
    · exact C1v h (by omega)
  rw [A4 k8];by_cases k0:f.1=0
  · rw [A7 k0];exact F02 h hf
  rw [A4 k0];by_cases k3:f.1=3
  · rw [A7 k3];exact E78 h f
  · rw [A4 k3];exact C8r h
section
variable (cs:List A0j) (os:List Int)
end
set_option maxRecDepth 100000
theorem D0E(b:List Int)(a c:Nat):∀ j,O6 (b.drop a) c j=O6 b (a+c) j
  | 0=>rfl
  | j+1=>by
    simp only [O6,D0E b a c j];rw [show (b.drop a).getD (c+j) 0=b.getD (a+c+j) 0 by simp [List.getD,H0,R5]]
theorem B38(b:List Int)(n c:Nat):∀ j,c+j<=n->O6 (b.take n) c j=O6 b c j
  | 0,_=>rfl
  | j+1,h=>by
    simp only [O6,B38 b n c j (by omega)];rw [show (b.take n).getD (c+j) 0=b.getD (c+j) 0 by simp [List.getD,K8,show c+j<n by omega]]
def codeF(b:List Int):Nat:=if b.length<9 then 1 else if O6 b 0 3>1000 then 2 else if b.length<9+O6 b 0 3 then 1 else 0
def A2M(b:List Int):Nat:=9+O6 b 0 3
def A0D(b:List Int):E2:=(A3f b 0).1
theorem B0e{b:List Int}{a:Nat}(ha:a<=b.length):(A3f b a).2.2.1=(codeF (b.drop a):Int)/\(codeF (b.drop a)=0->(A3f b a).1=A0D (b.drop a)/\(A3f b a).2.1=((a+A2M (b.drop a):Nat):Int)/\a+A2M (b.drop a)<=b.length):=by
  have hl:(b.drop a).length=b.length-a:=by simp
  have e0:O6 (b.drop a) 0 3=O6 b a 3:=by rw [D0E];rfl
  have hg:∀ (k:Nat),rd (.int .u8) (b.drop a) (k:Int)=rd (.int .u8) b ((a:Int)+k):=fun k=>by
    simp only [rd];rw [show ((a:Int)+(k:Int)).toNat=a+k by omega,E5];simp [List.getD,H0]
  unfold codeF A2M A0D;rw [hl,e0];unfold A3f;by_cases h9:b.length-a<9
  · rw [A7 h9,A4 (show ¬ (0<=(a:Int)/\(a:Int)<=(b.length:Int)-9) by omega)]
    exact ⟨rfl,fun h=>by cases h⟩
  rw [A4 h9,A7 (show 0<=(a:Int)/\(a:Int)<=(b.length:Int)-9 by omega),E5];by_cases h1:O6 b a 3>1000
  · rw [A7 h1,A7 (show (O6 b a 3:Int)>1000 by omega)]
    exact ⟨rfl,fun h=>by cases h⟩
  rw [A4 h1,A4 (show ¬ (O6 b a 3:Int)>1000 by omega)];by_cases h2:b.length-a<9+O6 b a 3
  · rw [A7 h2,A7 (show (O6 b a 3:Int)>(b.length:Int)-(a:Int)-9 by omega)]
    exact ⟨rfl,fun h=>by cases h⟩
  rw [A4 h2,A4 (show ¬ (O6 b a 3:Int)>(b.length:Int)-(a:Int)-9 by omega)];refine ⟨rfl,fun _=>⟨?_,(by show (a:Int)+9+(O6 b a 3:Int)=((a+(9+O6 b a 3):Nat):Int);omega),by omega⟩⟩;rw [A7 (show 0<=(0:Int)/\(0:Int)<=((b.drop a).length:Int)-9 by omega)];rw [show (0:Int).toNat=0 from rfl,e0,A4 (show ¬ (O6 b a 3:Int)>1000 by omega),A4 (show ¬ (O6 b a 3:Int)>((b.drop a).length:Int)-0-9 by omega)];have r3:=hg 3;have r4:=hg 4;rw [show ((3:Nat):Int)=3 from rfl] at r3;rw [show ((4:Nat):Int)=4 from rfl] at r4;simp only [B6H];rw [r3,r4];have e5:O6 (b.drop a) (5:Int).toNat 4=O6 b ((a:Int)+5).toNat 4:=by
    rw [D0E]
    congr 1
  rw [e5];have e9:((b.drop a).take ((9:Int)+(O6 b a 3:Int)).toNat).drop (9:Int).toNat=(b.take ((a:Int)+9+(O6 b a 3:Int)).toNat).drop ((a:Int)+9).toNat:=by
    rw [show ((a:Int)+9+(O6 b a 3:Int)).toNat=a+(9+O6 b a 3) by omega,show ((a:Int)+9).toNat=a+9 by omega,show ((9:Int)+(O6 b a 3:Int)).toNat=9+O6 b a 3 by omega,show (9:Int).toNat=9 from rfl];rw [A2H,A2H,T3]
    congr 1
    omega
  rw [e9]
theorem C06(b:List Int):codeF b=0\/codeF b=1\/codeF b=2:=by
  unfold codeF;split
  · omega
  · split
    · omega
    · split<;>omega
theorem C7B{b:List Int}(h:codeF b=1)(k:Nat):codeF (b.take k)=1:=by
  unfold codeF at h ⊢;by_cases h9:(b.take k).length<9
  · rw [A7 h9]
  rw [A4 h9];rw [B5] at h9;rw [A4 (by omega)] at h;rw [B38 _ _ _ _ (by omega),B5];by_cases h1:O6 b 0 3>1000
  · rw [A7 h1] at h;cases h
  rw [A4 h1] at h ⊢;by_cases h2:b.length<9+O6 b 0 3
  · rw [A7 (by omega)]
  · rw [A4 h2] at h;cases h
theorem E1K{b:List Int}(h:codeF b=2):9<=b.length/\(∀ k,k<9->codeF (b.take k)=1)/\∀ k,9<=k->codeF (b.take k)=2:=by
  unfold codeF at h;by_cases h9:b.length<9
  · rw [A7 h9] at h;cases h
  rw [A4 h9] at h;by_cases h1:O6 b 0 3>1000
  · refine ⟨by omega,fun k hk=>?_,fun k hk=>?_⟩
    · unfold codeF
      rw [A7 (by rw [B5];omega)]
    · unfold codeF
      rw [A4 (by rw [B5];omega),B38 _ _ _ _ (by omega),A7 h1]
  · rw [A4 h1] at h
    split at h<;>cases h
theorem B8C{b:List Int}(h:codeF b=0):A2M b<=b.length/\9<=A2M b/\A2M b<=1009/\(∀ k,k<A2M b->codeF (b.take k)=1)/\codeF (b.take (A2M b))=0:=by
  unfold codeF at h;by_cases h9:b.length<9
  · rw [A7 h9] at h;cases h
  rw [A4 h9] at h;by_cases h1:O6 b 0 3>1000
  · rw [A7 h1] at h;cases h
  rw [A4 h1] at h;by_cases h2:b.length<9+O6 b 0 3
  · rw [A7 h2] at h;cases h
  unfold A2M;refine ⟨by omega,by omega,by omega,fun k hk=>?_,?_⟩
  · unfold codeF
    by_cases hk9:k<9
    · rw [A7 (by rw [B5];omega)]
    · rw [A4 (by rw [B5];omega),B38 _ _ _ _ (by omega),A4 h1,A7 (by rw [B5];omega)]
  · unfold codeF
    rw [A4 (by rw [B5];omega),B38 _ _ _ _ (by omega),A4 h1,A4 (by rw [B5];omega)]
theorem E1L{b:List Int}(h:codeF b=0):A0D (b.take (A2M b))=A0D b:=by
  obtain ⟨h1,h2,h3,_,h5⟩:=B8C h;have hn:A2M b=9+O6 b 0 3:=rfl;have hl:(b.take (A2M b)).length=A2M b:=by rw [B5];omega
  have hr:∀ (k:Nat),k<A2M b->rd (.int .u8) (b.take (A2M b)) (k:Int)=rd (.int .u8) b (k:Int):=fun k hk=>by
    simp only [rd,E5];simp [List.getD,K8,hk]
  have e3:O6 (b.take (A2M b)) 0 3=O6 b 0 3:=B38 _ _ _ _ (by omega);unfold A0D A3f;rw [A7 (show 0<=(0:Int)/\(0:Int)<=((b.take (A2M b)).length:Int)-9 by omega),A7 (show 0<=(0:Int)/\(0:Int)<=(b.length:Int)-9 by omega)];rw [show (0:Int).toNat=0 from rfl,e3];rw [A4 (show ¬ (O6 b 0 3:Int)>1000 by omega),A4 (show ¬ (O6 b 0 3:Int)>((b.take (A2M b)).length:Int)-0-9 by omega),A4 (show ¬ (O6 b 0 3:Int)>1000 by omega),A4 (show ¬ (O6 b 0 3:Int)>(b.length:Int)-0-9 by omega)];simp only [B6H];have r3:=hr 3 (by omega);have r4:=hr 4 (by omega);rw [show ((3:Nat):Int)=3 from rfl] at r3;rw [show ((4:Nat):Int)=4 from rfl] at r4;rw [r3,r4,B38 _ _ _ _ (show (5:Int).toNat+4<=A2M b by simp;omega)];rw [show ((9:Int)+(O6 b 0 3:Int)).toNat=A2M b by omega,T4,Nat.min_self]
theorem C5K{b:List Int}(hb:Byt b)(h:codeF b=0):FrI (A0D b):=by
  obtain ⟨h1,h2,h3,_,_⟩:=B8C h;have hn:A2M b=9+O6 b 0 3:=rfl;have r3:=B5F hb (show 3<b.length by omega);have r4:=B5F hb (show 4<b.length by omega);rw [show ((3:Nat):Int)=3 from rfl] at r3;rw [show ((4:Nat):Int)=4 from rfl] at r4;have hs:=C8a hb 5 4;have hm:Q4 .i64 (O6 b 5 4:Int) 2147483647=((O6 b 5 4 % 2 ^ 31:Nat):Int):=by
    rw [show (2147483647:Int)=((2147483647:Nat):Int) from rfl,C4A (by simp at hs;omega) (by omega),show (2147483647:Nat)=2 ^ 31-1 from rfl,A20]
  have hlt:O6 b 5 4 % 2 ^ 31<2 ^ 31:=A4l _ (by decide);have e:A0D b=(rd (.int .u8) b 3,rd (.int .u8) b 4,Q4 .i64 (O6 b 5 4:Int) 2147483647,(b.take ((9:Int)+(O6 b 0 3:Int)).toNat).drop (9:Int).toNat):=by
    unfold A0D A3f;rw [A7 (show 0<=(0:Int)/\(0:Int)<=(b.length:Int)-9 by omega),show (0:Int).toNat=0 from rfl,A4 (show ¬ (O6 b 0 3:Int)>1000 by omega),A4 (show ¬ (O6 b 0 3:Int)>(b.length:Int)-0-9 by omega)];simp only [B6H];rfl
  rw [e];refine ⟨?_,?_,?_,?_,?_⟩
  · simp only [r3.1];omega
  · simp only [r4.1];omega
  · simp only [hm];omega
  · simp only [D4,B5];omega
  · exact B73 (C01 hb _) _
set_option maxRecDepth 100000
abbrev priS:X0:=⟨#[80,82,73,32,42,32,72,84,84,80,47,50,46,48,13,10,13,10,83,77,13,10,13,10]⟩
def goB(last code:Int):List Int:=R1 (7,0,0,big (A6s last) 4++big (A6s code) 4)
theorem E5b(last code:Int):(goB last code).length=17:=by
  simp only [goB,R1,A6,A34,F0,I3]
structure BS where
  pre:Nat
  inn:List Int
  dead:Int
  m:HM
def B77(pre:Nat)(m:HM)(code:Int):BS:=⟨pre,[],code,{m with g:=(0,false,[]),strs:= [],out:=m.out++goB m.last code}⟩
noncomputable def A4G(st:BS)(x:Int):BS:=
  if st.dead≠0 then st
  else if st.pre<24 then (if x=bt priS (st.pre:Int) then ⟨st.pre+1,st.inn,0,st.m⟩ else B77 st.pre st.m 1)
  else if codeF (st.inn ++ [x])=1 then ⟨st.pre,st.inn ++ [x],0,st.m⟩
  else if codeF (st.inn ++ [x])=2 then B77 st.pre st.m 6
  else if (frM st.m (A0D (st.inn ++ [x]))).1=0 then ⟨st.pre,[],0,(frM st.m (A0D (st.inn ++ [x]))).2⟩
  else B77 st.pre (frM st.m (A0D (st.inn ++ [x]))).2 (frM st.m (A0D (st.inn ++ [x]))).1
noncomputable def Q6(st:BS)(b:List Int):BS:=b.foldl A4G st
theorem A7K(st:BS)(h:st.dead≠0):∀ b,Q6 st b=st
  | []=>rfl
  | x::b=>by
    have e:A4G st x=st:=by unfold A4G;rw [A7 h]
    show Q6 (A4G st x) b=st;rw [e];exact A7K st h b
theorem D4k(st:BS)(a b:List Int):Q6 st (a++b)=Q6 (Q6 st a) b:=by
  unfold Q6;rw [List.foldl_append]
structure BI (st:BS):Prop where
  pre:st.pre<=24
  hi:HI st.m
  inb:Byt st.inn
  more:codeF st.inn=1
  emp:st.pre<24\/st.dead≠0->st.inn = []
  gone:st.dead≠0->st.m.strs = []/\st.m.g.1=0
  dead:0<=st.dead/\st.dead<=20
theorem D9B{pre:Nat}(hp:pre<=24){m:HM}(h1:0<=m.last/\m.last<=2147483647)(h2:A07 m.dec){code:Int}(hc:0<=code/\code<=20):BI (B77 pre m code):=
  ⟨hp,⟨D7l _,h1,h2,.inl ⟨rfl,rfl,rfl⟩,fun x hx=>by cases hx⟩,(fun x hx=>by cases hx),rfl,fun _=>rfl,fun _=>⟨rfl,rfl⟩,hc⟩
theorem D4l{b:List Int}(hb:Byt b){x:Int}(hx:0<=x/\x<256):Byt (b ++ [x]):=A1D hb fun y hy=>by rcases B0.1 hy with rfl;exact hx
theorem D4m{st:BS}(h:BI st){x:Int}(hx:0<=x/\x<256):BI (A4G st x)/\(A4G st x).m.calls.length<=st.m.calls.length+1/\(A4G st x).m.out.length<=st.m.out.length+1200:=by
  unfold A4G;by_cases hd:st.dead≠0
  · rw [A7 hd];exact ⟨h,by omega,by omega⟩
  rw [A4 hd];have hb:=D4l h.inb hx;have hg:=E5b;by_cases hp:st.pre<24
  · rw [A7 hp]
    by_cases hq:x=bt priS (st.pre:Int)
    · rw [A7 hq]
      refine ⟨⟨by simp only;omega,h.hi,h.inb,h.more,fun _=>h.emp (.inl hp),fun e=>absurd rfl e,by simp⟩,by simp only;omega,by simp only;omega⟩
    · rw [A4 hq]
      exact ⟨D9B h.pre h.hi.last h.hi.dec (by omega),by simp only [B77];omega,by simp only [B77,A6,hg];omega⟩
  rw [A4 hp];by_cases c1:codeF (st.inn ++ [x])=1
  · rw [A7 c1]
    exact ⟨⟨h.pre,h.hi,hb,c1,(fun e=>by rcases e with e | e;exact absurd e hp;exact absurd rfl e),(fun e=>absurd rfl e),by simp⟩,by simp only;omega,by simp only;omega⟩
  rw [A4 c1];by_cases c2:codeF (st.inn ++ [x])=2
  · rw [A7 c2]
    exact ⟨D9B h.pre h.hi.last h.hi.dec (by omega),by simp only [B77];omega,by simp only [B77,A6,hg];omega⟩
  rw [A4 c2];have c0:codeF (st.inn ++ [x])=0:=by have:=C06 (st.inn ++ [x]);omega
  have ho:=F03 h.hi (C5K hb c0);have h1:=ho.calls;have h2:=ho.out;by_cases hr:(frM st.m (A0D (st.inn ++ [x]))).1=0
  · rw [A7 hr]
    exact ⟨⟨h.pre,ho.hi hr,(fun x hx=>by cases hx),rfl,fun _=>rfl,(fun e=>absurd rfl e),by simp⟩,by simp only;omega,by simp only;omega⟩
  · rw [A4 hr]
    exact ⟨D9B h.pre ho.last ho.dec ho.code,by simp only [B77];omega,by simp only [B77,A6,hg];omega⟩
theorem B6S:∀ {b:List Int} {st:BS},BI st->Byt b->BI (Q6 st b)/\(Q6 st b).m.calls.length<=st.m.calls.length+b.length/\(Q6 st b).m.out.length<=st.m.out.length+1200*b.length
  | [],st,h,_=>⟨h,by simp [Q6],by simp [Q6]⟩
  | x::b,st,h,hb=>by
    obtain ⟨h1,h2,h3⟩:=D4m h (hb x B1);obtain ⟨h4,h5,h6⟩:=B6S (b:=b) h1 fun y hy=>hb y (C0 _ hy)
    have e:Q6 st (x::b)=Q6 (A4G st x) b:=rfl;rw [e];exact ⟨h4,by simp only [F0];omega,by simp only [F0];omega⟩
theorem C4H(st:BS)(hd:st.dead=0)(hp:¬ st.pre<24):∀ (k:Nat) (xs:List Int),xs.length=k->(∀ j,j<=k->codeF (st.inn++xs.take j)=1)->Q6 st xs=⟨st.pre,st.inn++xs,0,st.m⟩:=by
  intro k
  induction k generalizing st with
  | zero=>
    intro xs hx _;have:xs = []:=O5.1 hx;subst this;show st=_;rw [G3];cases st;simp only at hd;subst hd;rfl
  | succ k ih=>
    intro xs hx hc;cases xs with
    | nil=>cases hx
    | cons x xs=>
      have h1:=hc 1 (by omega);simp only [List.take_succ_cons,List.take_zero] at h1;have e:A4G st x=⟨st.pre,st.inn ++ [x],0,st.m⟩:=by
        unfold A4G;rw [A4 (by omega),A4 hp,A7 h1]
      show Q6 (A4G st x) xs=_;rw [e,ih ⟨st.pre,st.inn ++ [x],0,st.m⟩ rfl hp xs (by simpa using hx) fun j hj=>by
        have:=hc (j+1) (by omega);simpa using this]
      simp
noncomputable def D4n:Nat->HM->List Int->Int×HM×List Int
  | 0,m,b=>(0,m,b)
  | k+1,m,b=>if codeF b=1 then (0,m,b) else if codeF b=2 then (6,m,b) else
    if (frM m (A0D b)).1≠0 then ((frM m (A0D b)).1,(frM m (A0D b)).2,b) else D4n k (frM m (A0D b)).2 (b.drop (A2M b))
def D7n(pre:Nat)(r:Int×HM×List Int):BS:=if r.1=0 then ⟨pre,r.2.2,0,r.2.1⟩ else B77 pre r.2.1 r.1
theorem E1M(pre:Nat)(hp:¬ pre<24):∀ (k:Nat) (xs inn:List Int) (m:HM),inn.length+xs.length<=k->codeF inn=1->Q6 ⟨pre,inn,0,m⟩ xs=D7n pre (D4n (k+1) m (inn++xs)):=by
  intro k
  induction k with
  | zero=>
    intro xs inn m hk hi;have h1:xs = []:=O5.1 (by omega);subst h1;simp only [D4n,G3,A7 hi,D7n,L4];rfl
  | succ k ih=>
    intro xs inn m hk hi;rw [D4n];have hpre:∀ j,j<=inn.length+xs.length->inn.length<=j->(inn++xs).take j=inn++xs.take (j-inn.length):=fun j h1 h2=>by
      rw [C0Q,F9 h2]
    rcases C06 (inn++xs) with c | c | c
    · obtain ⟨w1,w2,w3,w4,w5⟩:=B8C c
      have hlt:inn.length<A2M (inn++xs):=by
        rcases C2p inn.length (A2M (inn++xs)) with h | h
        · exact h
        · exfalso
          have h7:=C7B hi (A2M (inn++xs));have:(inn++xs).take (A2M (inn++xs))=inn.take (A2M (inn++xs)):=by rw [G6 h]
          rw [this,h7] at w5;cases w5
      rw [A6] at w1;obtain ⟨n,hn⟩:∃ n,A2M (inn++xs)=inn.length+(n+1):=⟨A2M (inn++xs)-inn.length-1,by omega⟩;have hlen:n<xs.length:=by omega
      have hsplit:xs=xs.take n++(xs[n]::xs.drop (n+1)):=by
        rw [<- J4 hlen,M0]
      have hw:Q6 ⟨pre,inn,0,m⟩ (xs.take n)=⟨pre,inn++xs.take n,0,m⟩:=by
        refine C4H ⟨pre,inn,0,m⟩ rfl hp n (xs.take n) (by rw [B5];omega) fun j hj=>?_
        have:=w4 (inn.length+j) (by omega);rw [hpre _ (by omega) (by omega)] at this;rw [T4,A0h hj];simpa using this
      have hB:inn++xs.take n ++ [xs[n]]=(inn++xs).take (A2M (inn++xs)):=by
        rw [hpre _ (by omega) (by omega),hn,show inn.length+(n+1)-inn.length=n+1 by omega,B3,H6 hlen]
      have hD:(inn++xs).drop (A2M (inn++xs))=xs.drop (n+1):=by
        rw [hn,A8q,S7 (by omega),F6]
        congr 1
        omega
      rw [A4 (by omega),A4 (by omega)];have e1:Q6 ⟨pre,inn,0,m⟩ xs=Q6 (A4G ⟨pre,inn++xs.take n,0,m⟩ xs[n]) (xs.drop (n+1)):=by
        conv=>lhs;rw [hsplit]
        rw [D4k,hw];rfl
      rw [e1];have e2:A4G ⟨pre,inn++xs.take n,0,m⟩ xs[n]=if (frM m (A0D (inn++xs))).1=0 then ⟨pre,[],0,(frM m (A0D (inn++xs))).2⟩ else B77 pre (frM m (A0D (inn++xs))).2 (frM m (A0D (inn++xs))).1:=by
        unfold A4G;simp only [hB,w5,E1L c];rw [A4 (by omega),A4 hp,A4 (by omega),A4 (by omega)]
      rw [e2];by_cases hr:(frM m (A0D (inn++xs))).1=0
      · rw [A7 hr,A4 (by simpa using hr),hD]
        exact ih (xs.drop (n+1)) [] _ (by simp;omega) rfl
      · rw [A4 hr,A7 hr,A7K _ (by simpa [B77] using hr)]
        simp only [D7n,A4 hr]
    · rw [A7 c]
      simp only [D7n,L4];refine C4H ⟨pre,inn,0,m⟩ rfl hp xs.length xs rfl fun j hj=>?_
      have:=C7B c (inn.length+j);rw [hpre _ (by omega) (by omega)] at this;simpa using this
    · obtain ⟨w1,w2,w3⟩:=E1K c
      have hlt:inn.length<9:=by
        rcases C2p inn.length 9 with h | h
        · exact h
        · exfalso
          have h7:=C7B hi 9;have h8:=w3 9 (by omega);have:(inn++xs).take 9=inn.take 9:=by rw [G6 h]
          rw [this,h7] at h8;cases h8
      rw [A6] at w1;obtain ⟨n,hn⟩:∃ n,9=inn.length+(n+1):=⟨8-inn.length,by omega⟩;have hlen:n<xs.length:=by omega
      have hsplit:xs=xs.take n++(xs[n]::xs.drop (n+1)):=by
        rw [<- J4 hlen,M0]
      have hw:Q6 ⟨pre,inn,0,m⟩ (xs.take n)=⟨pre,inn++xs.take n,0,m⟩:=by
        refine C4H ⟨pre,inn,0,m⟩ rfl hp n (xs.take n) (by rw [B5];omega) fun j hj=>?_
        have:=w2 (inn.length+j) (by omega);rw [hpre _ (by omega) (by omega)] at this;rw [T4,A0h hj];simpa using this
      have hB:codeF (inn++xs.take n ++ [xs[n]])=2:=by
        have:=w3 9 (by omega);rw [hpre _ (by omega) (by omega),show 9-inn.length=n+1 by omega,H6 hlen,<- B3] at this;exact this
      rw [A4 (by omega),A7 c];have e1:Q6 ⟨pre,inn,0,m⟩ xs=Q6 (A4G ⟨pre,inn++xs.take n,0,m⟩ xs[n]) (xs.drop (n+1)):=by
        conv=>lhs;rw [hsplit]
        rw [D4k,hw];rfl
      have e2:A4G ⟨pre,inn++xs.take n,0,m⟩ xs[n]=B77 pre m 6:=by
        unfold A4G;rw [A4 (by simp),A4 hp,A4 (by simp only [hB];omega),A7 hB]
      rw [e1,e2,A7K _ (by simp [B77])];rfl
set_option maxRecDepth 100000
theorem E1N{c:M7}(h:C05 c.2.2.2.2.2.1 c.2.2.2.2.2.2.1):C2v c=true:=by
  obtain ⟨h1,h2,h3⟩:=h;have hall:∀ i,i<c.2.2.2.2.2.1.length->B1V c i=true:=fun i hi=>by
    have e:=A4u hi;have hs:=h3 _ (F2 hi);rw [<- e] at hs;unfold D97 at hs;have e0:rd H2 c.2.2.2.2.2.1 (i:Int)=sAt c.2.2.2.2.2.1 i:=rfl;unfold B1V;rw [e0,A0 hs.1,A0 (show 1<=(sAt c.2.2.2.2.2.1 i).1/\(sAt c.2.2.2.2.2.1 i).1<=c.2.2.2.2.2.2.1 from ⟨hs.2.1,hs.2.2.1⟩),A1 (show ¬ (List.length (sAt c.2.2.2.2.2.1 i).2.2.2:Int)>2000 by omega)];have hst:(decide ((sAt c.2.2.2.2.2.1 i).2.1=1)||decide ((sAt c.2.2.2.2.2.1 i).2.1=2))=true:=by
      rcases hs.2.2.2.1 with q | q<;>rw [q]<;>rfl
    rw [hst];have hup:(decide (i=0)||!decide ((sAt c.2.2.2.2.2.1 i).1<=(rd H2 c.2.2.2.2.2.1 ((i:Int)-1)).1))=true:=by
      by_cases h0:i=0
      · rw [A0 h0];rfl
      · have e1:rd H2 c.2.2.2.2.2.1 ((i:Int)-1)=sAt c.2.2.2.2.2.1 (i-1):=by
          unfold sAt;rw [show (i:Int)-1=((i-1:Nat):Int) by omega]
        have hp:=B7e.1 h2 (i-1) i (by simp;omega) (by simpa using hi) (by omega);simp only [C0V] at hp;rw [e1,e,A4u (show i-1<c.2.2.2.2.2.1.length by omega),A1 (Int.not_le.2 hp),J3,Bool.or_true]
    rw [hup];rfl
  have hn:A0K (B1V c) 0 c.2.2.2.2.2.1.length=c.2.2.2.2.2.1.length:=D1b _ _ _ (B6 _) hall (fun h=>absurd h (A27 _));unfold C2v;rw [A0 hn,A0 (show (c.2.2.2.2.2.1.length:Int)<=100 by omega)];rfl
abbrev bsC(enc:D3)(st:BS):M7:=mkC (st.pre:Int) st.inn enc st.dead st.m
abbrev bsH(enc:D3)(st:BS):E8:=mkH (st.pre:Int) st.inn enc st.dead st.m
theorem C07{b:List Int}(h:codeF b=1):b.length<=1009:=by
  unfold codeF at h;split at h
  · omega
  · split at h
    · cases h
    · split at h
      · omega
      · cases h
theorem B9B{enc:D3}(he:A07 enc){st:BS}(h:BI st):A4S (bsC enc st)=some (true,()):=by
  have hpre:=h.pre;have hd:=h.dead;have hl:=h.hi.last;have hn:=C07 h.more;have hsl:=h.hi.strs.1;have e5:=D7U (bsC enc st) (by simp only [maxLen];omega);rw [E1N (c:=bsC enc st) h.hi.strs] at e5;have e6:=B1W st.inn h.inb (by omega) 0 (by omega);have e7:=(B0e (b:=st.inn) (a:=0) (by omega)).1;rw [P6,h.more,show ((0:Nat):Int)=0 from rfl] at e7;simp only [A4S,C13,S3,C31 h.hi.g,E17 h.hi.dec,E17 he,bO];rw [e5];rw [A0 (show (0:Int)<=(st.pre:Int)/\(st.pre:Int)<=24 by omega),A0 hl,A0 hd,A1 (show ¬ (st.inn.length:Int)>1100 by omega),e6];simp only [C3,A3,bO,bSl,e7];by_cases h1:st.pre<24
  · have hi:st.inn.length=0:=by rw [h.emp (.inl h1)];rfl
    rw [A0 (show (st.pre:Int)<24 by omega),A1 (show ¬ (st.inn.length:Int)>0 by omega)];simp only [A8,A3];by_cases h2:st.dead>0
    · obtain ⟨g1,g2⟩:=h.gone (by omega)
      have g3:st.m.strs.length=0:=by rw [g1];rfl
      rw [A0 h2,A1 (show ¬ (st.m.strs.length:Int)>0 by omega),A0 g2];rfl
    · rw [A1 h2];rfl
  · rw [A1 (show ¬ (st.pre:Int)<24 by omega)]
    by_cases h2:st.dead>0
    · have hi:st.inn.length=0:=by rw [h.emp (.inr (by omega))];rfl
      obtain ⟨g1,g2⟩:=h.gone (by omega);have g3:st.m.strs.length=0:=by rw [g1];rfl
      rw [A0 h2,A1 (show ¬ (st.inn.length:Int)>0 by omega),A1 (show ¬ (st.m.strs.length:Int)>0 by omega),A0 g2];rfl
    · rw [A1 h2];rfl
theorem D9C(F T:List Int)(h1:F.length<=10000000000)(h2:T.length<=10000000000):A1l [F,T]=some (F++T,()):=by
  have r0:rd (.sl 5 (.int .u8)) ([F,T]:List (List Int)) 0=F:=rfl;have r1:rd (.sl 5 (.int .u8)) ([F,T]:List (List Int)) 1=T:=rfl;have hl:(([F,T]:List (List Int)).length:Int)=2:=rfl;have d0:decide ((0:Int)<2)=true:=rfl;have d1:decide ((0:Int)<=0)=true:=rfl;have d2:decide ((1:Int)<2)=true:=rfl;have d3:decide ((0:Int)<=1)=true:=rfl;have a1:G1 (A13 [F,T]) (0,0,())=some ((F.length:Int)+T.length,()):=by
    rw [A5G (y:=((F.length:Int),1,())) (by
      simp only [A13,hl,r0,d0,d1,A8,B6H];rw [w64 (n:=(F.length:Int)) (by omega) (by omega),A1 (p:=(F.length:Int)<0) (by omega)];rfl)]
    rw [A5G (y:=((F.length:Int)+T.length,2,())) (by
      simp only [A13,hl,r1,d2,d3,A8];rw [w64 (n:=(F.length:Int)+T.length) (by omega) (by omega),A1 (p:=(F.length:Int)+T.length<0) (by omega)];rfl)]
    rw [H5];rfl
  have a2:C3K ([]:List Int) ((F.length:Int)+T.length)=some ([],()):=by
    have:(([]:List Int).isEmpty&&decide (0<=(F.length:Int)+T.length)&&decide ((F.length:Int)+T.length<=1000000000000))=true:=by
      rw [A0 (by omega),A0 (by omega)];rfl
    simp only [C3K,this,A8]
  have a3:G1 (A14 [F,T]) (0,[],())=some (F++T,()):=by
    rw [A5G (y:=(1,F,())) (by
      simp only [A14,hl,r0,d0,d1,A8];rw [gA (by simp;omega)];rfl)]
    rw [A5G (y:=(2,F++T,())) (by
      simp only [A14,hl,r1,d2,d3,A8];rw [gA (by omega)];rfl)]
    rw [H5];rfl
  simp only [A1l,A3t,a1,A5];rw [show A55=C3K from rfl,a2];exact a3
def P2:List Int->Nat->Int×Nat×List Int
  | [],p=>(0,p,[])
  | x::xs,p=>if p<24 then (if x=bt priS (p:Int) then P2 xs (p+1) else (1,p,[])) else (0,p,x::xs)
theorem D7o:∀ (xs:List Int) (p:Nat),p<=24->(P2 xs p).2.1<=24/\(P2 xs p).2.2.length<=xs.length/\((P2 xs p).1=0\/(P2 xs p).1=1)/\(∀ x∈(P2 xs p).2.2,x∈xs)/\((P2 xs p).2.1<24->(P2 xs p).2.2 = [])
  | [],p,h=>⟨h,by simp [P2],.inl rfl,fun x hx=>by simp [P2] at hx,fun _=>rfl⟩
  | x::xs,p,h=>by
    unfold P2;by_cases hp:p<24
    · rw [A7 hp]
      by_cases hx:x=bt priS (p:Int)
      · rw [A7 hx]
        obtain ⟨a,b,c,d,e⟩:=D7o xs (p+1) (by omega);exact ⟨a,by simp only [F0];omega,c,fun y hy=>C0 _ (d y hy),e⟩
      · rw [A4 hx]
        exact ⟨h,by simp,.inr rfl,(fun y hy=>by cases hy),fun _=>rfl⟩
    · rw [A4 hp]
      exact ⟨h,B6 _,.inl rfl,fun y hy=>hy,fun q=>absurd q hp⟩
theorem C8s(inn:List Int)(m:HM):∀ (xs:List Int) (p:Nat),p<=24->Q6 ⟨p,inn,0,m⟩ xs=if (P2 xs p).1=0 then Q6 ⟨(P2 xs p).2.1,inn,0,m⟩ (P2 xs p).2.2 else B77 (P2 xs p).2.1 m 1
  | [],p,_=>by simp [P2]
  | x::xs,p,h=>by
    have e:Q6 ⟨p,inn,0,m⟩ (x::xs)=Q6 (A4G ⟨p,inn,0,m⟩ x) xs:=rfl;unfold P2;by_cases hp:p<24
    · rw [A7 hp,e]
      by_cases hx:x=bt priS (p:Int)
      · have e2:A4G ⟨p,inn,0,m⟩ x=⟨p+1,inn,0,m⟩:=by
          unfold A4G;rw [A4 (by simp),A7 hp,A7 hx]
        rw [A7 hx,e2];exact C8s inn m xs (p+1) (by omega)
      · have e2:A4G ⟨p,inn,0,m⟩ x=B77 p m 1:=by
          unfold A4G;rw [A4 (by simp),A7 hp,A4 hx]
        rw [A4 hx,e2,A7K _ (by simp [B77])];rfl
    · rw [A4 hp]
      rfl
section
variable (enc:D3)
theorem D4o(inn:List Int)(dead:Int)(m:HM):∀ (xs:List Int) (p:Nat),p<=24->Byt xs->xs.length<=1000000000->S1 (mkH (p:Int) inn enc dead m) xs=some ((P2 xs p).2.2,(P2 xs p).1,mkH ((P2 xs p).2.1:Int) inn enc dead m,())
  | [],p,h,_,_=>by
    simp only [S1,A0B];rw [H5];simp only [A0S,I3,show decide (((0:Nat):Int)>0)=false from rfl,A3,bSr];rfl
  | x::xs,p,h,hb,hl=>by
    have d1:decide ((((x::xs).length:Nat):Int)>0)=true:=A0 (by simp only [F0];omega);have d2:decide ((0:Int)<(((x::xs).length:Nat):Int))=true:=A0 (by simp only [F0];omega);have d3:decide ((1:Int)<=(((x::xs).length:Nat):Int))=true:=A0 (by simp only [F0];omega);have e0:rd (.int .u8) (x::xs) 0=x:=rfl;have ht:((x::xs).take (x::xs).length).drop 1=xs:=by rw [A11];rfl
    unfold P2;by_cases hp:p<24
    · have d4:decide ((p:Int)<24)=true:=A0 (by omega)
      have d5:decide ((0:Int)<=(p:Int))=true:=A0 (by omega);have d6:decide ((p:Int)<(priS.size:Int))=true:=A0 (by rw [show priS.size=24 from rfl];omega);rw [A7 hp];by_cases hx:x=bt priS (p:Int)
      · have w1:i64.wrap ((p:Int)+1)=((p+1:Nat):Int):=by rw [w64 (by omega) (by omega)];omega
        rw [A7 hx,<- D4o inn dead m xs (p+1) (by omega) (fun y hy=>hb y (C0 _ hy)) (by simp only [F0] at hl;omega)];simp only [S1,A0B]
        conv=>lhs;rw [H5]
        simp only [A0S,d1,d2,d3,d4,d5,d6,A8,bSl,e0,A0 hx,C3,A3,ht,w1]
      · rw [A4 hx]
        simp only [S1,A0B];rw [H5];simp only [A0S,d1,d2,d3,d4,d5,d6,A8,bSl,e0,A1 hx,J3,bSr]
    · have d4:decide ((p:Int)<24)=false:=A1 (by omega)
      rw [A4 hp];simp only [S1,A0B];rw [H5];simp only [A0S,d1,d4,A8,A3,bSr];rfl
abbrev frL(a:Int)(pre:Int)(inn:List Int)(dead:Int)(m:HM):Int×Int×Int×Bool×Int×Int×Int×Int×List Int×List Int×List B2×List B2×List A16×List A0j×List Int×Unit:=
  (a,pre,m.g.1,m.g.2.1,m.dec.1,enc.1,m.last,dead,inn,m.g.2.2,m.dec.2,enc.2,m.strs,m.calls,m.out,())
theorem C6B(pre:Int)(inn:List Int)(dead:Int)(b:List Int)(hb:Byt b)(hl:b.length<=1000000000):∀ (k a:Nat) (m:HM),a<=b.length->b.length<a+k->HI m->m.calls.length<=a->m.out.length<=1100*a->
    G1 (A8w A2r A3P H4 b) (frL enc (a:Int) pre inn dead m) =
      some ((D4n k m (b.drop a)).1,mkH pre (if (D4n k m (b.drop a)).1=0 then (D4n k m (b.drop a)).2.2 else inn) enc dead (D4n k m (b.drop a)).2.1,())
  | 0,a,m,ha,hk,_,_,_=>by omega
  | k+1,a,m,ha,hk,hi,hc,ho=>by
    have e1:=B1W b hb (by omega) (a:Int) (by omega);obtain ⟨g1,g2⟩:=B0e ha;rw [H5];simp only [A8w,e1,bO,g1];unfold D4n;rcases C06 (b.drop a) with c | c | c
    · obtain ⟨f1,f2,f3⟩:=g2 c
      have w:=B8C c;have hfi:=C5K (B73 hb a) c;have hfo:=F03 hi hfi;have e2:=E3K pre inn enc dead m hi ⟨by omega,by omega⟩ (A0D (b.drop a)) hfi;have e2':A3P ((pre,inn,(m.g.1,m.g.2.1,m.g.2.2),(m.dec.1,m.dec.2),(enc.1,enc.2),m.strs,m.last,dead),m.calls,m.out) (A0D (b.drop a))=some ((frM m (A0D (b.drop a))).1,mkH pre inn enc dead (frM m (A0D (b.drop a))).2,()):=e2;rw [c];simp only [show decide (((0:Nat):Int)=1)=false from rfl,show decide (((0:Nat):Int)=2)=false from rfl,A3,f1,f2,e2',bO];rw [A4 (show ¬ (0:Nat)=1 by omega),A4 (show ¬ (0:Nat)=2 by omega)];by_cases hr:(frM m (A0D (b.drop a))).1=0
      · rw [A0 hr,A4 (show ¬ (frM m (A0D (b.drop a))).1≠0 by simpa using hr)]
        have ih:=C6B pre inn dead b hb hl k (a+A2M (b.drop a)) (frM m (A0D (b.drop a))).2 f3 (by omega) (hfo.hi hr) (by have:=hfo.calls;omega) (by have:=hfo.out;omega);rw [T3];simp only [C3,A3];exact ih
      · rw [A1 hr,A7 (show (frM m (A0D (b.drop a))).1≠0 from hr)]
        simp only [J3,A8];rw [A4 hr]
    · rw [c]
      simp only [show decide (((1:Nat):Int)=1)=true from rfl,A8,L4];rw [A0 (show (0:Int)<=(a:Int) by omega),A0 (show (a:Int)<=(b.length:Int) by omega),A11,E5,B36 _ (by simp;omega)];rfl
    · rw [c]
      simp only [show decide (((2:Nat):Int)=1)=false from rfl,show decide (((2:Nat):Int)=2)=true from rfl,A8,A3];rw [A4 (show ¬ (2:Nat)=1 by omega),A7 trivial];rfl
theorem E1O(pre:Nat)(inn:List Int)(m:HM)(code:Int)(ho:m.out.length<=100000000000000):B1A (mkH (pre:Int) inn enc 0 m) code=some (bsH enc (B77 pre m code),()):=by
  have e1:=B8A [] m.last 4 (by omega) (by simp);have e2:=B8A ([]++big (A6s m.last) 4) code 4 (by omega) (by simp [A34]);rw [show ((4:Nat):Int)=4 from rfl] at e1 e2;have hg:=E5b m.last code;simp only [B1A,B6m,B8q,B8p,e1,bO,e2];rw [C64 _ _ (by simp [A34];omega)];rfl
theorem C4I(he:A07 enc){st:BS}(h:BI st)(hc:st.m.calls = [])(ho:st.m.out = []){b:List Int}(hb:Byt b)(hl:b.length<=900000000) :
    A4U (bsC enc st) b=some (bsC enc (Q6 st b),(Q6 st b).m.calls,(Q6 st b).m.out,()):=by
  have hsl:=h.hi.strs.1;have hdl:=A6t h.hi.dec;have hel:=A6t he;have hgl:=h.hi.g;have hil:=C07 h.more;have hcp:=D1f (bsC enc st) ⟨by simp only;omega,(by rcases hgl with ⟨_,_,q⟩ | ⟨_,_,q⟩;(simp only [q];simp);(simp only;omega)),by simp only;omega,by simp only;omega,by simp only;omega,fun x hx=>by have:=(h.hi.strs.2.2 x hx).2.2.2.2;omega⟩;obtain ⟨pre,inn,dead,m⟩:=st;simp only at hc ho hcp;simp only [A4U,B3r,hcp,bO];have hd:=h.dead;by_cases h0:dead=0
  · subst h0
    have hck:=B9B he h;simp only [bsC] at hck;simp only [show decide ((0:Int)>0)=false from rfl,A3,hck,bO,C3,bSl];have es:=D4o enc inn 0 m b pre h.pre hb (by omega);simp only [mkH,hc,ho] at es;rw [es];simp only [bO];obtain ⟨s1,s2,s3,s4,s5⟩:=D7o b pre h.pre;rw [C8s inn m b pre h.pre];rcases s3 with s3 | s3
    · rw [s3,D9C inn _ (by simp only at hil;omega) (by omega)]
      simp only [R8,A8,bO,L4,B18,B17];have hB:Byt (inn++(P2 b pre).2.2):=A1D h.inb fun y hy=>hb y (s4 y hy)
      have hBl:(inn++(P2 b pre).2.2).length<=1000000000:=by rw [A6];simp only at hil;omega
      have el:=C6B enc ((P2 b pre).2.1:Int) inn 0 (inn++(P2 b pre).2.2) hB hBl ((inn++(P2 b pre).2.2).length+1) 0 m (by omega) (by omega) h.hi (by rw [hc];simp) (by rw [ho];simp);simp only [frL,hc,ho] at el;rw [show ((0:Nat):Int)=0 from rfl,P6] at el;rw [el];simp only [bO];have key:Q6 ⟨(P2 b pre).2.1,inn,0,m⟩ (P2 b pre).2.2=D7n (P2 b pre).2.1 (D4n ((inn++(P2 b pre).2.2).length+1) m (inn++(P2 b pre).2.2)):=by
        by_cases hp:(P2 b pre).2.1<24
        · have hr:=s5 hp
          rw [hr];have hi0:inn = []:=by
            refine h.emp (.inl ?_);have:pre<=(P2 b pre).2.1:=by
              have:∀ (xs:List Int) (p:Nat),p<=(P2 xs p).2.1:=by
                intro xs
                induction xs with
                | nil=>intro p;exact B6 _
                | cons x xs ih=>
                  intro p;unfold P2;split
                  · split
                    · have:=ih (p+1);omega
                    · exact B6 _
                  · exact B6 _
              exact this b pre
            simp only;omega
          subst hi0;rfl
        · exact E1M _ hp _ (P2 b pre).2.2 inn m (by rw [A6];omega) h.more
      rw [key];have hbi:=(B6S (st:=⟨(P2 b pre).2.1,inn,0,m⟩) (b:=(P2 b pre).2.2) ⟨s1,h.hi,h.inb,h.more,(fun q=>h.emp (by
        rcases q with q | q
        · left
          have:∀ (xs:List Int) (p:Nat),p<=(P2 xs p).2.1:=by
            intro xs
            induction xs with
            | nil=>intro p;exact B6 _
            | cons x xs ih=>
              intro p;unfold P2;split
              · split
                · have:=ih (p+1);omega
                · exact B6 _
              · exact B6 _
          have:=this b pre;simp only at q ⊢;omega
        · exact absurd rfl q)),(fun q=>absurd rfl q),by simp⟩ fun y hy=>hb y (s4 y hy)).2.2
      rw [key] at hbi;unfold D7n at hbi ⊢;generalize D4n ((inn++(P2 b pre).2.2).length+1) m (inn++(P2 b pre).2.2)=R at hbi ⊢;by_cases hR:R.1=0
      · rw [A7 hR,A7 hR,A0 hR]
        rfl
      · rw [A4 hR,A4 hR,A1 hR]
        rw [A4 hR] at hbi;have ee:=E1O enc (P2 b pre).2.1 inn R.2.1 R.1 (by
          simp only [B77,A6,ho,I3] at hbi;omega)
        simp only [mkH,mkC] at ee;simp only [J3,A8,mkH,mkC,ee,bO]
    · rw [s3]
      simp only [show decide ((1:Int)=0)=false from rfl,A3,bO,J3,A8];have ee:=E1O enc (P2 b pre).2.1 inn m 1 (by rw [ho];simp);simp only [mkH,mkC,hc,ho] at ee;rw [ee];rfl
  · have hp:dead>0:=by simp only at hd;omega
    rw [A0 hp];simp only [A8,bSr];rw [A7K _ h0];simp only [hc,ho]
end
set_option maxRecDepth 100000
theorem B78(a:List Int)(h:a.length<=maxLen):A4W a a=some (true,()):=by
  simp only [A4W,B8r,R8,C3,A3];have e:=F2A (A9e a a) a.length h (fun _=>true) (fun i hi=>by
    have g1:((i:Int)<(a.length:Int)):=by omega
    have g2:(0:Int)<=(i:Int):=by omega
    simp only [A9e,A0 g1,A0 g2,A8,R8,C3,A3]) (by simp [A9e])
  rw [e];simp
theorem B6T(c:I4)(n:Int)(h:Cur c)(hn:0<n/\n<9223372036854775808):∃ b c',B03 c n=some (b,c',())/\Cur c':=by
  obtain ⟨r,c',e,hc,_⟩:=A0m c n h hn;simp only [B03,C75,e,A5];exact ⟨_,_,rfl,hc⟩
theorem E3L(c:I4)(hc:Cur c):∃ r c',B70 c=some (r,c',())/\Cur c'/\-1<=r.2.2/\r.2.2<=4294967295/\r.2.1.size<=64:=by
  obtain ⟨k,c1,q1,h1,k0,k1⟩:=A0m c 6 hc (by omega);obtain ⟨s,c2,q2,h2,hs⟩:=D4C c1 [(⟨#[97]⟩:X0),(⟨#[98]⟩:X0),(⟨#[117,112,49]⟩:X0),(⟨#[101,105,103,104,116,108,101,116]⟩:X0)] h1 (by simp);have hsz:s.size<=64:=by
    simp only [C2,J9,A1P] at hs;rcases hs with rfl | rfl | rfl | rfl<;>decide
  simp only [B70,C76,q1,q2,bO];obtain ⟨m,qm⟩:∃ m,A4D (i64.wrap (1+k))=some (m,()):=by
    simp only [A4D,B4n];cases decide (i64.wrap (1+k)=1)<;>cases decide (i64.wrap (1+k)=3)<;>cases decide (i64.wrap (1+k)=4)<;>exact ⟨_,rfl⟩
  rw [qm];simp only [bO];cases decide (m>=0) with
  | false=>exact ⟨_,_,rfl,h2,by simp only;omega,by simp only;omega,hsz⟩
  | true=>
    obtain ⟨n,c3,q3,h3,hn⟩:=A2n c2 [0,5,24,100,1000000000] h2 (by simp);have hn2:0<=n/\n<=1000000000:=by
      simp only [C2,J9,A1P] at hn;omega
    simp only [A8,q3,bO];cases decide (i64.wrap (1+k)=4) with
    | false=>exact ⟨_,_,rfl,h3,by simp only;omega,by simp only;omega,hsz⟩
    | true=>
      obtain ⟨b,c4,q4,h4⟩:=B6T c3 2 h3 (by omega);simp only [A8,q4,bO];cases b
      · exact ⟨_,_,rfl,h4,by simp only;omega,by simp only;omega,hsz⟩
      · exact ⟨_,_,rfl,h4,by simp only;omega,by simp only;omega,hsz⟩
theorem C4J(a:List A0j)(h:a.length<=1000000000)(hb:∀ c∈a,c.2.2.1.length<=1000000000):A9G a a=some (true,()):=by
  simp only [A9G,B8s,R8,C3,A3];have e:=F2A (A9f A4W a a) a.length (by simp only [maxLen];omega) (fun _=>true) (fun i hi=>by
    have g1:((i:Int)<(a.length:Int)):=by omega
    have g2:(0:Int)<=(i:Int):=by omega
    have hr:rd A0q a (i:Int)=a[i]:=A6d (k:=A0q) hi;have hs:=B78 (a[i]).2.2.1 (by have:=hb _ (F2 hi);simp only [maxLen];omega);simp only [A9f,A0 g1,A0 g2,A8,R8,C3,A3,hr,eqM,C6P,hs,bO]) (by simp [A9f])
  rw [e];simp
theorem D9D:Byt prefaceB:=by
  unfold prefaceB;refine A1D ?_ (B37 fun x hx=>by cases hx);intro x hx;simp only [pri,C2,J9,A1P] at hx;omega
theorem E3M(c:I4)(hc:Cur c):∃ f c',A5D c=some (f,c',())/\Cur c'/\f.2.2.2.length<=1000/\Byt f.2.2.2:=by
  obtain ⟨k,c1,q1,h1,k0,k1⟩:=A0m c 11 hc (by omega);obtain ⟨fl,c2,q2,h2,_⟩:=A2n c1 [0,1,4,5,8,12,32,44] h1 (by simp);obtain ⟨st,c3,q3,h3,_⟩:=A2n c2 [1,1,3,0,5] h2 (by simp);obtain ⟨n,c4,q4,h4,hn⟩:=A2n c3 [0,1,4,5,6,8,12] h3 (by simp);have hn2:0<=n/\n<=12:=by
    simp only [C2,J9,A1P] at hn;omega
  obtain ⟨j,c5,q5,h5,j0,j1⟩:=A0m c4 3 h4 (by omega);simp only [A5D,B34,q1,q2,q3,q4,q5,bO];obtain ⟨n1,d,e1,hd,hn1⟩:∃ n1 d,(bif (decide (k=2)) then some (5,c4.1,c4.2.1,c4.2.2,()) else A5 (bif (decide (k=3)) then some ((decide (k=3)),()) else some ((decide (k=8)),())) fun (m0:Bool×Unit)=>bif m0.1 then some (4,c4.1,c4.2.1,c4.2.2,()) else A5 (bif (decide (k=6)) then some ((decide (k=6)),()) else some ((decide (k=7)),())) fun (m1:Bool×Unit)=>bif m1.1 then some (8,c4.1,c4.2.1,c4.2.2,()) else bif (decide (k=4)) then bif (decide ((Q4 .i64 fl 1)=1)) then some (0,c5.1,c5.2.1,c5.2.2,()) else some ((i64.wrap (6*j)),c5.1,c5.2.1,c5.2.2,()) else some (n,c4.1,c4.2.1,c4.2.2,()))=some (n1,d.1,d.2.1,d.2.2,())/\Cur d/\(0<=n1/\n1<=12):=by
    have hj:i64.wrap (6*j)=6*j:=w64 (by omega) (by omega);rw [hj];cases decide (k=2)
    case true=>exact ⟨5,c4,rfl,h4,by omega⟩
    cases decide (k=3)
    case true=>exact ⟨4,c4,rfl,h4,by omega⟩
    cases decide (k=8)
    case true=>exact ⟨4,c4,rfl,h4,by omega⟩
    cases decide (k=6)
    case true=>exact ⟨8,c4,rfl,h4,by omega⟩
    cases decide (k=7)
    case true=>exact ⟨8,c4,rfl,h4,by omega⟩
    cases decide (k=4)
    case false=>exact ⟨n,c4,rfl,h4,hn2⟩
    cases decide ((Q4 .i64 fl 1)=1)
    case true=>exact ⟨0,c5,rfl,h5,by omega⟩
    case false=>exact ⟨6*j,c5,rfl,h5,by omega⟩
  obtain ⟨o,d2,q6,h6⟩:=B6T d 8 hd (by omega);rw [e1];simp only [bO,show ((d.1,(d.2.1,d.2.2)):I4)=d from rfl,q6];obtain ⟨n2,e2,hn2'⟩:∃ n2,(bif o then some ((i64.wrap (n1+1)),d2.1,d2.2.1,d2.2.2,()) else some (n1,d2.1,d2.2.1,d2.2.2,()))=some (n2,d2.1,d2.2.1,d2.2.2,())/\(0<=n2/\n2<=13):=by
    cases o
    · exact ⟨n1,rfl,by omega⟩
    · exact ⟨n1+1,by rw [w64 (by omega) (by omega)];rfl,by omega⟩
  rw [e2];simp only [bO,V6,show ((d2.1,(d2.2.1,d2.2.2)):I4)=d2 from rfl];obtain ⟨z,c7,q7,h7,_⟩:=A2n d2 [0,0,0,0,1] h6 (by simp);obtain ⟨st2,d3,e3,hd3⟩:∃ st2 d3,(bif decide (6<=k/\k<=7) then A5 (A44 d2 [0,0,0,0,1]) fun c50=>some (k,fl,c50.1,c50.2.1.1,c50.2.1.2.1,c50.2.1.2.2,()) else bif (decide (k=4)) then A5 (A44 d2 [0,0,0,0,1]) fun c50=>some (k,fl,c50.1,c50.2.1.1,c50.2.1.2.1,c50.2.1.2.2,()) else some (k,fl,st,d2.1,d2.2.1,d2.2.2,()))=some (k,fl,st2,d3.1,d3.2.1,d3.2.2,())/\Cur d3:=by
    rw [q7];cases decide (6<=k/\k<=7)
    case true=>exact ⟨z,c7,rfl,h7⟩
    cases decide (k=4)
    case true=>exact ⟨z,c7,rfl,h7⟩
    case false=>exact ⟨st,d2,rfl,h6⟩
  rw [e3];obtain ⟨b,c8,q8,h8,hb1,hb2⟩:=C77 d3 n2 hd3 (by omega);simp only [bO,show ((d3.1,(d3.2.1,d3.2.2)):I4)=d3 from rfl,q8];exact ⟨_,_,rfl,h8,by simp only;omega,hb2⟩
theorem D7p(f:E2)(h:f.2.2.2.length<=1000)(hb:Byt f.2.2.2):∃ o,A0C f=some (o,())/\o.length<=1009/\Byt o:=by
  rw [A6P f (by omega)];cases hk:O0 f with
  | true=>exact ⟨_,rfl,by rw [A7 rfl];exact B07 f hk,by rw [A7 rfl];exact B37 hb⟩
  | false=>exact ⟨_,rfl,by simp,fun x hx=>by simp at hx⟩
theorem D4p(c:I4)(hc:Cur c)(most:Int)(hm:0<most/\most<=6):∃ b c',A5E c most=some (b,c',())/\Cur c'/\33<=b.length/\b.length<=33+125000000*6/\Byt b:=by
  obtain ⟨n,c1,q1,h1,n0,n1⟩:=A0m c most hc (by omega);have hp:=E0b;simp only [A5E,B35,D8j,bO,q1];obtain ⟨z,e,hz⟩:=B6Q (B05 A4F A0C B70 R6 A3Q A44 A5D)
    (fun l=>l.2.1.toNat) (fun l=>0<=l.2.1/\l.2.1<=6/\szT l.2.2.2.1<=1000000000/\Cur (l.2.2.2.2.1,l.2.2.2.2.2.1,l.2.2.2.2.2.2.1)/\33<=l.2.2.2.2.2.2.2.1.length/\(l.2.2.2.2.2.2.2.1.length:Int)<=33+125000000*(6-l.2.1)/\Byt l.2.2.2.2.2.2.2.1)
    (fun z=>Cur z.2.1/\33<=z.1.length/\z.1.length<=33+125000000*6/\Byt z.1) (fun l hl=>by
      obtain ⟨i0,i6,ht,hcu,hb0,hb1,hb2⟩:=hl;obtain ⟨a1,a2,a3,a4,a5,a6,a7,a8,u⟩:=l;simp only at i0 i6 ht hcu hb0 hb1 hb2;simp only [B05];by_cases hi:a2>0
      · left
        rw [A0 hi];obtain ⟨w,c2,q2,h2,w0,w1⟩:=A0m (a5,a6,a7) 6 hcu (by omega);have wi:i64.wrap (a2-1)=a2-1:=w64 (by omega) (by omega);simp only [A8,q2,bO,wi];by_cases k0:w=0
        · rw [A0 k0]
          obtain ⟨f,c3,q3,h3,f1,f2⟩:=E3M c2 h2;obtain ⟨o,q4,o1,o2⟩:=D7p f f1 f2;simp only [A8,q3,q4,bO];rw [gA (by omega)];exact ⟨_,rfl,⟨by simp only;omega,by simp only;omega,ht,h3,by simp only [A6];omega,by simp only [A6];omega,A1D hb2 o2⟩,by simp only;omega⟩
        rw [A1 k0];simp only [A3];by_cases k1:w=1
        · rw [A0 k1]
          obtain ⟨v1,c3,q3,h3,_⟩:=A2n c2 [6,4,8,3] h2 (by simp);obtain ⟨v2,c4,q4,h4,_⟩:=A2n c3 [0,0,1] h3 (by simp);obtain ⟨v3,c5,q5,h5,hv⟩:=A2n c4 [8,4,0,6] h4 (by simp);have hv2:0<=v3/\v3<=8:=by
            simp only [C2,J9,A1P] at hv;omega
          obtain ⟨bb,c6,q6,h6,b1,b2⟩:=C77 c5 v3 h5 (by omega);obtain ⟨o,q7,o1,o2⟩:=D7p (v1,0,v2,bb) (by simp only;omega) b2;simp only [A8,q3,q4,q5,q6,q7,bO];rw [gA (by omega)];exact ⟨_,rfl,⟨by simp only;omega,by simp only;omega,ht,h6,by simp only [A6];omega,by simp only [A6];omega,A1D hb2 o2⟩,by simp only;omega⟩
        · rw [A1 k1]
          obtain ⟨r,c3,q3,h3,_,_,hr⟩:=E3L c2 h2;obtain ⟨v3,c5,q5,h5,hv⟩:=A2n c3 [0,3,10] h3 (by simp);have hv2:0<=v3/\v3<=10:=by
            simp only [C2,J9,A1P] at hv;omega
          obtain ⟨bb,c6,q6,h6,b1,b2⟩:=C77 c5 v3 h5 (by omega);obtain ⟨v4,c7,q7,h7,_⟩:=A2n c6 [1000,5,2] h6 (by simp);obtain ⟨o,T,q8,o1,o2,o3⟩:=F48 (a3,a4) a1 r bb v4 ht (by omega) (by omega);simp only [A3,q3,q5,q6,q7,q8,bO];rw [gA (by omega)];exact ⟨_,rfl,⟨by simp only;omega,by simp only;omega,o2,h7,by simp only [A6];omega,by simp only [A6];omega,A1D hb2 (o3 b2)⟩,by simp only;omega⟩
      · right
        rw [A1 hi];exact ⟨(a8,(a5,a6,a7),()),rfl,hcu,hb0,by simp only;omega,hb2⟩) (1,n,4096,[],c1.1,c1.2.1,c1.2.2,prefaceB,()) ⟨n0,by simp only;omega,by simp [szT],h1,by simp only [hp];omega,by simp only [hp];omega,D9D⟩
  exact ⟨z.1,z.2.1,e,hz⟩
theorem F1o{b:List Int}(h:Byt b)(i:Nat){x:Int}(hx:0<=x/\x<256):Byt (b.set i x):=fun y hy=>by
  rcases B7d hy with q | q
  · exact h y q
  · rw [q];exact hx
set_option maxRecDepth 100000
abbrev F3O(st:BS):BS:={st with m:={st.m with calls:= [],out:= []}}
def CI(cs:List A0j):Prop:=∀ c∈cs,c.2.2.1.length<=2000
theorem E5c{cs:List A0j}(h:CI cs){c:A0j}(hc:c.2.2.1.length<=2000):CI (cs ++ [c]):=fun x hx=>by
  rcases D0.1 hx with q | q
  · exact h x q
  · rcases B0.1 q with rfl;exact hc
def F1p:BS:=⟨0,[],0,⟨(0,false,[]),(4096,[]),[],0,[],[]⟩⟩
def E1P:D3:=(4096,[])
theorem C8t:A07 E1P:=⟨by decide,by decide,by simp [E1P,szT]⟩
theorem C1w:BI F1p:=⟨by decide,⟨D7l _,by decide,C8t,.inl ⟨rfl,rfl,rfl⟩,fun x hx=>by cases hx⟩,(fun x hx=>by cases hx),rfl,fun _=>rfl,(fun e=>absurd rfl e),by decide⟩
set_option maxRecDepth 100000
set_option maxRecDepth 100000
set_option maxRecDepth 100000
theorem F49{f:E2}(h:O0 f=true):(0<=f.1/\f.1<=255)/\(0<=f.2.1/\f.2.1<=255)/\(0<=f.2.2.1/\f.2.2.1<=2147483647)/\f.2.2.2.length<=1000:=by
  simp only [O0,B4,H3] at h;exact ⟨h.1.1.1,h.1.1.2,h.1.2,by omega⟩
theorem F2I{x:Int}(h:0<=x/\x<=255):u8.wrap x=x:=by
  simp only [IntKind.wrap,IntKind.bits,IntKind.signed,A5O];simp;omega
theorem D1k(f:E2):(R1 f).length=9+f.2.2.2.length:=by
  simp only [R1,A6,A34,F0,I3]
theorem E1Q{f:E2}(h:O0 f=true)(rest:List Int):codeF (R1 f++rest)=0/\A2M (R1 f++rest)=(R1 f).length/\A0D (R1 f++rest)=f:=by
  obtain ⟨h1,h2,h3,h4⟩:=F49 h;have hs:=D1k f;have e:R1 f++rest=big (f.2.2.2.length:Int) 3++(f.1::f.2.1::(big f.2.2.1 4++(f.2.2.2++rest))):=by
    have hc:A6s f.2.2.1=f.2.2.1:=by unfold A6s;rw [A4 (by omega)]
    unfold R1;rw [F2I h1,F2I h2,hc];simp
  have b3:((O6 (R1 f++rest) 0 3:Nat):Int)=(f.2.2.2.length:Int):=D7V [] (f.1::f.2.1::(big f.2.2.1 4++(f.2.2.2++rest))) _ 3 0 e rfl (by omega) (by simp;omega);have b3':O6 (R1 f++rest) 0 3=f.2.2.2.length:=by omega
  have e2:R1 f++rest=(big (f.2.2.2.length:Int) 3 ++ [f.1,f.2.1])++(big f.2.2.1 4++(f.2.2.2++rest)):=by rw [e];simp
  have b4:((O6 (R1 f++rest) 5 4:Nat):Int)=f.2.2.1:=D7V _ _ _ 4 5 e2 (by simp [A34]) h3.1 (by simp;omega);have hl:(R1 f++rest).length=9+f.2.2.2.length+rest.length:=by rw [A6,hs]
  refine ⟨?_,by unfold A2M;rw [b3',hs],?_⟩
  · unfold codeF
    rw [A4 (by omega),b3',A4 (by omega),A4 (by omega)]
  · have r3:rd (.int .u8) (R1 f++rest) 3=f.1:=by
      rw [e];simp [rd,List.getD,F5,A34]
    have r4:rd (.int .u8) (R1 f++rest) 4=f.2.1:=by
      rw [e];simp [rd,List.getD,F5,A34]
    have hb:((R1 f++rest).take (9+f.2.2.2.length)).drop 9=f.2.2.2:=by
      have e3:R1 f++rest=(big (f.2.2.2.length:Int) 3 ++ [f.1,f.2.1]++big f.2.2.1 4)++(f.2.2.2++rest):=by rw [e2];simp
      have hA:(big (f.2.2.2.length:Int) 3 ++ [f.1,f.2.1]++big f.2.2.1 4).length=9:=by simp [A34]
      rw [e3,A2H,<- hA,A2I];simp
    have ha:Q4 .i64 f.2.2.1 2147483647=f.2.2.1:=by
      obtain ⟨n,hn⟩:∃ n:Nat,f.2.2.1=(n:Int):=⟨f.2.2.1.toNat,by omega⟩;rw [hn,show (2147483647:Int)=((2 ^ 31-1:Nat):Int) from rfl,C4A (by omega) (by omega),A20,B3a (by omega)]
    unfold A0D A3f;rw [A7 (by omega)];simp only [B6H,show (0:Int).toNat=0 from rfl,b3',r3,r4,show (5:Int).toNat=5 from rfl,b4,ha];rw [A4 (by omega),A4 (by omega)];simp only [show ((9:Int)+(f.2.2.2.length:Int)).toNat=9+f.2.2.2.length by omega,show (9:Int).toNat=9 from rfl,hb]
def B0A:List E2->List Int
  | []=> []
  | f::fs=>R1 f++B0A fs
theorem C4K:∀ a b:List E2,B0A (a++b)=B0A a++B0A b
  | [],b=>rfl
  | f::a,b=>by simp only [E4,B0A,C4K a b,B3]
def C5c(fl k:Int):Bool:=!decide (Q4 .i64 fl k=0)
theorem hN:(C5c 0 1=false/\C5c 1 1=true/\C5c 4 1=false/\C5c 5 1=true)/\(C5c 0 4=false/\C5c 1 4=false/\C5c 4 4=true/\C5c 5 4=true)/\(C5c 0 8=false/\C5c 1 8=false/\C5c 4 8=false/\C5c 5 8=false)/\(C5c 0 32=false/\C5c 1 32=false/\C5c 4 32=false/\C5c 5 32=false):=
  ⟨⟨by kernel_rfl,by kernel_rfl,by kernel_rfl,by kernel_rfl⟩,⟨by kernel_rfl,by kernel_rfl,by kernel_rfl,by kernel_rfl⟩,⟨by kernel_rfl,by kernel_rfl,by kernel_rfl,by kernel_rfl⟩,⟨by kernel_rfl,by kernel_rfl,by kernel_rfl,by kernel_rfl⟩⟩
abbrev g0:L3:=(0,false,[])
set_option maxRecDepth 100000
theorem C4L(f:E2):A9H f=some (fcV f,()):=by
  have h1:B0N f=A1a f:=by
    rw [C8W f];simp only [A1a,A79,S3,bO,O0];cases decide (0<=f.1/\f.1<=255)<;>cases decide (0<=f.2.1/\f.2.1<=255)<;>cases decide (0<=f.2.2.1/\f.2.2.1<=2147483647)<;>rfl
  have h2:C1U f=A2W f:=by
    have e:decide (Q4 .i64 f.2.1 1=0)=!A3g f 1:=by unfold A3g;rw [C9W]
    simp only [C1U,C6w,A2W,A9v,A9L,bO,e];by_cases c2:f.1=2
    · rw [A0 c2];rfl
    rw [A1 c2];by_cases c3:f.1=3
    · rw [A0 c3];rfl
    rw [A1 c3];by_cases c8:f.1=8
    · rw [A0 c8];rfl
    rw [A1 c8];by_cases c6:f.1=6
    · rw [A0 c6];rfl
    rw [A1 c6];by_cases c7:f.1=7
    · rw [A0 c7,A1 (show ¬ f.1=4 by omega)];rfl
    rw [A1 c7];cases decide (f.1=4)<;>cases decide ((f.2.2.2.length:Int).tmod 6=0)<;>cases decide ((f.2.2.2.length:Int)=0)<;>cases A3g f 1<;>rfl
  rw [<- A5I f];simp only [A9H,B8v,U0,A4T,h1,h2]
theorem F04(f:E2):(A5 (bif (decide (f.1=1)) then some ((!decide ((Q4 .i64 f.2.1 32)=0)),()) else some (false,())) fun (m2:Bool×Unit)=>some (m2.1,()))=some (decide (C1t f=5),()):=by
  unfold C1t;by_cases h:f.1=1
  · rw [A0 h,A7 h,A8,bO,show (!decide (Q4 .i64 f.2.1 32=0))=A3g f 32 from rfl]
    cases A3g f 32<;>rfl
  · rw [A1 h,A4 h];rfl
theorem F05(b:List Int)(a m:Int)(ha:a=0\/a=5)(hm:0<=m)(hl:b.length<=1000000)(c:List Int)(hc:(c.length:Int)=(b.length:Int)-m)(e:c=b.take ((b.length:Int)-m).toNat) :
    (bif decide (a=5) then bif (decide ((c.length:Int)<5)) then some (([]:List Int),false,()) else bif decide (5<=(c.length:Int)) then bif decide (([]:List Int).length+((c.take c.length).drop 5).length<=9223372036854775807) then bif decide ((([]:List Int).length+((c.take c.length).drop 5).length)*1<=140737488355328) then some (([]++((c.take c.length).drop 5)),true,()) else none else none else none else bif decide (([]:List Int).length+c.length<=9223372036854775807) then bif decide ((([]:List Int).length+c.length)*1<=140737488355328) then some (([]++c),true,()) else none else none)=some ((C8o b a m).1,(C8o b a m).2,()):=by
  unfold C8o;rw [gA (by simp;omega),gA (by simp;omega),A11];rcases ha with rfl | rfl
  · rw [A1 (by omega),A3,A4 (by omega),<- e]
    rfl
  · rw [A0 rfl,A8]
    by_cases h:(c.length:Int)<5
    · rw [A0 h,A7 (by omega)];rfl
    · rw [A1 h,A4 (by omega),A0 (show (5:Int)<=(c.length:Int) by omega),<- e]
      rfl
theorem D4q{f:E2}(hf:FrI f):B9m f=some ((B08 f).1,(B08 f).2,()):=by
  have hr:C1t f=0\/C1t f=5:=by
    unfold C1t;split
    · cases A3g f 32<;>simp
    · simp
  have hn:=hf.n;have hu:∀ {R:Type} (K:Bool×Unit->Option R),A5 (bif (decide (f.1=1)) then some ((!decide ((Q4 .i64 f.2.1 32)=0)),()) else some (false,())) K=K (decide (C1t f=5),()):=fun K=>by
    have h:=F04 f;generalize (bif (decide (f.1=1)) then some ((!decide ((Q4 .i64 f.2.1 32)=0)),()) else some (false,()))=X at *
    cases X with
    | none=>cases h
    | some x=>
      obtain ⟨x,u⟩:=x;simp only [bO,G0,A6W] at h;rw [h.1,bO]
  simp only [B9m,C9r,hu,show (!decide (Q4 .i64 f.2.1 8=0))=A3g f 8 from rfl];unfold B08;cases A3g f 8
  · simp only [A3,bSl,bO]
    exact F05 f.2.2.2 (C1t f) 0 hr (by omega) (by omega) f.2.2.2 (by omega) (by rw [show ((f.2.2.2.length:Int)-0).toNat=f.2.2.2.length by omega,A11])
  · simp only [A8]
    by_cases h0:f.2.2.2.length=0
    · rw [A0 (show (f.2.2.2.length:Int)=0 by omega),A7 h0];rfl
    · have h1:=B5F hf.b (show 0<f.2.2.2.length by omega)
      rw [show ((0:Nat):Int)=0 from rfl] at h1;rw [A1 (show ¬ (f.2.2.2.length:Int)=0 by omega),A4 h0,A0 (show (0:Int)<(f.2.2.2.length:Int) by omega),h1.1,w64 (n:=(byN f.2.2.2 0:Int)) (by omega) (by omega),w64 (n:=(f.2.2.2.length:Int)-1) (by omega) (by omega),w64 (n:=(f.2.2.2.length:Int)-(byN f.2.2.2 0:Int)) (by omega) (by omega)];by_cases h2:(byN f.2.2.2 0:Int)>(f.2.2.2.length:Int)-1
      · rw [A0 h2]
        have:C8o (f.2.2.2.drop 1) (C1t f) (byN f.2.2.2 0:Int)=([],false):=by
          unfold C8o;rw [A7 (by rw [D4];omega)]
        rw [this];rfl
      · rw [A1 h2,A0 (show (1:Int)<=(f.2.2.2.length:Int)-(byN f.2.2.2 0:Int) by omega),A0 (show (f.2.2.2.length:Int)-(byN f.2.2.2 0:Int)<=(f.2.2.2.length:Int) by omega)]
        simp only [A3,A8,bSl,bO];exact F05 (f.2.2.2.drop 1) (C1t f) (byN f.2.2.2 0:Int) hr (by omega) (by simp;omega) _ (by rw [D4,D4,B5];omega) (by rw [A2H];congr 1;rw [D4];omega)
theorem D22{g:L3}(h:GaI g):A30 g=some (true,()):=by
  simp only [A30,B1C,V6,bO];rcases h with ⟨h1,h2,h3⟩ | ⟨h1,h2,h3⟩
  · rw [A0 h1,h2,h3];rfl
  · rw [A1 (show ¬ g.1=0 by omega),A0 (show 1<=g.1/\g.1<=2147483647 from ⟨h1,h2⟩),A0 (show (g.2.2.length:Int)<=3000 by omega)]
    rfl
theorem E79{g:L3}(hg:GaI g){f:E2}(hf:FrI f):C8Q g f=some ((Q8 g f).1,(Q8 g f).2.1,(Q8 g f).2.2,()):=by
  have hl:=hg.len;have hn:=hf.n;have hcp:=D7d g (by omega);have hin:(bif (decide (g.1>0)) then bif (!decide (f.1=9)) then some (true,()) else bif (!decide (f.2.2.1=g.1)) then some (true,()) else bif (decide (g.1=0)) then some ((decide (f.1=9)),()) else some (false,()) else bif (decide (g.1=0)) then some ((decide (f.1=9)),()) else some (false,()))=some (!B09 g f,()):=by
    unfold B09;rcases hg with ⟨h1,h2,h3⟩ | ⟨h1,h2,h3⟩
    · rw [A1 (show ¬ g.1>0 by omega),A0 h1,A7 h1,C9W];rfl
    · rw [A0 (show g.1>0 by omega),A1 (show ¬ g.1=0 by omega),A4 (show ¬ g.1=0 by omega)]
      cases decide (f.1=9)<;>cases decide (f.2.2.1=g.1)<;>rfl
  simp only [C8Q,D3w,D22 hg,C4L,hcp,D4q hf,bO,C3,A3,hin,show ∀ k,(!decide (Q4 .i64 f.2.1 k=0))=A3g f k from fun _=>rfl];unfold Q8;cases decide (fcV f=0)
  case false=>rfl
  cases B09 g f
  case false=>rfl
  simp only [C3,A3,bO,bSl,Bool.or_self];unfold D7m;by_cases h1:f.1=1
  · rw [A0 h1,A7 h1]
    simp only [A8];cases hu:(B08 f).2 with
    | false=>rfl
    | true=>
      simp only [C3,A3,bSl,B0G,K7];unfold B76;by_cases h3:((B08 f).1.length:Int)>3000
      · rw [A0 h3,A7 h3];rfl
      · rw [A1 h3,A4 h3]
        cases A3g f 4<;>rfl
  · rw [A1 h1,A4 h1]
    simp only [A3];by_cases h9:f.1=9
    · rw [A0 h9,A7 h9,gA (by omega)]
      simp only [A8,bSl];unfold B76;by_cases h3:((g.2.2++f.2.2.2).length:Int)>3000
      · rw [A0 h3,A7 h3];rfl
      · rw [A1 h3,A4 h3]
        cases A3g f 4<;>rfl
    · rw [A1 h9,A4 h9];rfl
theorem F06(ev:Int):ev=1\/ev=2\/ev=3\/ev=4\/ev=5\/ev=6\/ev=7\/ev=8\/ev=9\/ev=10\/¬ (1<=ev/\ev<=10):=by omega
theorem E7A(st ev:Int):B1F st ev=some ((stV st ev).1,(stV st ev).2,()):=by
  rw [<- D7j];simp only [B1F,B6r,A0R,B13,V6,S3,bO];rcases F06 ev with rfl | rfl | rfl | rfl | rfl | rfl | rfl | rfl | rfl | rfl | h
  case inr.inr.inr.inr.inr.inr.inr.inr.inr.inr=>rw [A1 h];rfl
  all_goals
    by_cases h4:st=4
    · subst h4;rfl
    · rw [A1 h4]
      cases decide (st=0)<;>cases decide (st=1)<;>cases decide (st=2)<;>cases decide (st=3)<;>rfl
set_option maxRecDepth 100000
def F3P(c n:Nat):Int:=match B4q c n with
  | some j=>if j<256 then (j:Int) else -1
  | none=>-1
theorem D1l(c n:Nat):∀ (k i:Nat),i+k=256->G1 (B5r lensT (n:Int) codesT (c:Int)) ((i:Int),())=some ((match fdC (k+1) i (c:Int) (n:Int) with
  | some j=>if j<256 then (j:Int) else -1
  | none=>-1),())
  | 0,i,h=>by
    have hi:i=256:=by omega
    subst hi;rw [H5];have h1:¬ (((256:Nat):Int)<=255):=by omega
    simp only [B5r,A1 h1,A3];unfold fdC fdC;by_cases hc:codesT.getD 256 0=(c:Int)/\lensT.getD 256 0=(n:Int)
    · rw [A7 hc];rfl
    · rw [A4 hc]
  | k+1,i,h=>by
    rw [H5];have h1:(i:Int)<=255:=by omega
    have h2:(0:Int)<=(i:Int):=by omega
    have hl:=A1S;have hc:=B06;have h3:(i:Int)<(lensT.length:Int):=by omega
    have h4:(i:Int)<(codesT.length:Int):=by omega
    have e1:rd (.int .i64) lensT (i:Int)=lensT.getD i 0:=by
      rw [C1m (show i<lensT.length by omega)];simp [List.getD,C5 (show i<lensT.length by omega)]
    have e2:rd (.int .i64) codesT (i:Int)=codesT.getD i 0:=by
      rw [C1m (show i<codesT.length by omega)];simp [List.getD,C5 (show i<codesT.length by omega)]
    have w:i64.wrap ((i:Int)+1)=((i+1:Nat):Int):=by rw [w64 (by omega) (by omega)];omega
    have ih:=D1l c n k (i+1) (by omega);simp only [B5r,A0 h1,A0 h2,A0 h3,A0 h4,A8,e1,e2,w];rw [fdC];by_cases q1:lensT.getD i 0=(n:Int)
    · rw [A0 q1]
      by_cases q2:codesT.getD i 0=(c:Int)
      · rw [A0 q2,A7 ⟨q2,q1⟩]
        simp only [A8];rw [A7 (by omega)]
      · rw [A1 q2,A4 (fun q=>q2 q.1)]
        simp only [A8,A3];exact ih
    · rw [A1 q1,A4 (fun q=>q1 q.2)]
      simp only [A3];exact ih
theorem E7B(c n:Nat):A7F lensT codesT (n:Int) (c:Int)=some (F3P c n,()):=by
  have e:=D1l c n 256 0 rfl;rw [show ((0:Nat):Int)=0 from rfl] at e;simp only [A7F,C70,e];rfl
theorem D7q:∀ (n v i:Nat) (h:i<(R4 n v).length),(R4 n v)[i]=v.testBit (n-1-i)
  | 0,v,i,h=>by simp [R4] at h
  | n+1,v,0,h=>by simp [R4]
  | n+1,v,i+1,h=>by
    simp only [R4,A5s];rw [D7q n v i]
    congr 1
    omega
theorem C8u:∀ (l:List Int) (i:Nat) (h:i<(K2 l).length) (h2:i / 8<l.length),(K2 l)[i]=(l[i / 8].toNat).testBit (7-i % 8)
  | [],i,h,h2=>by simp at h2
  | x::l,i,h,h2=>by
    have hc:=A6Q x l;rw [C7q hc h];by_cases h8:i<8
    · have hd:i / 8=0:=by omega
      rw [M6 (by rw [A3S];exact h8),D7q];simp only [hd,C2l]
      congr 1
      omega
    · rw [N2 (by rw [A3S];omega)]
      simp only [A3S];have hd:i / 8=(i-8) / 8+1:=by omega
      have hl:(K2 (x::l)).length=8+(K2 l).length:=by rw [hc,A6,A3S]
      have hb:=A1E l;rw [C8u l (i-8) (by omega) (by omega)];simp only [hd,A5s]
      congr 1
      omega
theorem D7r{st st':RdS}{x:Bool}(h:RdG st)(e:A1o st x=some st'):RdG st'/\st'.2.2.length<=st.2.2.length+1:=by
  unfold A1o at e;have hx:x.toNat<=1:=by cases x<;>simp
  have hp:2*st.1+x.toNat<2 ^ (st.2.1+1):=by have:=h.1;rw [A5v];omega
  by_cases h30:st.2.1+1>30
  · rw [A7 h30] at e;cases e
  rw [A4 h30] at e;cases hj:B4q (2*st.1+x.toNat) (st.2.1+1) with
  | none=>
    rw [hj] at e;simp only [G0] at e;subst e;exact ⟨⟨hp,by simp only;omega⟩,by simp⟩
  | some j=>
    rw [hj] at e;by_cases h256:j<256
    · simp only [A7 h256,G0] at e
      subst e;exact ⟨⟨by simp,by simp⟩,by simp⟩
    · simp only [A4 h256,G0] at e
      subst e;exact ⟨⟨hp,by simp only;omega⟩,by simp⟩
theorem C6C(a:List Int)(ha:Byt a)(hl:a.length<=1000000000):∀ (k i:Nat) (st:RdS),i+k=8*a.length->RdG st->st.2.2.length+k<=100000000000->
    G1 (A5f A7F a (lensT,()) (codesT,())) ((st.1:Int),(st.2.1:Int),(i:Int),st.2.2,()) =
      (if (A2B A1o ((K2 a).drop i) st).2 then some (.inr (⟨#[]⟩,false,())) else some (.inl (((A2B A1o ((K2 a).drop i) st).1.1:Int),((A2B A1o ((K2 a).drop i) st).1.2.1:Int),(A2B A1o ((K2 a).drop i) st).1.2.2,())))
  | 0,i,st,hi,hg,hlen=>by
    rw [H5];have h:¬ (i:Int)<i64.wrap (8*(a.length:Int)):=by rw [w64 (by omega) (by omega)];omega
    simp only [A5f,A1 h,A3];rw [S7 (by rw [A1E];omega)];rfl
  | k+1,i,st,hi,hg,hlen=>by
    have hbl:=A1E a;have hlt:i<(K2 a).length:=by omega
    have h8:i / 8<a.length:=by omega
    have hx:=ha _ (F2 h8);have h:(i:Int)<i64.wrap (8*(a.length:Int)):=by rw [w64 (by omega) (by omega)];omega
    have w1:i64.wrap ((i:Int).tdiv 8)=((i / 8:Nat):Int):=by
      rw [B7P (by omega),show (8:Int)=((8:Nat):Int) from rfl,<- B3c,w64 (by omega) (by omega)]
    have w2:i64.wrap (7-(i:Int).tmod 8)=((7-i % 8:Nat):Int):=by
      rw [A1Q (by omega),show (i:Int) % 8=((i % 8:Nat):Int) by omega,w64 (by omega) (by omega)];omega
    have hr:rd (.int .u8) a ((i / 8:Nat):Int)=((a[i / 8].toNat:Nat):Int):=by rw [C1m h8];exact (A1U hx.1).symm
    have w3:i64.wrap ((a[i / 8].toNat:Nat):Int)=((a[i / 8].toNat:Nat):Int):=w64 (by omega) (by omega);have w4:i64.wrap ((st.2.1:Int)+1)=((st.2.1+1:Nat):Int):=by have:=hg.2;rw [w64 (by omega) (by omega)];omega
    have w5:i64.wrap ((i:Int)+1)=((i+1:Nat):Int):=by rw [w64 (by omega) (by omega)];omega
    have hbit:=E9p (x:=a[i / 8].toNat) (k:=7-i % 8) (by omega) (by omega);have hdrop:(K2 a).drop i=(a[i / 8].toNat).testBit (7-i % 8)::(K2 a).drop (i+1):=by rw [J4 hlt,C8u a i hlt h8]
    rw [hdrop];generalize (a[i / 8].toNat).testBit (7-i % 8)=x at *
    have hacc:=E9q hg.1 hg.2 x;rw [H5];have hu:¬ u64.wrap ((7-i % 8:Nat):Int)<0:=by
      simp only [IntKind.wrap,IntKind.bits,IntKind.signed];simp;omega
    simp only [A5f,A0 h,w1,w2,A8,A0 (show (0:Int)<=((i / 8:Nat):Int) by omega),A0 (show ((i / 8:Nat):Int)<(a.length:Int) by omega),A1 hu,A3,w4,hr,w3,hbit,hacc,E7B,w5,bO];have e0:A2B A1o (x::(K2 a).drop (i+1)) st=match A1o st x with
      | some st'=>A2B A1o ((K2 a).drop (i+1)) st'
      | none=>(st,true):=rfl
    rw [e0];by_cases h30:st.2.1+1>30
    · rw [A0 (show ((st.2.1+1:Nat):Int)>30 by omega)]
      have e1:A1o st x=none:=by unfold A1o;rw [A7 h30]
      rw [e1];rfl
    · rw [A1 (show ¬ ((st.2.1+1:Nat):Int)>30 by omega)]
      simp only [A3];have hgo:∀ st',A1o st x=some st'->G1 (A5f A7F a (lensT,()) (codesT,())) ((st'.1:Int),(st'.2.1:Int),((i+1:Nat):Int),st'.2.2,())=_:=fun st' e=>by
        have h2:=D7r hg e;exact C6C a ha hl k (i+1) st' (by omega) h2.1 (by omega)
      have hnf:∀ (e1:A1o st x=some (2*st.1+x.toNat,st.2.1+1,st.2.2)),G1 (A5f A7F a (lensT,()) (codesT,())) (((2*st.1+x.toNat:Nat):Int),((st.2.1+1:Nat):Int),((i+1:Nat):Int),st.2.2,())=_:=fun e1=>hgo _ e1
      unfold F3P;cases hj:B4q (2*st.1+x.toNat) (st.2.1+1) with
      | none=>
        have e1:A1o st x=some (2*st.1+x.toNat,st.2.1+1,st.2.2):=by unfold A1o;rw [A4 h30,hj]
        rw [e1];simp only [show decide ((-1:Int)>=0)=false from rfl,A3];exact hnf e1
      | some j=>
        by_cases h256:j<256
        · have e1:A1o st x=some (0,0,st.2.2 ++ [(j:Int)]):=by unfold A1o;rw [A4 h30,hj];simp only [A7 h256]
          rw [e1];have hw:u8.wrap (j:Int)=(j:Int):=D1h h256;simp only [A7 h256,A0 (show (j:Int)>=0 by omega),A8,hw];rw [gA (by simp;omega)];exact hgo _ e1
        · have e1:A1o st x=some (2*st.1+x.toNat,st.2.1+1,st.2.2):=by unfold A1o;rw [A4 h30,hj];simp only [A4 h256]
          rw [e1];simp only [A4 h256,show decide ((-1:Int)>=0)=false from rfl,A3];exact hnf e1
theorem E1R(a:List Int)(ha:Byt a)(hl:a.length<=500000000):C1e a=some (A5j a):=by
  have e:=C6C a ha (by omega) (8*a.length) 0 (0,0,[]) (by omega) ⟨by simp,by simp⟩ (by simp;omega);have e':G1 (A5f A7F a (lensT,()) (codesT,())) (0,0,0,[],())=_:=e;have hg:=(D4W A1o (fun st x st' h e=>D7r h e) (K2 a) (0,0,[]) ⟨by simp,by simp⟩).1;rw [P6] at e';simp only [C1e,C71,C47,C8c,bO,e'];have hok:=(E9m a ha).2;unfold A5j;have hR:A2B A1o (K2 a) (0,0,[])=B75 a:=rfl;rw [hR] at hg ⊢;by_cases hs:(B75 a).2=true
  · have:C5a a=false:=by unfold C5a;rw [hs];rfl
    rw [A7 hs,this];rfl
  · have hs':(B75 a).2=false:=by simpa using hs
    rw [A4 hs];simp only [bSl];by_cases h7:(B75 a).1.2.1<=7
    · rw [A1 (show ¬ ((B75 a).1.2.1:Int)>7 by omega),C8i (by omega)]
      have hu:¬ u64.wrap (((B75 a).1.2.1:Nat):Int)<0:=by
        simp only [IntKind.wrap,IntKind.bits,IntKind.signed];simp;omega
      rw [A1 hu];simp only [A3];by_cases hv:(B75 a).1.1=2 ^ (B75 a).1.2.1-1
      · have hk:C5a a=true:=by unfold C5a;rw [hs',A0 h7,A0 hv];rfl
        rw [A0 (show ((B75 a).1.1:Int)=((2 ^ (B75 a).1.2.1-1:Nat):Int) by rw [hv]),hk,hok hk];rfl
      · have hk:C5a a=false:=by unfold C5a;rw [hs',A0 h7,A1 hv];rfl
        rw [A1 (show ¬ ((B75 a).1.1:Int)=((2 ^ (B75 a).1.2.1-1:Nat):Int) by omega),hk];rfl
    · have hk:C5a a=false:=by unfold C5a;rw [hs',A1 h7];rfl
      rw [A0 (show ((B75 a).1.2.1:Int)>7 by omega),hk];rfl
set_option maxRecDepth 100000
theorem C4M{b:List Int}(hb:Byt b)(hl:b.length<=500000000)(p:Nat)(hp:p<=1000000000):B41 b (p:Int)=some (N4 b p):=by
  have e0:=B1a hb hl p 7 hp (by omega);rw [show ((7:Nat):Int)=7 from rfl] at e0;simp only [B41,B90,e0,bO];unfold N4;by_cases h1:(C8 b p 7).2.2.1=false
  · rw [A7 h1,h1];rfl
  have h1':(C8 b p 7).2.2.1=true:=by simpa using h1
  obtain ⟨r1,r2,r3,r4⟩:=A2f b p 7 (by omega) h1';rw [A4 h1,h1',w64 (n:=(b.length:Int)-(C8 b p 7).2.1) (by omega) (by omega),w64 (n:=(C8 b p 7).2.1+(C8 b p 7).1) (by omega) (by omega)];simp only [C3,A3];by_cases h2:(C8 b p 7).1>4000
  · rw [A7 h2,A0 h2];rfl
  rw [A4 h2,A1 h2];by_cases h3:(C8 b p 7).1>(b.length:Int)-(C8 b p 7).2.1
  · rw [A7 h3,A0 h3];rfl
  obtain ⟨q1,q2⟩:=B5F hb (show p<b.length by omega);have e3:((C8 b p 7).2.1+(C8 b p 7).1).toNat=(C8 b p 7).2.1.toNat+(C8 b p 7).1.toNat:=by omega
  rw [A4 h3,A1 h3];simp only [A3,bSl];rw [A0 (show (0:Int)<=(C8 b p 7).2.1 by omega),A0 (show (C8 b p 7).2.1<=(C8 b p 7).2.1+(C8 b p 7).1 by omega),A0 (show (C8 b p 7).2.1+(C8 b p 7).1<=(b.length:Int) by omega),A0 (show (0:Int)<=(p:Int) by omega),A0 (show (p:Int)<(b.length:Int) by omega),q1,e3];simp only [A8];rw [show ((b.take ((C8 b p 7).2.1.toNat+(C8 b p 7).1.toNat)).drop (C8 b p 7).2.1.toNat)=B2H b (C8 b p 7).2.1.toNat (C8 b p 7).1.toNat from rfl,E1R _ (D7g hb _ _) (A5q (D7h _ _ _) hl)];simp only [bO];by_cases h4:byN b p<128
  · rw [A7 h4,A0 (show (byN b p:Int)<128 by omega)];rfl
  rw [A4 h4,A1 (show ¬ (byN b p:Int)<128 by omega)];simp only [A3];by_cases h5:(A5j (B2H b (C8 b p 7).2.1.toNat (C8 b p 7).1.toNat)).2.1=false
  · rw [A7 h5,h5];rfl
  rw [A4 h5,show (A5j (B2H b (C8 b p 7).2.1.toNat (C8 b p 7).1.toNat)).2.1=true by simpa using h5];by_cases h6:(((A5j (B2H b (C8 b p 7).2.1.toNat (C8 b p 7).1.toNat)).1.size:Int)>4000)
  · rw [A7 h6,A0 h6];rfl
  · rw [A4 h6,A1 h6];rfl
theorem E1S{b:List Int}(hb:Byt b)(hl:b.length<=500000000)(p m:Nat)(hp:p<=1000000000)(hm:1<=m/\m<=8){t:D3}(ht:A07 t) :
    ∃ x q,B43 t b (p:Int) (m:Int)=some (x,q,(A67 t b p m).1,())/\((A67 t b p m).1=0->x=(A67 t b p m).2.1/\q=((A67 t b p m).2.2:Int)):=by
  have htl:=A6t ht;have e0:=B1a hb hl p m hp hm;simp only [B43,B91,e0,bO];unfold A67;by_cases h1:(C8 b p m).2.2.1=false
  · rw [A7 h1,h1]
    exact ⟨_,_,rfl,fun h=>by cases h⟩
  have h1':(C8 b p m).2.2.1=true:=by simpa using h1
  obtain ⟨r1,r2,r3,r4⟩:=A2f b p m hm.2 h1';have hq:(C8 b p m).2.1=(((C8 b p m).2.1.toNat:Nat):Int):=by omega
  have e1:=C4M hb hl (C8 b p m).2.1.toNat (by omega);rw [<- hq] at e1;rw [A4 h1,h1'];simp only [C3,A3];by_cases h2:(C8 b p m).1=0
  · rw [A7 h2,A0 h2]
    simp only [A8,e1,bO];by_cases h3:(N4 b (C8 b p m).2.1.toNat).2.2.1=false
    · rw [A7 h3,h3]
      exact ⟨_,_,rfl,fun h=>by cases h⟩
    have h3':(N4 b (C8 b p m).2.1.toNat).2.2.1=true:=by simpa using h3
    have r5:=A8H (C8 b p m).2.1.toNat h3';have hq2:(N4 b (C8 b p m).2.1.toNat).2.1=(((N4 b (C8 b p m).2.1.toNat).2.1.toNat:Nat):Int):=by omega
    have e2:=C4M hb hl (N4 b (C8 b p m).2.1.toNat).2.1.toNat (by omega);rw [<- hq2] at e2;rw [A4 h3,h3'];simp only [C3,A3,bSl,e2,bO];by_cases h4:(N4 b (N4 b (C8 b p m).2.1.toNat).2.1.toNat).2.2.1=false
    · rw [A7 h4,h4]
      exact ⟨_,_,rfl,fun h=>by cases h⟩
    have h4':(N4 b (N4 b (C8 b p m).2.1.toNat).2.1.toNat).2.2.1=true:=by simpa using h4
    have r6:=A8H (N4 b (C8 b p m).2.1.toNat).2.1.toNat h4';rw [A4 h4,h4'];exact ⟨_,_,rfl,fun _=>⟨rfl,by simp only;omega⟩⟩
  · rw [A4 h2,A1 h2]
    simp only [A3,C8k t (C8 b p m).1 (by omega) (by omega),bO];by_cases h5:(A2C t (C8 b p m).1).2.1=false
    · rw [A7 h5,h5]
      exact ⟨_,_,rfl,fun h=>by cases h⟩
    rw [A4 h5,show (A2C t (C8 b p m).1).2.1=true by simpa using h5];simp only [C3,A3,bSl,e1,bO];by_cases h3:(N4 b (C8 b p m).2.1.toNat).2.2.1=false
    · rw [A7 h3,h3]
      exact ⟨_,_,rfl,fun h=>by cases h⟩
    have h3':(N4 b (C8 b p m).2.1.toNat).2.2.1=true:=by simpa using h3
    have r5:=A8H (C8 b p m).2.1.toNat h3';rw [A4 h3,h3'];exact ⟨_,_,rfl,fun _=>⟨rfl,by simp only;omega⟩⟩
def E3N(c:Int)(l:List B2):Int:=if c=0 then (if (l.length:Int)>100 then 4 else 0) else c
theorem D0F(t:D3)(p:Nat)(l:List B2)(f:B2):E3N 0 (l ++ [f])=(B4r t p l f).1:=by
  unfold E3N B4r;rw [A7 rfl];simp only [A6,G7];by_cases h:100<l.length+1
  · rw [A7 h,A7 (by omega)]
  · rw [A4 h,A4 (by omega)]
theorem C20{c:Int}(h:c≠0)(l:List B2):E3N c l=c:=A4 h
theorem F07{t:D3}(ht:A07 t){f:B2}(h1:f.1.size<=10000)(h2:f.2.size<=10000):A2d t f=some (D90 t f,()):=by
  obtain ⟨q0,q1,q2⟩:=ht;obtain ⟨T,e1,e2,hT⟩:=E35 t f q0 (by omega) (by unfold ofF;omega);have hv:D90 t f=(t.1,T):=by unfold D90;rw [e1]
  rw [hv];exact e2
theorem F2J{t:D3}(ht:A07 t):A0N t=some (true,()):=E17 ht
theorem F08{t:D3}(ht:A07 t){n:Int}(h1:0<=n)(h2:n<=4096):A83 t n=some (D91 t n,()):=by
  have htl:=A6t ht;have htk:=F2J ht;obtain ⟨q0,q1,q2⟩:=ht;obtain ⟨k,e1,e2,_⟩:=E9c n t.2 h1 (by omega) (by omega);have hv:D91 t n=(n,t.2.take k):=by unfold D91;rw [e1]
  rw [hv];simp only [A83,B2o,B0c t (by omega),htk,V6,A0 (show 0<=n/\n<=4096 from ⟨h1,h2⟩),bO,C3,A3,bSl,e2]
theorem E5d{R:Type}{n:Nat}{X:Option R}(h:n<=1000000000000):(bif decide (n<=9223372036854775807) then bif decide (n*32<=140737488355328) then X else none else none)=X:=by
  rw [A0 (by omega),A0 (by omega)];rfl
theorem F09{b:List Int}(hb:Byt b)(hl:b.length<=500000000)(most:Int)(hmost:0<=most/\most<=4096)(t:D3)(p:Nat)(l:List B2)(hk:RdK b t p l)(hp:p<b.length) :
    ∃ c t' q l',A1R (t,most,b,(p:Int),l)=some (c,(t',most,b,q,l'),())/\E3N c l' = (B4s b most t p l).1/\((B4s b most t p l).1=0->t' = (B4s b most t p l).2.1/\q=((B4s b most t p l).2.2.1:Int)/\l' = (B4s b most t p l).2.2.2):=by
  obtain ⟨ht,hpl,hll,hlf⟩:=hk;have htl:=A6t ht;obtain ⟨q1,q2⟩:=B5F hb hp;have e7:=B1a hb hl p 7 (by omega) (by omega);have e5:=B1a hb hl p 5 (by omega) (by omega);rw [show ((7:Nat):Int)=7 from rfl] at e7;rw [show ((5:Nat):Int)=5 from rfl] at e5;simp only [A1R,A90,q1,A0 (show (0:Int)<=(p:Int) by omega),A0 (show (p:Int)<(b.length:Int) by omega),A8];unfold B4s;by_cases h128:128<=byN b p
  · rw [A7 h128,A0 (show (byN b p:Int)>=128 by omega)]
    simp only [A8,e7,bO];by_cases h1:(C8 b p 7).2.2.1=false
    · rw [A7 h1,h1]
      exact ⟨_,_,_,_,rfl,C20 (by omega) _,fun h=>by cases h⟩
    have h1':(C8 b p 7).2.2.1=true:=by simpa using h1
    obtain ⟨r1,r2,r3,r4⟩:=A2f b p 7 (by omega) h1';rw [A4 h1,h1',C8k t (C8 b p 7).1 (by omega) (by omega)];simp only [C3,A3,bO];by_cases h2:(A2C t (C8 b p 7).1).2.1=false
    · rw [A7 h2,h2]
      exact ⟨_,_,_,_,rfl,C20 (by omega) _,fun h=>by cases h⟩
    rw [A4 h2,show (A2C t (C8 b p 7).1).2.1=true by simpa using h2,E5d (by simp;omega)];refine ⟨_,_,_,_,rfl,D0F _ _ _ _,fun _=>⟨rfl,?_,rfl⟩⟩;simp only [B4r];omega
  rw [A4 h128,A1 (show ¬ (byN b p:Int)>=128 by omega)];simp only [A3];by_cases h64:64<=byN b p
  · obtain ⟨x,q,e,hz⟩:=E1S hb hl p 6 (by omega) (by omega) ht
    rw [show ((6:Nat):Int)=6 from rfl] at e;rw [A7 h64,A0 (show (byN b p:Int)>=32 by omega),A1 (show ¬ (byN b p:Int)<64 by omega),A0 (show (byN b p:Int)>=64 by omega)];simp only [A8,A3,bSl,bO,e];by_cases hc:(A67 t b p 6).1=0
    · obtain ⟨z1,z2⟩:=hz hc
      have hsz:=D2o ht (by omega) hc;subst z1 z2;rw [A7 hc,A0 hc];simp only [C3,A3,F07 ht hsz.1 hsz.2.1,bO];rw [E5d (by simp;omega)];exact ⟨_,_,_,_,rfl,D0F _ _ _ _,fun _=>⟨rfl,rfl,rfl⟩⟩
    · rw [A4 hc,A1 hc]
      exact ⟨_,_,_,_,rfl,C20 hc _,fun h=>absurd h hc⟩
  rw [A4 h64];by_cases h32:32<=byN b p
  · rw [A7 h32,A0 (show (byN b p:Int)>=32 by omega),A0 (show (byN b p:Int)<64 by omega)]
    simp only [A8,A7H,A7G,e5,bO];by_cases h1:(C8 b p 5).2.2.1=false
    · rw [A7 h1,h1]
      exact ⟨_,_,_,_,rfl,C20 (by omega) _,fun h=>by cases h⟩
    have h1':(C8 b p 5).2.2.1=true:=by simpa using h1
    obtain ⟨r1,r2,r3,r4⟩:=A2f b p 5 (by omega) h1';rw [A4 h1,h1'];simp only [C3,A3];by_cases h2:(C8 b p 5).1>most
    · rw [A7 (.inl h2),A0 h2]
      exact ⟨_,_,_,_,rfl,C20 (by omega) _,fun h=>by cases h⟩
    rw [A1 h2];by_cases h3:0<l.length
    · rw [A7 (.inr h3),A0 (show (l.length:Int)>0 by omega)]
      exact ⟨_,_,_,_,rfl,C20 (by omega) _,fun h=>by cases h⟩
    rw [A4 (by omega),A1 (show ¬ (l.length:Int)>0 by omega)];simp only [A3,bSl,F08 ht r1 (by omega),bO];refine ⟨_,_,_,_,rfl,?_,fun _=>⟨rfl,?_,rfl⟩⟩
    · unfold E3N
      rw [A7 rfl,A4 (by omega)]
    · show (C8 b p 5).2.1=(((C8 b p 5).2.1.toNat:Nat):Int)
      omega
  · obtain ⟨x,q,e,hz⟩:=E1S hb hl p 4 (by omega) (by omega) ht
    rw [show ((4:Nat):Int)=4 from rfl] at e;rw [A4 h32,A1 (show ¬ (byN b p:Int)>=32 by omega),A1 (show ¬ (byN b p:Int)>=64 by omega)];simp only [A8,A3,bSl,bO,e];by_cases hc:(A67 t b p 4).1=0
    · obtain ⟨z1,z2⟩:=hz hc
      subst z1 z2;rw [A7 hc,A0 hc];simp only [C3,A3,bO];rw [E5d (by simp;omega)];exact ⟨_,_,_,_,rfl,D0F _ _ _ _,fun _=>⟨rfl,rfl,rfl⟩⟩
    · rw [A4 hc,A1 hc]
      exact ⟨_,_,_,_,rfl,C20 hc _,fun h=>absurd h hc⟩
theorem D7s{b:List Int}(hb:Byt b)(hl:b.length<=500000000)(most:Int)(hmost:0<=most/\most<=4096){t0:D3}(ht0:A07 t0):∀ (k:Nat) (t:D3) (p:Nat) (l:List B2),RdK b t p l->b.length<=p+k->
    ∃ m' b' q',G1 (A1n A4b A1R b t0) (t.1,t.2,most,b,(p:Int),l,())=(if (gfM b most k t p l).1=0 then some (.inl ((gfM b most k t p l).2.1.1,(gfM b most k t p l).2.1.2,m',b',q',(gfM b most k t p l).2.2,())) else some (.inr ([],t0,(gfM b most k t p l).1,())))
  | 0,t,p,l,hk,hle=>by
    have h1:¬ (p:Int)<(b.length:Int):=by omega
    rw [H5];simp only [A1n,A1 h1,A3];exact ⟨_,_,_,rfl⟩
  | k+1,t,p,l,hk,hle=>by
    have htl:=A6t ht0;rw [H5];unfold gfM;by_cases h1:p<b.length
    · obtain ⟨c,t',q,l',e,hc,hz⟩:=F09 hb hl most hmost t p l hk h1
      have e':A1R ((t.1,t.2),most,b,(p:Int),l)=some (c,(t',most,b,q,l'),()):=e;have hf:∀ {R:Type} (K:Int×Unit->Option R),A5 (bif (decide (c=0)) then bif (decide ((l'.length:Int)>100)) then some (4,()) else some (c,()) else some (c,())) K=K (E3N c l',()):=fun K=>by
        unfold E3N;by_cases h:c=0
        · subst h
          rw [A0 rfl,A7 rfl];by_cases h2:(l'.length:Int)>100
          · rw [A0 h2,A7 h2];rfl
          · rw [A1 h2,A4 h2];rfl
        · rw [A1 h,A4 h];rfl
      simp only [A1n,A0 (show (p:Int)<(b.length:Int) by omega),A8,e',bO,hf,hc];rw [A7 h1];by_cases h2:(B4s b most t p l).1=0
      · obtain ⟨z1,z2,z3⟩:=hz h2
        subst z1 z2 z3;rw [A7 h2,A0 h2];have hk2:=D93 hmost.2 hk h2;exact D7s hb hl most hmost ht0 k _ _ _ hk2.1 (by omega)
      · rw [A4 h2,A1 h2]
        simp only [J3,A8,B0c t0 (by omega),bO,A4 h2];exact ⟨0,[],0,trivial⟩
    · have h1':¬ (p:Int)<(b.length:Int):=by omega
      rw [A4 h1];simp only [A1n,A1 h1',A3];exact ⟨_,_,_,rfl⟩
theorem D4r{t:D3}(ht:A07 t){b:List Int}(hb:Byt b)(hl:b.length<=500000000){most:Int}(hmost:0<=most/\most<=4096):A4q t most b=some (P1 t most b):=by
  have htl:=A6t ht;obtain ⟨m',b',q',e⟩:=D7s hb hl most hmost ht b.length t 0 [] ⟨ht,by omega,by simp,fun f hf=>by cases hf⟩ (by omega);rw [show ((0:Nat):Int)=0 from rfl] at e;simp only [A4q,A91,V6,A0 hmost,F2J ht,B0c t (by omega),bO,C3,A3,bSl,e];unfold P1;by_cases h:(gfM b most b.length t 0 []).1=0
  · have hk:=E39 hmost.2 b.length t 0 [] ⟨ht,by omega,by simp,fun f hf=>by cases hf⟩ h
    rw [A7 h,A7 h];simp only [bSl];rw [E5d (by simp;omega)];rfl
  · rw [A4 h,A4 h]
    rfl
set_option maxRecDepth 100000
theorem C7C(l:List B2)(name:X0)(hl:l.length<=1000000):A31 l name=some ((V0 l name l.length:Int),()):=by
  have e:=O3 (B1K l name) (fun k=>((V0 l name k:Int),(k:Int),())) l.length ((V0 l name l.length:Int),()) (fun k hk=>by
    have h1:(k:Int)<(l.length:Int):=by omega
    have h2:(0:Int)<=(k:Int):=by omega
    have h3:=D94 l name k;have w1:i64.wrap ((k:Int)+1)=((k+1:Nat):Int):=by rw [w64 (by omega) (by omega)];omega
    have w2:i64.wrap ((V0 l name k:Int)+1)=((V0 l name k+1:Nat):Int):=by rw [w64 (by omega) (by omega)];omega
    simp only [B1K,A0 h1,A0 h2,A8,w1,w2,V0];rw [show (rd C1 l (k:Int)).1=nmA l k from rfl];cases hq:((nmA l k).toList == name.toList) with
    | false=>simp only [A3,I6,K7,K6]
    | true=>simp only [A8,L4]) (by
    have h1:¬ ((l.length:Nat):Int)<(l.length:Int):=by omega
    simp only [B1K,A1 h1,A3])
  simp only [A31,C1f];exact e
theorem F1q{l:List B2}{j k:Nat}(h:j<k):rd C1 (l.take k) (j:Int)=rd C1 l (j:Int):=by
  simp [rd,List.getD,K8,h]
theorem D7t(l:List B2)(name:X0)(k:Nat):∀ j,j<=k->V0 (l.take k) name j=V0 l name j
  | 0,_=>rfl
  | j+1,h=>by
    have e:nmA (l.take k) j=nmA l j:=by unfold nmA;rw [F1q (by omega)]
    simp only [V0,D7t l name k j (by omega),e]
theorem D0G(l:List B2)(name:X0):∀ n k,k<=n->V0 l name k<=V0 l name n
  | 0,k,h=>by rw [show k=0 by omega];exact B6 _
  | n+1,k,h=>by
    by_cases e:k=n+1
    · rw [e];exact B6 _
    · have:=D0G l name n k (by omega)
      have h2:V0 l name n<=V0 l name (n+1):=by rw [V0];omega
      omega
theorem D7u(l:List B2)(name:X0):∀ n,V0 l name n=0->A1h l name n=⟨#[]⟩
  | 0,_=>rfl
  | n+1,h=>by
    unfold V0 at h;unfold A1h;by_cases hq:((nmA l n).toList == name.toList)=true
    · rw [A7 hq] at h;omega
    · rw [A4 hq]
      exact D7u l name n (by omega)
theorem D4s(l:List B2)(name:X0){i:Nat}(h0:V0 l name i=0)(hi:((nmA l i).toList == name.toList)=true):∀ n,i<n->A1h l name n=(rd C1 l (i:Int)).2
  | 0,h=>by omega
  | n+1,h=>by
    unfold A1h;by_cases e:n=i
    · subst e
      rw [A7 hi,A7 h0]
    · have ih:=D4s l name h0 hi n (by omega)
      have hc:1<=V0 l name n:=by
        have h1:=D0G l name n (i+1) (by omega);have h2:V0 l name (i+1)=V0 l name i+1:=by rw [V0,A7 hi]
        omega
      by_cases hq:((nmA l n).toList == name.toList)=true
      · rw [A7 hq,A4 (by omega)];exact ih
      · rw [A4 hq];exact ih
theorem C8v(l:List B2)(name:X0)(hl:l.length<=1000000):∀ k i,i+k=l.length->V0 l name i=0->G1 (B1L l name) ((i:Int),())=some (A1h l name l.length,())
  | 0,i,h,h0=>by
    have h1:¬ (i:Int)<(l.length:Int):=by omega
    rw [H5];simp only [B1L,A1 h1,A3];rw [<- h,K6,D7u l name i h0]
  | k+1,i,h,h0=>by
    have h1:(i:Int)<(l.length:Int):=by omega
    have h2:(0:Int)<=(i:Int):=by omega
    have w1:i64.wrap ((i:Int)+1)=((i+1:Nat):Int):=by rw [w64 (by omega) (by omega)];omega
    rw [H5];simp only [B1L,A0 h1,A0 h2,A8,w1];rw [show (rd C1 l (i:Int)).1=nmA l i from rfl];cases hq:((nmA l i).toList == name.toList) with
    | true=>
      rw [D4s l name h0 hq l.length (by omega)];rfl
    | false=>
      simp only [A3];exact C8v l name hl k (i+1) (by omega) (by rw [V0,hq,h0];simp)
theorem C7D(l:List B2)(name:X0)(hl:l.length<=1000000):A84 l name=some (A1h l name l.length,()):=by
  have e:=C8v l name hl l.length 0 (by omega) rfl;simp only [A84,C1g];exact e
def E5e(l:List B2)(k:Nat):Bool:=C8m (nmA l k)&&(bif decide (bt (nmA l k) 0=58) then !plN l k&&C7A (nmA l k)&&decide (V0 l (nmA l k) k=0) else true)
theorem D7v(l:List B2):(∀ k,k<l.length->E5e l k=true)↔(∀ k,k<l.length->C30 l k=true):=by
  have hparts:∀ (P:Prop) [Decidable P] (k:Nat),(C8m (nmA l k)&&(bif decide (bt (nmA l k) 0=58) then !plN l k&&C7A (nmA l k)&&decide P else true))=true↔C8m (nmA l k)=true/\(bt (nmA l k) 0=58->plN l k=false/\C7A (nmA l k)=true/\P):=fun P _ k=>by
    by_cases h58:bt (nmA l k) 0=58
    · rw [A0 h58]
      simp [h58,and_assoc]
    · rw [A1 h58]
      simp [h58]
  constructor
  · intro h k hk
    have hk1:=(hparts _ k).1 (h k hk);refine (hparts _ k).2 ⟨hk1.1,fun h58=>⟨(hk1.2 h58).1,(hk1.2 h58).2.1,?_⟩⟩;have key:∀ j,j<=l.length->V0 l (nmA l k) j<=1:=by
      intro j
      induction j with
      | zero=>intro _;simp [V0]
      | succ j ih=>
        intro hj;unfold V0;by_cases hq:((nmA l j).toList == (nmA l k).toList)=true
        · have e:nmA l j=nmA l k:=C8b (by simpa using hq)
          have hj1:=((hparts _ j).1 (h j hj)).2 (by rw [e];exact h58);have h0:=hj1.2.2;rw [e] at h0;rw [A7 hq,h0];omega
        · rw [A4 hq]
          exact ih (by omega)
    exact key l.length (B6 _)
  · intro h k hk
    have hk1:=(hparts _ k).1 (h k hk);refine (hparts _ k).2 ⟨hk1.1,fun h58=>⟨(hk1.2 h58).1,(hk1.2 h58).2.1,?_⟩⟩;have h1:=(hk1.2 h58).2.2;have h2:=D0G l (nmA l k) l.length (k+1) hk;have h3:V0 l (nmA l k) (k+1)=V0 l (nmA l k) k+1:=by rw [V0,A7 (by simp)]
    omega
theorem F30(s:X0)(h:s.size<=1000000000)(l:List B2)(l0:Bool×Int×Unit)(e:(rd C1 l l0.2.1).1=s) :
    G1 (A6L M9 l l0) (0,())=some (if (List.range s.size).all (fun i=>!C5b s i)=true then .inl () else .inr (.inr (.inr (false,())))):=by
  obtain ⟨i,h1,h2,h3,h4⟩:=A4h (A6L M9 l l0) (fun i=>((i:Int),())) s.size (fun i=>if i<s.size then .inr (.inr (.inr (false,()))) else .inl ()) (fun i=>!C5b s i) (fun i hi=>by
    have a1:(i:Int)<(s.size:Int):=by omega
    have a2:(0:Int)<=(i:Int):=by omega
    have w1:i64.wrap ((i:Int)+1)=((i+1:Nat):Int):=by rw [w64 (by omega) (by omega)];omega
    have ec:decide (65<=bt s (i:Int)/\bt s (i:Int)<=90)=C5b s i:=by unfold C5b;rw [Bool.decide_and]
    simp only [A6L,e,A0 a1,A0 a2,A8,w1,E2t,V6,bO,ec,A7 hi];cases C5b s i<;>rfl) (by
    have a1:¬ (s.size:Int)<(s.size:Int):=by omega
    simp only [A6L,e,A1 a1,A3,A27,K7])
  have h4':G1 (A6L M9 l l0) (0,())=some (if i<s.size then .inr (.inr (.inr (false,()))) else .inl ()):=h4;rw [h4'];by_cases hi:i<s.size
  · have:¬ (List.range s.size).all (fun i=>!C5b s i)=true:=by
      rw [Bool.not_eq_true,A4Q];exact ⟨i,P7.2 hi,by simp [h3 hi]⟩
    rw [A7 hi,A4 this]
  · have:(List.range s.size).all (fun i=>!C5b s i)=true:=by
      rw [C6];intro j hj;exact h2 j (by have:=P7.1 hj;omega)
    rw [A4 hi,A7 this]
theorem E1T(l:List B2)(hl:l.length<=1000000)(hn:∀ f∈l,f.1.size<=1000000000)(k:Nat)(hk:k<l.length) :
    A6M A31 M9 l (plN l k,(k:Int),())=if E5e l k then some (.inl (plN l (k+1),((k+1:Nat):Int),())) else some (.inr (.inr (false,()))):=by
  have h1:(k:Int)<(l.length:Int):=by omega
  have h2:(0:Int)<=(k:Int):=by omega
  have h3:(k:Int)<=(l.length:Int):=by omega
  have w1:i64.wrap ((k:Int)+1)=((k+1:Nat):Int):=by rw [w64 (by omega) (by omega)];omega
  have hz:(nmA l k).size<=1000000000:=by
    have e:rd C1 l (k:Int)=l[k]:=A6d (k:=C1) hk;unfold nmA;rw [e];exact hn _ (F2 hk)
  have hcap:=F30 (nmA l k) hz l (plN l k,(k:Int),()) rfl;have hcnt:A31 ((l.take k).drop 0) (nmA l k)=some ((V0 l (nmA l k) k:Int),()):=by
    rw [P6,C7C _ _ (by rw [B5];omega),B5,A0h (by omega),D7t l _ k k (B6 _)]
  simp only [A6M,A0 h1,A0 h2,A0 h3,A8,w1,E5];rw [show (rd C1 l (k:Int)).1=nmA l k from rfl,hcap,hcnt];unfold E5e;have hname:C8m (nmA l k)=((List.range (nmA l k).size).all (fun i=>!C5b (nmA l k) i)&&!((nmA l k).toList == (⟨#[]⟩:X0).toList)):=rfl;cases hem:((nmA l k).toList == (⟨#[]⟩:X0).toList) with
  | true=>
    rw [hname,hem];simp
  | false=>
    have h0:=D4f (s:=nmA l k) (by rw [hem];rfl);rw [hname,hem];cases (List.range (nmA l k).size).all (fun i=>!C5b (nmA l k) i) with
    | false=>rfl
    | true=>
      rw [A0 (show (0:Int)<((nmA l k).size:Int) by omega)];simp only [L4,H8,A8,A3,J3,C6P,J5,plN];by_cases h58:bt (nmA l k) 0=58
      · rw [A0 h58]
        simp only [C3,A3,A8,Bool.or_false,bO];cases plN l k with
        | true=>rfl
        | false=>
          unfold C7A;have hd:decide ((V0 l (nmA l k) k:Int)>0)=!decide (V0 l (nmA l k) k=0):=by
            by_cases h:V0 l (nmA l k) k=0
            · rw [A0 h,A1 (by omega)];rfl
            · rw [A1 h,A0 (by omega)];rfl
          rw [hd];cases ((nmA l k).toList == nM.toList)<;>cases ((nmA l k).toList == nS.toList)<;>cases ((nmA l k).toList == nP.toList)<;>cases ((nmA l k).toList == nA.toList)<;>cases decide (V0 l (nmA l k) k=0)<;>rfl
      · rw [A1 h58]
        simp
theorem C7E{l:List B2}(h:∀ k,k<l.length->C30 l k=true){name:X0}(h58:bt name 0=58):V0 l name l.length<=1:=by
  by_cases h0:V0 l name l.length=0
  · omega
  have:∃ k,k<l.length/\nmA l k=name:=by
    have key:∀ n,n<=l.length->V0 l name n≠0->∃ k,k<l.length/\nmA l k=name:=by
      intro n
      induction n with
      | zero=>intro _ h;exact absurd rfl h
      | succ n ih=>
        intro hn hne;by_cases hq:((nmA l n).toList == name.toList)=true
        · exact ⟨n,hn,C8b (by simpa using hq)⟩
        · unfold V0 at hne
          rw [A4 hq] at hne;exact ih (by omega) hne
    exact key _ (B6 _) h0
  obtain ⟨k,hk,e⟩:=this;have h1:=h k hk;unfold C30 at h1;rw [e,A0 h58] at h1;simp at h1;omega
theorem E7C(l:List B2)(hl:l.length<=1000000)(hn:∀ f∈l,f.1.size<=1000000000):B84 l=some (D4g l,()):=by
  simp only [B84,C3w];obtain ⟨i,h1,h2,h3,h4⟩:=A4h (A6M A31 M9 l) (fun i=>(plN l i,(i:Int),())) l.length (fun i=>if i<l.length then .inr (false,()) else .inl ()) (E5e l) (fun i hi=>by
    simp only [A7 hi];exact E1T l hl hn i hi) (by
    have h1:¬ ((l.length:Nat):Int)<(l.length:Int):=by omega
    simp only [A27,K7,A6M,A1 h1,A3])
  have h4':G1 (A6M A31 M9 l) (false,0,())=some (if i<l.length then .inr (false,()) else .inl ()):=h4;rw [h4'];unfold D4g;by_cases hi:i<l.length
  · rw [A7 hi]
    have:(List.range l.length).all (C30 l)=false:=by
      cases hA:(List.range l.length).all (C30 l) with
      | false=>rfl
      | true=>
        have hall:=(D7v l).2 fun k hk=>C6.1 hA k (P7.2 hk)
        have:=h3 hi;rw [hall i hi] at this;cases this
    simp [H8,this]
  · rw [A4 hi]
    have hF:=(D7v l).1 fun k hk=>h2 k (by omega)
    have:(List.range l.length).all (C30 l)=true:=by
      rw [C6];intro j hj;exact hF j (P7.1 hj)
    have c1:=C7E hF (name:=nM) (by kernel_rfl);have c2:=C7E hF (name:=nS) (by kernel_rfl);have c3:=C7E hF (name:=nP) (by kernel_rfl);have hd:∀ n:Nat,n<=1->decide ((n:Int)=1)=decide (1<=n):=fun n h=>by
      by_cases q:1<=n
      · rw [A0 q,A0 (by omega)]
      · rw [A1 q,A1 (by omega)]
    simp only [H8,this,J5,C7C l _ hl,bO,hd _ c1,hd _ c2,hd _ c3];cases decide (1<=V0 l nM l.length)<;>cases decide (1<=V0 l nS l.length)<;>rfl
set_option maxRecDepth 100000
theorem E1U(a b:X0):bytesOf (a++b)=bytesOf a++bytesOf b:=by
  unfold bytesOf;rw [C3J,A51,A6A]
theorem C4N{s:X0}{k:Nat}(h:k<(bytesOf s).length):(bytesOf s)[k]=bt s (k:Int):=by
  have hl:=bytesOf_length s;have h2:k<s.data.toList.length:=by rw [hl] at h;exact h
  have hc:bytesOf s=s.data.toList.map fun b=>(b.toNat:Int):=rfl
  rw [C7q hc h];unfold bt;simp [List.getD,C5 h2]
theorem A9j{n:Nat}(h:n<10):bytesOf (itB (n:Int)) = [48+(n:Int)]:=by
  rw [D07 (by omega) (by omega),w64 (by omega) (by omega),show u8.wrap (48+(n:Int))=48+(n:Int) by rw [show 48+(n:Int)=((48+n:Nat):Int) by omega];exact D1h (by omega)];exact C67 fun x hx=>by rcases B0.1 hx with rfl;omega
theorem C6D{n:Nat}(h:¬ n<10):bytesOf (itB (n:Int))=bytesOf (itB ((n / 10:Nat):Int)) ++ [48+((n % 10:Nat):Int)]:=by
  rw [D8o (by omega),E1U,show (n:Int) / 10=((n / 10:Nat):Int) by omega,show (n:Int) % 10=((n % 10:Nat):Int) by omega,w64 (by omega) (by omega),show u8.wrap (48+((n % 10:Nat):Int))=48+((n % 10:Nat):Int) by rw [show 48+((n % 10:Nat):Int)=((48+n % 10:Nat):Int) by omega];exact D1h (by omega)];rw [C67 fun x hx=>by rcases B0.1 hx with rfl;omega]
theorem E5f:∀ (m n:Nat),n<10 ^ (m+1)->(bytesOf (itB (n:Int))).length<=m+1
  | 0,n,h=>by rw [A9j (by omega)];simp
  | m+1,n,h=>by
    by_cases hn:n<10
    · rw [A9j hn];simp
    · rw [C6D hn,A6,G7]
      have:=E5f m (n / 10) (by rw [A5v] at h;omega);omega
theorem D9E{s:X0}{j:Nat}(h:B7S s j=true):48<=bt s (j:Int)/\bt s (j:Int)<=57:=by
  simpa only [B7S,B4,H3] using h
theorem D7w{s:X0}(hd:∀ j,j<s.size->B7S s j=true)(h0:bt s 0≠48):∀ k,k+1<=s.size->1<=A3T s (k+1)/\bytesOf (itB (A3T s (k+1):Int))=(bytesOf s).take (k+1)
  | 0,h=>by
    have d:=D9E (hd 0 (by omega));have hl:=bytesOf_length s;have hn:A3T s 1=(bt s 0-48).toNat:=by simp [A3T]
    rw [show ((0:Nat):Int)=0 from rfl] at d;have e1:(bytesOf s).take 1 = [bt s 0]:=by
      rw [H6 (by omega),C4N];rfl
    rw [hn,A9j (by omega),e1];refine ⟨by omega,?_⟩
    congr 1
    omega
  | k+1,h=>by
    have d:=D9E (hd (k+1) (by omega));have hl:=bytesOf_length s;obtain ⟨i1,i2⟩:=D7w hd h0 k (by omega);have hn:A3T s (k+1+1)=A3T s (k+1)*10+(bt s ((k+1:Nat):Int)-48).toNat:=rfl;have h10:¬ A3T s (k+1+1)<10:=by omega
    refine ⟨by omega,?_⟩;rw [C6D h10,show A3T s (k+1+1) / 10=A3T s (k+1) by omega,i2,H6 (show k+1<(bytesOf s).length by omega),C4N]
    congr 2
    omega
theorem E5g{s:X0}(hd:∀ j,j<s.size->B7S s j=true)(h0:bt s 0=48):∀ k,k+1<=s.size->A3T s (k+1)<10 ^ k
  | 0,h=>by
    have hn:A3T s 1=(bt s 0-48).toNat:=by simp [A3T]
    rw [hn,h0];decide
  | k+1,h=>by
    have d:=D9E (hd (k+1) (by omega));have ih:=E5g hd h0 k (by omega);have hn:A3T s (k+1+1)=A3T s (k+1)*10+(bt s ((k+1:Nat):Int)-48).toNat:=rfl;rw [hn,A5v];omega
theorem D1m{a b:X0}(h:bytesOf a=bytesOf b):a=b:=by rw [<- C68 a,<- C68 b,h]
theorem F0A{s:X0}(hd:∀ j,j<s.size->B7S s j=true)(hs:1<=s.size):((itB (A3T s s.size:Int)).toList == s.toList)=!(decide (1<s.size)&&decide (bt s 0=48)):=by
  have hl:=bytesOf_length s;have good:itB (A3T s s.size:Int)=s->((itB (A3T s s.size:Int)).toList == s.toList)=true:=fun e=>by rw [e];simp
  obtain ⟨k,hk⟩:∃ k,s.size=k+1:=⟨s.size-1,by omega⟩;by_cases h0:bt s 0=48
  · by_cases h1:1<s.size
    · rw [A0 h1,A0 h0]
      have h2:itB (A3T s s.size:Int)≠s:=fun e=>by
        have h3:=E5g hd h0 k (by omega);rw [<- hk] at h3;obtain ⟨m,rfl⟩:∃ m,k=m+1:=⟨k-1,by omega⟩;have h4:=E5f m _ h3;rw [e] at h4;omega
      cases hq:((itB (A3T s s.size:Int)).toList == s.toList) with
      | false=>rfl
      | true=>exact absurd (C8b (by simpa using hq)) h2
    · rw [A1 h1]
      refine good (D1m ?_);have hk0:s.size=1:=by omega
      have hn:A3T s 1=(bt s 0-48).toNat:=by simp [A3T]
      rw [hk0,hn,h0];have e1:bytesOf s = [bt s 0]:=by
        rw [<- A11 (l:=bytesOf s),hl,hk0,H6 (by omega),C4N];rfl
      rw [e1,h0];exact A9j (n:=0) (by omega)
  · rw [A1 h0,B7Q]
    refine good (D1m ?_);have h2:=(D7w hd h0 k (by omega)).2;rw [<- hk] at h2;rw [h2,<- hl,A11]
theorem E1V(s:X0)(most:Int):∃ n,B45 s most=some (n,E1D s most,())/\(E1D s most=true->n=(A3T s s.size:Int)):=by
  simp only [B45,B92,V6,bO];unfold E1D;by_cases hr:1<=(s.size:Int)/\(s.size:Int)<=10
  · rw [A0 hr]
    simp only [C3,A3,J5];obtain ⟨i,h1,h2,h3,h4⟩:=A4h (A64 M9 s) (fun i=>((A3T s i:Int),(i:Int),())) s.size (fun i=>if i<s.size then .inr (0,false,()) else .inl ((A3T s s.size:Int),())) (B7S s) (fun i hi=>by
      have h1:(i:Int)<(s.size:Int):=by omega
      have h2:(0:Int)<=(i:Int):=by omega
      have w1:i64.wrap ((i:Int)+1)=((i+1:Nat):Int):=by rw [w64 (by omega) (by omega)];omega
      have b1:=D7Q s (i:Int);have b2:=C63 s (i:Int);have hn:=D95 s i;have hp:10 ^ i<=10 ^ 10:=A10 (by omega) (by omega);have ed:decide (48<=bt s (i:Int)/\bt s (i:Int)<=57)=B7S s i:=by unfold B7S;rw [Bool.decide_and]
      simp only [A7 hi,A64,A0 h1,A0 h2,A8,w1,E2t,V6,bO,ed];cases hdg:B7S s i with
      | false=>rfl
      | true=>
        have d:=D9E hdg;simp only [C3,A3,L4];have e1:u8.wrap (bt s (i:Int)-48)=bt s (i:Int)-48:=by
          rw [show bt s (i:Int)-48=(((bt s (i:Int)-48).toNat:Nat):Int) by omega];exact D1h (by omega)
        rw [e1,w64 (n:=bt s (i:Int)-48) (by omega) (by omega),w64 (n:=(A3T s i:Int)*10) (by omega) (by omega),w64 (by omega) (by omega),A3T];rw [show (A3T s i:Int)*10+(bt s (i:Int)-48)=((A3T s i*10+(bt s (i:Int)-48).toNat:Nat):Int) by omega]) (by
      have h1:¬ ((s.size:Nat):Int)<(s.size:Int):=by omega
      simp only [A27,K7,A64,A1 h1,A3])
    have h4':G1 (A64 M9 s) (0,0,())=some (if i<s.size then .inr (0,false,()) else .inl ((A3T s s.size:Int),())):=h4;rw [h4'];have hlead:(bif (decide ((s.size:Int)>1)) then bif decide (0<(s.size:Int)) then bif (decide ((bt s 0)=48)) then some (.inr (0,false,())) else some (.inl ()) else none else some (.inl ()))=some (if decide (1<s.size)&&decide (bt s 0=48) then (.inr (0,false,()):Unit⊕(Int×Bool×Unit)) else .inl ()):=by
      rw [A0 (show (0:Int)<(s.size:Int) by omega)];by_cases q:1<s.size
      · rw [A0 (show (s.size:Int)>1 by omega),A0 q]
        cases decide (bt s 0=48)<;>rfl
      · rw [A1 (show ¬ (s.size:Int)>1 by omega),A1 q]
        rfl
    rw [hlead];by_cases hi:i<s.size
    · rw [A7 hi]
      have:(List.range s.size).all (B7S s)=false:=by
        rw [A4Q];exact ⟨i,P7.2 hi,by simp [h3 hi]⟩
      rw [this];cases decide (1<s.size)&&decide (bt s 0=48)<;>exact ⟨_,rfl,fun h=>by cases h⟩
    · rw [A4 hi]
      have hall:∀ j,j<s.size->B7S s j=true:=fun j hj=>h2 j (by omega)
      have ha:(List.range s.size).all (B7S s)=true:=by
        rw [C6];intro j hj;exact hall j (P7.1 hj)
      rw [ha,F0A hall (by omega)];cases hq:decide (1<s.size)&&decide (bt s 0=48) with
      | true=>
        refine ⟨0,?_,fun h=>?_⟩
        · simp [H8]
        · simp at h
      | false=>
        refine ⟨_,?_,fun _=>rfl⟩;simp [H8]
  · rw [A1 hr]
    exact ⟨_,rfl,fun h=>by cases h⟩
def opL(a:X0):Int:=bif ((⟨#[68,69,76,69,84,69]⟩:X0).toList == a.toList) then 6 else bif ((⟨#[71,69,84]⟩:X0).toList == a.toList) then 5 else bif ((⟨#[80,85,84]⟩:X0).toList == a.toList) then 4 else bif ((⟨#[80,65,84,67,72]⟩:X0).toList == a.toList) then 3 else bif ((⟨#[72,69,65,68]⟩:X0).toList == a.toList) then 2 else bif ((⟨#[80,79,83,84]⟩:X0).toList == a.toList) then 1 else 0
theorem F3Q:opL ⟨#[80,79,83,84]⟩=opB ⟨#[80,79,83,84]⟩:=by kernel_rfl
theorem F3R:opL ⟨#[72,69,65,68]⟩=opB ⟨#[72,69,65,68]⟩:=by kernel_rfl
theorem F3S:opL ⟨#[80,65,84,67,72]⟩=opB ⟨#[80,65,84,67,72]⟩:=by kernel_rfl
theorem F3T:opL ⟨#[80,85,84]⟩=opB ⟨#[80,85,84]⟩:=by kernel_rfl
theorem F3U:opL ⟨#[71,69,84]⟩=opB ⟨#[71,69,84]⟩:=by kernel_rfl
theorem F3V:opL ⟨#[68,69,76,69,84,69]⟩=opB ⟨#[68,69,76,69,84,69]⟩:=by kernel_rfl
theorem F31(a:X0):opL a=opB a:=by
  by_cases h1:(⟨#[80,79,83,84]⟩:X0)=a
  · rw [<- h1];exact F3Q
  by_cases h2:(⟨#[72,69,65,68]⟩:X0)=a
  · rw [<- h2];exact F3R
  by_cases h3:(⟨#[80,65,84,67,72]⟩:X0)=a
  · rw [<- h3];exact F3S
  by_cases h4:(⟨#[80,85,84]⟩:X0)=a
  · rw [<- h4];exact F3T
  by_cases h5:(⟨#[71,69,84]⟩:X0)=a
  · rw [<- h5];exact F3U
  by_cases h6:(⟨#[68,69,76,69,84,69]⟩:X0)=a
  · rw [<- h6];exact F3V
  have ne:∀ x:X0,¬ x=a->(x.toList == a.toList)=false:=fun x h=>by
    cases hq:(x.toList == a.toList) with
    | false=>rfl
    | true=>exact absurd (C8b (by simpa using hq)) h
  unfold opL opB;rw [ne _ h1,ne _ h2,ne _ h3,ne _ h4,ne _ h5,ne _ h6];rfl
theorem F1r(l:List B2)(hl:l.length<=1000000):G1 (B4o A4e A84 l) (1,0,(⟨#[]⟩:X0),0,())=some (opB (A1h l nM l.length),(⟨#[]⟩:X0),0,()):=by
  have hv:=C7D l nM hl;have st:∀ (k k2:Int) (lit:X0) (op:Int),1<=k->k<=6->k+1=k2->A4e k=some (lit,())->B4o A4e A84 l (k,op,(⟨#[]⟩:X0),0,())=some (.inl (k2,(bif lit.toList == (A1h l nM l.length).toList then k else op),(⟨#[]⟩:X0),0,())):=fun k k2 lit op h1 h6 hk2 hm=>by
    have w:i64.wrap (k+1)=k2:=by rw [w64 (by omega) (by omega),hk2]
    simp only [B4o,A0 h6,A8,hm,hv,bO,w];cases lit.toList == (A1h l nM l.length).toList<;>rfl
  rw [A5G (st 1 2 ⟨#[80,79,83,84]⟩ _ (by omega) (by omega) (by omega) rfl)];rw [A5G (st 2 3 ⟨#[72,69,65,68]⟩ _ (by omega) (by omega) (by omega) rfl)];rw [A5G (st 3 4 ⟨#[80,65,84,67,72]⟩ _ (by omega) (by omega) (by omega) rfl)];rw [A5G (st 4 5 ⟨#[80,85,84]⟩ _ (by omega) (by omega) (by omega) rfl)];rw [A5G (st 5 6 ⟨#[71,69,84]⟩ _ (by omega) (by omega) (by omega) rfl)];rw [A5G (st 6 7 ⟨#[68,69,76,69,84,69]⟩ _ (by omega) (by omega) (by omega) rfl)];rw [H5];simp only [B4o,show decide ((7:Int)<=6)=false from rfl,A3];exact N6 (fun x=>some (x,(⟨#[]⟩:X0),(0:Int),())) (F31 (A1h l nM l.length))
theorem E7D(op:Int):B0V op=some ((B0h op).1,()):=by
  simp only [B0V,C3v];unfold B0h;by_cases h1:op=1
  · rw [A0 h1,A7 h1];rfl
  rw [A1 h1,A4 h1];by_cases h3:op=3
  · rw [A0 h3,A7 h3];rfl
  rw [A1 h3,A4 h3];by_cases h4:op=4
  · rw [A0 h4,A7 h4];rfl
  · rw [A1 h4,A4 h4];rfl
theorem E7E(op:Int)(h:((B0h op).1.toList == (⟨#[]⟩:X0).toList)=false):A4D op=some ((B0h op).2,()):=by
  simp only [A4D,B4n];unfold B0h at h ⊢;by_cases h1:op=1
  · rw [A0 h1,A7 h1];rfl
  rw [A1 h1,A4 h1];rw [A4 h1] at h;by_cases h3:op=3
  · rw [A0 h3,A7 h3];rfl
  rw [A1 h3,A4 h3];rw [A4 h3] at h;by_cases h4:op=4
  · rw [A0 h4,A7 h4];rfl
  · rw [A4 h4] at h
    simp at h
theorem E3O(l:List B2)(hl:l.length<=1000)(hn:∀ f∈l,f.1.size<=10000/\f.2.size<=10000):C5F l=some ((A5H l).1,(A5H l).2,()):=by
  have hv:=fun name=>D96 hn name l.length (B6 _)
  have hP:=hv nP;have v2:=C7D l nP (by omega);simp only [C5F,C9t,E7C l (by omega) (fun f hf=>by have:=(hn f hf).1;omega),bO];unfold A5H;cases D4g l
  case false=>rfl
  simp only [C3,A3,A8,F1r l (by omega),v2,bO];generalize opB (A1h l nM l.length)=op;by_cases h0:op=0
  · rw [A0 h0,A7 h0];rfl
  rw [A1 h0,A4 h0];simp only [A3];generalize A1h l nP l.length=s at *
  have hid:∀ x:X0,x.size<=10000->B6N x=some (idB x,()):=fun x hx=>E0L x (by simp only [maxLen];omega)
  have hex:(s.extract 4 s.size).size=s.size-4:=by rw [C2q];omega
  unfold C04;by_cases h5:(s.size:Int)<5
  · rw [A0 h5]
    have:((bif decide (4<=s.size)&&((s.extract 0 4).toList == nUp.toList) then (s.extract 4 s.size,true) else (s,false)).2&&idB (bif decide (4<=s.size)&&((s.extract 0 4).toList == nUp.toList) then (s.extract 4 s.size,true) else (s,false)).1)=false:=by
      cases hq:decide (4<=s.size)&&((s.extract 0 4).toList == nUp.toList) with
      | false=>rfl
      | true=>
        simp only [A8,J5,idB];rw [A1 (show ¬ (1<=((s.extract 4 s.size).size:Int)/\((s.extract 4 s.size).size:Int)<=8) by omega),B7Q]
    rw [this];rfl
  rw [A1 h5,A0 (show 4<=s.size by omega),A0 (show (4:Int)<=(s.size:Int) by omega)];simp only [A3,A8,J5];rw [show ((⟨#[47,117,112,47]⟩:X0))=nUp from rfl];cases ((s.extract 0 4).toList == nUp.toList)
  case false=>rfl
  simp only [C3,A3,A8,J5,hid _ (show (s.extract 4 s.size).size<=10000 by omega),bO];cases idB (s.extract 4 s.size)
  case false=>rfl
  simp only [C3,A3,A8,bSl,E7D,bO];cases hnm:((B0h op).1.toList == (⟨#[]⟩:X0).toList)
  case true=>rfl
  obtain ⟨n,hq,hz⟩:=E1V (A1h l (B0h op).1 l.length) (B0h op).2;simp only [J3,A8,A3,C7D l _ (show l.length<=1000000 by omega),E7E op hnm,C7C l _ (show l.length<=1000000 by omega),hq,bO];cases hb:E1D (A1h l (B0h op).1 l.length) (B0h op).2 with
  | false=>
    rw [B7Q];rfl
  | true=>
    rw [hz hb,C6O];by_cases h1:V0 l (B0h op).1 l.length=1
    · rw [A0 (show (V0 l (B0h op).1 l.length:Int)=1 by omega),A0 h1];rfl
    · rw [A1 (show ¬ (V0 l (B0h op).1 l.length:Int)=1 by omega),A1 h1];rfl
set_option maxRecDepth 100000
def E1W(pre:Nat)(inn:List Int)(enc:D3)(r:Int×HM):E8:=if r.1=0 then mkH (pre:Int) inn enc 0 r.2 else bsH enc (B77 pre r.2 r.1)
section
variable (pre:Nat) (inn:List Int) (enc:D3)
theorem D0H(p dead:Int)(m:HM)(f:E2)(h:O0 f=true)(ho:m.out.length<=100000000000000):B4k (mkH p inn enc dead m) f=some (mkH p inn enc dead {m with out:=m.out++R1 f},()):=by
  have hl:=B07 f h;have hb:=D1e h;simp only [B4k,C3r,A6P f (by omega),A7 h,bO];rw [gA (show m.out.length+(R1 f).length<=_ by omega)]
theorem A8I(dead:Int)(m:HM)(code:Int)(ho:m.out.length<=100000000000000):A2A (mkH (pre:Int) inn enc dead m) code=some (bsH enc (B77 pre m code),()):=by
  have e1:=B89 [] m.last 4 (by omega) (by omega) (by simp);have e2:=B89 ([]++big (A6s m.last) 4) code 4 (by omega) (by omega) (by simp [A34]);rw [show ((4:Nat):Int)=4 from rfl] at e1 e2;simp only [F6] at e1 e2;have hf:O0 (7,0,0,big (A6s m.last) 4++big (A6s code) 4)=true:=fok 7 0 0 _ (by omega) (by omega) (by omega) (by simp [A34]);simp only [A2A,C3s,B8u,B8t,e1,e2,bO,F6];rw [D0H inn enc (pre:Int) dead m _ hf ho];rfl
theorem D4t(p dead:Int)(m:HM)(i:Nat)(hi:i<m.strs.length)(hc:m.calls.length<=1000000000)(hs:(sAt m.strs i).2.2.2.length<=1000000):B1G (mkH p inn enc dead m) (i:Int)=some (mkH p inn enc dead (A6e m (sAt m.strs i)),()):=by
  have d1:decide ((0:Int)<=(i:Int))=true:=A0 (by omega);have d2:decide ((i:Int)<(m.strs.length:Int))=true:=A0 (by omega);have e1:(rd H2 m.strs (i:Int))=sAt m.strs i:=rfl;simp only [B1G,C1b,mkH,mkC,d1,d2,A8,e1];unfold A6e;by_cases h:(sAt m.strs i).2.1=2
  · rw [A0 h,A7 h,A8,gA (by simp;omega),D4O (by simp;omega)]
    rfl
  · rw [A1 h,A4 h];rfl
theorem F1s(ev:Int)(h:1<=ev/\ev<=4):stV 2 ev=(2,2):=by
  have:ev=1\/ev=2\/ev=3\/ev=4:=by omega
  obtain ⟨_,_,_,_,a,b,c,d,_⟩:=D99;rcases this with rfl | rfl | rfl | rfl<;>assumption
theorem F1t(ev:Int)(h:1<=ev/\ev<=4):stV 1 ev=(1,1)\/stV 1 ev=(2,0)\/stV 1 ev=(1,0):=by
  have:ev=1\/ev=2\/ev=3\/ev=4:=by omega
  obtain ⟨a,b,c,d,_⟩:=D99;rcases this with rfl | rfl | rfl | rfl
  · exact .inl a
  · exact .inr (.inl b)
  · exact .inr (.inr c)
  · exact .inr (.inl d)
theorem E5h{strs:List A16}{i:Nat}(hi:i<strs.length)(s:A16):sAt (strs.set i s) i=s:=by
  rw [A4u (by rw [A0i];exact hi),A3q]
theorem D4u(m:HM)(i:Nat)(ev:Int)(hi:i<m.strs.length)(hc:m.calls.length<=1000000000)(ho:m.out.length<=100000000000000)(hs:(sAt m.strs i).2.2.2.length<=1000000)(h12:(sAt m.strs i).2.1=1\/(sAt m.strs i).2.1=2)(hev:1<=ev/\ev<=4) :
    B1H (mkH (pre:Int) inn enc 0 m) (i:Int) ev=some (E1W pre inn enc (B1b m i ev),()):=by
  have d1:decide ((0:Int)<=(i:Int))=true:=A0 (by omega);have d2:decide ((i:Int)<(m.strs.length:Int))=true:=A0 (by omega);have e1:(rd H2 m.strs (i:Int))=sAt m.strs i:=rfl;have dies:=fun c=>A8I pre inn enc 0 m c ho
  simp only [mkH,mkC] at dies;have ended:=fun s=>D4t inn enc (pre:Int) 0 (A2g m i s) i (by simp only [A2g,A0i];exact hi) hc
  simp only [A2g,mkH,mkC,E5h hi] at ended;simp only [B1H,C1c,mkH,mkC,d1,d2,A8,e1,E7A,bO,dies];unfold B1b;rcases h12 with h12 | h12
  · rw [h12]
    rcases F1t ev hev with e | e | e
    · rw [e]
      simp only [R8,A8,L4];rfl
    · rw [e]
      simp only [show decide ((0:Int)=1)=false from rfl,show decide ((0:Int)=2)=false from rfl,show decide ((2:Int)=1)=false from rfl,A3,J3,A8,A4 (show ¬ (0:Int)=1 by omega),A4 (show ¬ (0:Int)=2 by omega),E5];rw [ended _ (by simp only;exact hs)];rfl
    · rw [e]
      simp only [show decide ((0:Int)=1)=false from rfl,show decide ((0:Int)=2)=false from rfl,R8,A3,C3,A8,A4 (show ¬ (0:Int)=1 by omega),A4 (show ¬ (0:Int)=2 by omega),E5];unfold A6e;simp only [show ¬ (1:Int)=2 by omega,K7,A2g];rfl
  · rw [h12,F1s ev hev]
    simp only [show decide ((2:Int)=1)=false from rfl,R8,A3,A8,A4 (show ¬ (2:Int)=1 by omega),L4];rfl
theorem D9F(p dead:Int)(m:HM)(id:Int)(hs:C05 m.strs m.last):B2n (mkC p inn enc dead m) id=some (if C3D m.strs id=true then (atM m.strs id:Int) else -1,()):=by
  have hl:=hs.1;obtain ⟨i,has,h1,h2,h3⟩:=at_eq (mkC p inn enc dead m) id (by simp only;omega) (E1N hs);have h4:=C5J p inn enc dead m id (by omega);rw [h3] at h4;simp only [G0,A6W] at h4;rw [h2,h4.2.1];cases hq:C3D m.strs id with
  | false=>rfl
  | true=>simp only [L4,h4.1]
theorem E1a(m:HM)(h:HI m)(hl:HL m)(id:Int)(fin:Bool)(l:List B2)(hll:l.length<=1000)(hn:∀ f∈l,f.1.size<=10000/\f.2.size<=10000) :
    B47 (mkH (pre:Int) inn enc 0 m) id fin l=some (E1W pre inn enc (D0C m id fin l),()):=by
  have hc:=hl.1;have ho:=hl.2;have hsl:=h.strs.1;have dies:=fun c=>A8I pre inn enc 0 m c (by omega)
  simp only [mkH,mkC] at dies;have hcond:∀ {R:Type} (K:Bool×Unit->Option R),A5 (bif (decide ((id.tmod 2)=0)) then some (true,()) else some ((decide (id<=m.last)),())) K=K (decide (id.tmod 2=0\/id<=m.last),()):=fun K=>by
    by_cases q:id.tmod 2=0
    · rw [A0 q,A0 (Or.inl q:id.tmod 2=0\/id<=m.last)];rfl
    · rw [A1 q]
      by_cases q2:id<=m.last
      · rw [A0 q2,A0 (Or.inr q2:id.tmod 2=0\/id<=m.last)];rfl
      · rw [A1 q2,A1 (fun q3:id.tmod 2=0\/id<=m.last=>q3.elim q q2)];rfl
  simp only [B47,B93,mkH,mkC,hcond,dies,bO,E3O l hll hn];unfold D0C;by_cases h1:id.tmod 2=0\/id<=m.last
  · rw [A0 h1,A7 h1];rfl
  rw [A1 h1,A4 h1];by_cases h2:100<=m.strs.length
  · rw [A7 h2,A0 (show (m.strs.length:Int)=100 by omega)];rfl
  rw [A4 h2,A1 (show ¬ (m.strs.length:Int)=100 by omega)];simp only [A3,bSl];by_cases h3:(A5H l).2=0
  · rw [A0 h3,A4 (by simpa using h3)]
    simp only [C3,A3];have hfin:∀ {R:Type} (K:Int×Int×Int×X0×Int×Unit->Option R),A5 (bif fin then some (id,2,(A5H l).1.1,(A5H l).1.2.1,(A5H l).1.2.2,()) else some (id,1,(A5H l).1.1,(A5H l).1.2.1,(A5H l).1.2.2,())) K=K (id,(if fin then 2 else 1),(A5H l).1.1,(A5H l).1.2.1,(A5H l).1.2.2,()):=fun K=>by cases fin<;>rfl
    rw [hfin];simp only [];rw [D4O (by simp;omega)];have e:=D4t inn enc (pre:Int) 0 {m with last:=id,strs:=m.strs ++ [(id,(if fin then 2 else 1),(A5H l).1,[])]} m.strs.length (by simp) hc (by rw [A4u (by simp)];simp);have hsa:sAt (m.strs ++ [(id,(if fin then 2 else 1),(A5H l).1,[])]) m.strs.length=(id,(if fin then 2 else 1),(A5H l).1,[]):=by rw [A4u (by simp)];simp
    simp only [hsa,mkH,mkC] at e;have hw:i64.wrap (((m.strs ++ [((id,(if fin then 2 else 1),((A5H l).1.1,((A5H l).1.2.1,(A5H l).1.2.2)),[]):A16)]).length:Int)-1)=(m.strs.length:Int):=by
      have hls:(m.strs ++ [((id,(if fin then 2 else 1),((A5H l).1.1,((A5H l).1.2.1,(A5H l).1.2.2)),[]):A16)]).length=m.strs.length+1:=by rw [A6,G7]
      rw [hls,w64 (by omega) (by omega)];omega
    rw [hw];rw [show ((A5H l).1.1,((A5H l).1.2.1,(A5H l).1.2.2))=(A5H l).1 from rfl,e];rfl
  · rw [A1 h3,A7 h3]
    simp only [J3,A8];rw [D4O (by simp;omega)];rfl
theorem E3P(m:HM)(h:HI m)(hl:HL m)(id:Int)(fin:Bool)(b:List Int)(hb:Byt b)(hbl:b.length<=100000) :
    A6n (mkH (pre:Int) inn enc 0 m) id fin b=some (E1W pre inn enc (B9A m id fin b),()):=by
  have hc:=hl.1;have ho:=hl.2;have dies:=fun c=>A8I pre inn enc 0 m c (by omega)
  have hg:=D4r h.dec hb (by omega) (most:=4096) (by omega);obtain ⟨k1,k2,k3⟩:=C79 h.dec (most:=4096) (by omega) b;have hm2:HI {m with dec:=(P1 m.dec 4096 b).2.1}:=⟨h.strs,h.last,k1,h.g,h.gb⟩;have hat:=D9F inn enc (pre:Int) 0 {m with dec:=(P1 m.dec 4096 b).2.1} id h.strs;have hbeg:=E1a pre inn enc {m with dec:=(P1 m.dec 4096 b).2.1} hm2 hl id fin (P1 m.dec 4096 b).1 (by omega) k3;simp only [mkH,mkC] at dies hat hbeg;simp only [A6n,B1N,mkH,mkC,hg,bO,dies];unfold B9A;by_cases h1:(P1 m.dec 4096 b).2.2.1=0
  · rw [A0 h1,A4 (by simpa using h1)]
    simp only [C3,A3,hat,bO];cases hq:C3D m.strs id with
    | false=>
      simp only [I6,K7,show decide ((-1:Int)<0)=true from rfl,A8,hbeg,bO]
    | true=>
      obtain ⟨a1,a2⟩:=B4D hq;have hs:=h.strs.2.2 _ (F2 a1);rw [<- A4u a1] at hs;unfold D97 at hs;have hmv:=fun ev hev=>D4u pre inn enc {m with dec:=(P1 m.dec 4096 b).2.1} (atM m.strs id) ev a1 hc (by simp only;omega) (by simp only;omega) hs.2.2.2.1 hev
      simp only [mkH,mkC] at hmv;simp only [L4,A1 (show ¬ (atM m.strs id:Int)<0 by omega),A3];cases fin with
      | true=>simp only [A8,hmv 2 (by omega),bO,L4]
      | false=>simp only [A3,hmv 1 (by omega),bO,I6,K7]
  · rw [A1 h1,A7 h1];rfl
end
set_option maxRecDepth 100000
theorem E7F(g:L3)(f:E2):(Q8 g f).2.2=0\/(Q8 g f).2.2=1\/(Q8 g f).2.2=2\/(Q8 g f).2.2=3\/(Q8 g f).2.2=4:=by
  have hB:∀ g2,(B76 f g g2).2.2=0\/(B76 f g g2).2.2=1\/(B76 f g g2).2.2=4:=fun g2=>by
    unfold B76;split
    · exact .inr (.inr rfl)
    · cases A3g f 4
      · exact .inl rfl
      · exact .inr (.inl rfl)
  unfold Q8;cases !decide (fcV f=0)||!B09 g f
  · simp only [A3]
    unfold D7m;split
    · split
      · exact .inr (.inr (.inr (.inl rfl)))
      · rcases hB (f.2.2.1,A3g f 1,(B08 f).1) with h | h | h<;>simp [h]
    · split
      · rcases hB (g.1,g.2.1,g.2.2++f.2.2.2) with h | h | h<;>simp [h]
      · exact .inl rfl
  · exact .inr (.inr (.inl rfl))
theorem E7G{g:L3}{f:E2}(h:(Q8 g f).2.2=1):(if g.1=0 then f.2.2.1 else g.1)=f.2.2.1/\(f.1=1\/f.1=9)/\(g.1=0->f.1=1)/\(g.1≠0->f.1=9):=by
  unfold Q8 at h;cases hq:!decide (fcV f=0)||!B09 g f with
  | true=>rw [hq] at h;cases h
  | false=>
    have hin:B09 g f=true:=by
      cases hi:B09 g f with
      | true=>rfl
      | false=>rw [hi] at hq;simp at hq
    rw [hq] at h;simp only [A3] at h;have h19:f.1=1\/f.1=9:=by
      unfold D7m at h;by_cases h1:f.1=1
      · exact .inl h1
      · rw [A4 h1] at h
        by_cases h9:f.1=9
        · exact .inr h9
        · rw [A4 h9] at h;cases h
    unfold B09 at hin;by_cases hg:g.1=0
    · rw [A7 hg] at hin ⊢
      have:¬ f.1=9:=by simpa using hin
      exact ⟨rfl,h19,fun _=>by omega,fun q=>absurd hg q⟩
    · rw [A4 hg] at hin ⊢
      simp only [B4,H3] at hin;exact ⟨hin.2.symm,h19,fun q=>absurd q hg,fun _=>hin.1⟩
section
variable (pre:Nat) (inn:List Int) (enc:D3)
theorem E7H(m:HM)(h:HI m)(hl:HL m)(f:E2)(hf:FrI f)(hc0:fcV f=0)(hh:m.g.1≠0\/f.1=1\/f.1=9) :
    A86 (mkH (pre:Int) inn enc 0 m) f=some (E1W pre inn enc (C6A m f),()):=by
  have ho:=hl.2;have dies:=fun c=>A8I pre inn enc 0 m c (by omega)
  have hg:GaI m.g:=h.g;have hfd:=C8p hg h.gb hf (by
    by_cases h1:f.1=1
    · exact .inl (D2p hc0 h1)
    · exact .inr h1)
  have hfe:=E79 hg hf;have hm2:HI {m with g:=(Q8 m.g f).1}:=⟨h.strs,h.last,h.dec,hfd.1,hfd.2.1⟩;have hbl:=fun fin=>E3P pre inn enc {m with g:=(Q8 m.g f).1} hm2 hl f.2.2.1 fin (Q8 m.g f).2.1 hfd.2.2.1 (by omega)
  simp only [mkH,mkC] at dies hbl;have hfin:∀ {R:Type} (K:Bool×Unit->Option R),A5 (bif (decide (f.1=1)) then some ((!decide ((Q4 .i64 f.2.1 1)=0)),()) else some (m.g.2.1,())) K=K (bif decide (f.1=1) then A3g f 1 else m.g.2.1,()):=fun K=>by
    cases decide (f.1=1)<;>rfl
  have h23:∀ {R:Type} (c:Int) (K:Bool×Unit->Option R),A5 (bif (decide (c=2)) then some ((decide (c=2)),()) else some ((decide (c=3)),())) K=K (decide (c=2\/c=3),()):=fun c K=>by
    by_cases q:c=2
    · rw [A0 q,A0 (Or.inl q:c=2\/c=3)];rfl
    · rw [A1 q]
      by_cases q2:c=3
      · rw [A0 q2,A0 (Or.inr q2:c=2\/c=3)];rfl
      · rw [A1 q2,A1 (fun q3:c=2\/c=3=>q3.elim q q2)];rfl
  simp only [A86,B2p,mkH,mkC,hfin,hfe,bO,h23,dies];unfold C6A;by_cases c23:(Q8 m.g f).2.2=2\/(Q8 m.g f).2.2=3
  · rw [A0 c23,A7 c23];rfl
  rw [A1 c23,A4 c23];by_cases c4:(Q8 m.g f).2.2=4
  · rw [A0 c4,A7 c4];rfl
  rw [A1 c4,A4 c4];by_cases c0:(Q8 m.g f).2.2=0
  · rw [A0 c0,A4 (by omega)];rfl
  have c1:(Q8 m.g f).2.2=1:=by have:=E7F m.g f;omega
  obtain ⟨k1,k2,k3,k4⟩:=E7G c1;rw [A1 c0,A7 c1];simp only [A3,hbl,bO];have hfn:(bif decide (f.1=1) then A3g f 1 else m.g.2.1)=(if m.g.1=0 then A3g f 1 else m.g.2.1):=by
    by_cases hg0:m.g.1=0
    · rw [A7 hg0,A0 (k3 hg0)];rfl
    · rw [A4 hg0,A1 (by have:=k4 hg0;omega)];rfl
  rw [k1,hfn]
theorem E7I(m:HM)(h:HI m)(hl:HL m)(f:E2)(hf:FrI f):B86 (mkH (pre:Int) inn enc 0 m) f=some (E1W pre inn enc (C4G m f),()):=by
  have hc:=hl.1;have ho:=hl.2;have hn:=hf.n;have hu:=E1F f;have dies:=fun c=>A8I pre inn enc 0 m c (by omega)
  have hat:=D9F inn enc (pre:Int) 0 m f.2.2.1 h.strs;simp only [mkH,mkC] at dies hat;simp only [B86,C40,mkH,mkC,hat,bO,dies,D4q hf];unfold C4G;cases hq:C3D m.strs f.2.2.1 with
  | false=>
    simp only [I6,K7,show decide ((-1:Int)<0)=true from rfl,A8];unfold D4j;by_cases hk:f.2.2.1>m.last
    · rw [A0 hk,A7 hk];rfl
    · rw [A1 hk,A4 hk];rfl
  | true=>
    obtain ⟨a1,a2⟩:=B4D hq;have hs:=h.strs.2.2 _ (F2 a1);rw [<- A4u a1] at hs;unfold D97 at hs;have e1:(rd H2 m.strs (atM m.strs f.2.2.1:Int))=sAt m.strs (atM m.strs f.2.2.1):=rfl;simp only [L4,A1 (show ¬ (atM m.strs f.2.2.1:Int)<0 by omega),A3,e1];cases hun:(B08 f).2 with
    | false=>rfl
    | true=>
      simp only [C3,A3,B0G,K7];rw [A0 (show (0:Int)<=(atM m.strs f.2.2.1:Int) by omega),A0 (show (atM m.strs f.2.2.1:Int)<(m.strs.length:Int) by omega),w64 (n:=((sAt m.strs (atM m.strs f.2.2.1)).2.2.2.length:Int)+((B08 f).1.length:Int)) (by omega) (by omega)];simp only [A8];by_cases h2:((sAt m.strs (atM m.strs f.2.2.1)).2.2.2.length:Int)+((B08 f).1.length:Int)>2000
      · rw [A0 h2,A7 h2];rfl
      · rw [A1 h2,A4 h2]
        simp only [A3,R8,A8];rw [gA (by omega)];simp only [bO,E5];have hsat:=E5h a1 ((sAt m.strs (atM m.strs f.2.2.1)).1,(sAt m.strs (atM m.strs f.2.2.1)).2.1,(sAt m.strs (atM m.strs f.2.2.1)).2.2.1,(sAt m.strs (atM m.strs f.2.2.1)).2.2.2++(B08 f).1);have hmv:=fun ev hev=>D4u pre inn enc (A2g m (atM m.strs f.2.2.1) ((sAt m.strs (atM m.strs f.2.2.1)).1,(sAt m.strs (atM m.strs f.2.2.1)).2.1,(sAt m.strs (atM m.strs f.2.2.1)).2.2.1,(sAt m.strs (atM m.strs f.2.2.1)).2.2.2++(B08 f).1)) (atM m.strs f.2.2.1) ev (by simp only [A2g,A0i];exact a1) hc (by simp only [A2g];omega) (by simp only [A2g,hsat,A6];omega) (by simp only [A2g,hsat];exact hs.2.2.2.1) hev
        simp only [A2g,mkH,mkC] at hmv ⊢;rw [show (!decide (Q4 .i64 f.2.1 1=0))=A3g f 1 from rfl];cases A3g f 1 with
        | true=>simp only [A8,hmv 4 (by omega),bO]
        | false=>simp only [A3,hmv 3 (by omega),bO]
theorem E1b(b:List Int)(hb:Byt b)(hl:b.length<=1000):∃ n,B5t b=some (n,E1H b,()):=by
  have e:=E0R b hb (by omega) 0 4 (by omega);rw [show ((4:Nat):Int)=4 from rfl] at e;simp only [B5t,C1h,e,bO];unfold E1H;cases (A2e b 0 4).2.1<;>cases decide ((b.length:Int)=4)<;>cases decide (Q4 .i64 (A2e b 0 4).1 2147483647=0)<;>exact ⟨_,rfl⟩
theorem E7J(m:HM)(i:Nat)(hi:i<m.strs.length)(hl:m.strs.length<=1000000):A7d (mkH (pre:Int) inn enc 0 m) (i:Int)=some (mkH (pre:Int) inn enc 0 {m with strs:=m.strs.take i++m.strs.drop (i+1)},()):=by
  have d1:decide ((0:Int)<=(i:Int))=true:=A0 (by omega);have d2:decide ((i:Int)<(m.strs.length:Int))=true:=A0 (by omega);have d3:decide (m.strs.length<=1000000000000)=true:=A0 (by omega);have e:A7d (mkH (pre:Int) inn enc 0 m) (i:Int)=bif decide ((0:Int)<=(i:Int)) then bif decide ((i:Int)<(m.strs.length:Int)) then bif decide (m.strs.length<=1000000000000) then some ((((pre:Int),inn,m.g,m.dec,enc,(m.strs.take ((i:Int)).toNat++m.strs.drop (((i:Int)).toNat+1)),m.last,0),m.calls,m.out),()) else none else none else none:=rfl
  rw [e,d1,d2,d3,E5];rfl
theorem E3Q(m:HM)(h:HI m)(hl:HL m)(f:E2)(hf:FrI f)(hg:m.g.1=0)(hc0:fcV f=0)(h1:f.1≠1)(h9:f.1≠9)(h0:f.1≠0) :
    A6p (mkH (pre:Int) inn enc 0 m) f=some (E1W pre inn enc (frM m f),()):=by
  have ho:=hl.2;have hn:=hf.n;have dies:=fun c=>A8I pre inn enc 0 m c (by omega)
  have hat:=D9F inn enc (pre:Int) 0 m f.2.2.1 h.strs;have says4:=D0H inn enc (pre:Int) 0 m (4,1,0,[]) rfl (by omega);have says6:=D0H inn enc (pre:Int) 0 m (6,1,0,f.2.2.2) (fok 6 1 0 _ (by omega) (by omega) (by omega) (by omega)) (by omega);obtain ⟨n,hw⟩:=E1b f.2.2.2 hf.b hn;simp only [mkC] at hat;have hflag:decide (Q4 .i64 f.2.1 1=0)=!A3g f 1:=by unfold A3g;rw [C9W]
  simp only [A6p,B1O,dies,hat,bO,hw,hflag,says4,says6];have hno:¬ (m.g.1≠0\/f.1=1\/f.1=9):=fun q=>q.elim (fun q=>q hg) fun q=>q.elim h1 h9
  have e:frM m f=if f.1=4 then (0,D21 m f []) else if f.1=6 then (0,D21 m f f.2.2.2) else if f.1=5 then (1,m) else if f.1=8 then (if E1H f.2.2.2=true then (0,m) else (1,m))
      else if f.1=0 then C4G m f else if f.1=3 then C1u m f else (0,m):=by
    unfold frM;rw [hc0,A4 (by omega),A4 (by omega),A4 hno]
  rw [e];by_cases c4:f.1=4
  · rw [A0 c4,A7 c4]
    unfold D21;cases A3g f 1
    · simp only [J3,A8,A3,c4];rfl
    · rfl
  rw [A1 c4,A4 c4];by_cases c6:f.1=6
  · rw [A0 c6,A7 c6]
    unfold D21;cases A3g f 1
    · simp only [J3,A8,A3,c6];rfl
    · rfl
  rw [A1 c6,A4 c6];by_cases c5:f.1=5
  · rw [A0 c5,A7 c5];rfl
  rw [A1 c5,A4 c5];by_cases c8:f.1=8
  · rw [A0 c8,A7 c8]
    cases E1H f.2.2.2<;>rfl
  rw [A1 c8,A4 c8,A4 h0];by_cases c3:f.1=3
  · rw [A0 c3,A7 c3]
    unfold C1u;cases hq:C3D m.strs f.2.2.1 with
    | false=>
      simp only [I6,K7,show decide ((-1:Int)>=0)=false from rfl,A8,A3];unfold D4j;by_cases hk:f.2.2.1>m.last
      · rw [A0 hk,A7 hk];rfl
      · rw [A1 hk,A4 hk];rfl
    | true=>
      obtain ⟨a1,a2⟩:=B4D hq;simp only [L4,A0 (show (atM m.strs f.2.2.1:Int)>=0 by omega),A8,E7J pre inn enc m _ a1 (by have:=h.strs.1;omega),bO];rfl
  · rw [A1 c3,A4 c3];rfl
theorem E3R(m:HM)(h:HI m)(hl:HL m)(f:E2)(hf:FrI f):A6r (mkH (pre:Int) inn enc 0 m) f=some (E1W pre inn enc (frM m f),()):=by
  have ho:=hl.2;have hg:=h.g;have dies:=fun c=>A8I pre inn enc 0 m c (by omega)
  simp only [A6r,B1P,C4L,bO,dies];by_cases c2:fcV f=2
  · have e:frM m f=(6,m):=by unfold frM;rw [A7 c2]
    rw [A0 c2,e];rfl
  by_cases c3:fcV f=3
  · have e:frM m f=(1,m):=by unfold frM;rw [A4 c2,A7 c3]
    rw [A1 c2,A0 c3,e];rfl
  have c0:fcV f=0:=by have:=D9A f;omega
  rw [A1 c2,A1 c3];simp only [A3];have hcond:∀ {R:Type} (K:Bool×Unit->Option R),A5 (bif (decide (m.g.1>0)) then some (true,()) else bif (decide (f.1=1)) then some (true,()) else some ((decide (f.1=9)),())) K=K (decide (m.g.1≠0\/f.1=1\/f.1=9),()):=fun K=>by
    have hgs:m.g.1>0↔m.g.1≠0:=by
      rcases hg with ⟨q,_⟩ | ⟨q,_⟩<;>omega
    by_cases q1:m.g.1>0
    · rw [A0 q1,A0 (Or.inl (hgs.1 q1):m.g.1≠0\/f.1=1\/f.1=9)];rfl
    · rw [A1 q1]
      have q1':¬ m.g.1≠0:=fun q=>q1 (hgs.2 q)
      by_cases q2:f.1=1
      · rw [A0 q2,A0 (Or.inr (Or.inl q2):m.g.1≠0\/f.1=1\/f.1=9)];rfl
      · rw [A1 q2]
        by_cases q3:f.1=9
        · rw [A0 q3,A0 (Or.inr (Or.inr q3):m.g.1≠0\/f.1=1\/f.1=9)];rfl
        · rw [A1 q3,A1 (fun q:m.g.1≠0\/f.1=1\/f.1=9=>q.elim q1' fun q=>q.elim q2 q3)];rfl
  have hcond':A5 (bif (decide ((mkH (pre:Int) inn enc 0 m).1.2.2.1.1>0)) then some (true,()) else bif (decide (f.1=1)) then some (true,()) else some ((decide (f.1=9)),()))=fun (K:Bool×Unit->Option (E8×Unit))=>K (decide (m.g.1≠0\/f.1=1\/f.1=9),()):=funext fun K=>hcond K
  rw [hcond'];simp only [];by_cases hh:m.g.1≠0\/f.1=1\/f.1=9
  · have e:frM m f=C6A m f:=by unfold frM;rw [A4 c2,A4 c3,A7 hh]
    rw [A0 hh,e,A8,E7H pre inn enc m h hl f hf c0 hh];rfl
  · rw [A1 hh,A3]
    have hg0:m.g.1=0:=Classical.byContradiction fun q=>hh (.inl q)
    have hn1:f.1≠1:=fun q=>hh (.inr (.inl q))
    have hn9:f.1≠9:=fun q=>hh (.inr (.inr q))
    by_cases h0:f.1=0
    · have e:frM m f=C4G m f:=by
        unfold frM;rw [A4 c2,A4 c3,A4 hh,A4 (by omega),A4 (by omega),A4 (by omega),A4 (by omega),A7 h0]
      rw [A0 h0,e,A8,E7I pre inn enc m h hl f hf];rfl
    · rw [A1 h0,A3,E3Q pre inn enc m h hl f hf hg0 c0 hn1 hn9 h0]
      rfl
end
theorem E7K(enc:D3){st:BS}(h:BI st)(hd:st.dead=0)(hl:HL st.m){x:Int}(hx:0<=x/\x<256):A1s (bsH enc st) x=some (bsH enc (A4G st x),()):=by
  have ho:=hl.2;have hpre:=h.pre;have hil:=C07 h.more;obtain ⟨pre,inn,dead,m⟩:=st;simp only at hd hpre hil hl ho;subst hd;have hm:HI m:=h.hi;unfold A4G;simp only [ne_eq,not_true,K7];by_cases hp:pre<24
  · have dies:=fun c=>A8I pre inn enc 0 m c (by omega)
    have hsz:((⟨#[80,82,73,32,42,32,72,84,84,80,47,50,46,48,13,10,13,10,83,77,13,10,13,10]⟩:X0).size:Int)=24:=rfl;simp only [mkH,mkC] at dies;simp only [A1s,A87,bsH,mkH,mkC,hsz,A0 (show (pre:Int)<24 by omega),A0 (show (0:Int)<=(pre:Int) by omega),A8,dies,bO,w64 (n:=(pre:Int)+1) (by omega) (by omega)];rw [A7 hp];by_cases hq:x=bt priS (pre:Int)
    · rw [A0 hq,A7 hq];rfl
    · rw [A1 hq,A4 hq];rfl
  · rw [A4 hp]
    have hb:Byt (inn ++ [x]):=D4l h.inb hx;have hge:=C46 (inn ++ [x]) hb (by rw [A6,G7];omega) 0 (by omega);obtain ⟨g1,g2⟩:=B0e (b:=inn ++ [x]) (a:=0) (by omega);rw [P6,show ((0:Nat):Int)=0 from rfl] at g1 g2;simp only [A1s,A87,bsH,mkH,mkC,A1 (show ¬ (pre:Int)<24 by omega),A3];rw [gA (by simp;omega),hge];simp only [bO,g1];rcases C06 (inn ++ [x]) with hc | hc | hc
    · have hfr:=C5K hb hc
      rw [hc,A1 (show ¬ ((0:Nat):Int)=2 by omega),A0 (show ((0:Nat):Int)=0 by omega),A4 (by omega),A4 (by omega),(g2 hc).1];have e:=E3R pre [] enc m hm hl (A0D (inn ++ [x])) hfr;simp only [mkH,mkC] at e;simp only [A3,A8,e,bO];unfold E1W;by_cases hz:(frM m (A0D (inn ++ [x]))).1=0
      · rw [A7 hz,A7 hz]
      · rw [A4 hz,A4 hz]
    · rw [hc,A1 (show ¬ ((1:Nat):Int)=2 by omega),A1 (show ¬ ((1:Nat):Int)=0 by omega),A7 rfl]
      rfl
    · rw [hc,A0 (show ((2:Nat):Int)=2 by omega),A4 (by omega),A7 rfl]
      have dies:=A8I pre (inn ++ [x]) enc 0 m 6 (by omega);simp only [mkH,mkC] at dies;simp only [A8,dies,bO]
set_option maxRecDepth 100000
abbrev E1c(enc:D3)(st:BS):Int×Int×Bool×Int×List B2×Int×Int×Int×List Int×List Int×List B2×List A16×List A0j×List Int×Unit:=
  ((st.pre:Int),st.m.g.1,st.m.g.2.1,st.m.dec.1,st.m.dec.2,enc.1,st.m.last,st.dead,st.inn,st.m.g.2.2,enc.2,st.m.strs,st.m.calls,st.m.out,())
theorem D1n(enc:D3)(b:List Int)(hb:Byt b)(hl:b.length<=900000000):∀ (k i:Nat) (st:BS),i+k=b.length->BI st->st.m.calls.length<=i->st.m.out.length<=1200*i->
    G1 (U9 A1s b (true,())) ((i:Int),E1c enc st)=some (E1c enc (Q6 st (b.drop i)))
  | 0,i,st,hi,h,hc,ho=>by
    have h1:¬ (i:Int)<(b.length:Int):=by omega
    rw [H5];simp only [U9,E1c,A1 h1,A3];rw [S7 (by omega)];rfl
  | k+1,i,st,hi,h,hc,ho=>by
    have h1:(i:Int)<(b.length:Int):=by omega
    have h2:(0:Int)<=(i:Int):=by omega
    have w1:i64.wrap ((i:Int)+1)=((i+1:Nat):Int):=by rw [w64 (by omega) (by omega)];omega
    have hx:=hb _ (F2 (show i<b.length by omega));have hr:rd (.int .u8) b (i:Int)=b[i]:=C1m (by omega);have hd:b.drop i=b[i]::b.drop (i+1):=J4 (by omega);rw [H5];by_cases h0:st.dead=0
    · obtain ⟨k1,k2,k3⟩:=D4m h hx
      have e:=E7K enc h h0 ⟨by omega,by omega⟩ hx;have ih:=D1n enc b hb hl k (i+1) (A4G st b[i]) (by omega) k1 (by omega) (by omega);simp only [bsH,mkH,mkC] at e;simp only [U9,E1c,A0 h1,A0 h2,A0 h0,A8,bSl,hr,w1];rw [show (((st.pre:Int),(st.inn,((st.m.g.1,(st.m.g.2.1,st.m.g.2.2)),((st.m.dec.1,st.m.dec.2),((enc.1,enc.2),(st.m.strs,(st.m.last,st.dead))))))),(st.m.calls,st.m.out))=(((st.pre:Int),st.inn,st.m.g,st.m.dec,enc,st.m.strs,st.m.last,st.dead),st.m.calls,st.m.out) from rfl,e];simp only [bO];rw [hd];exact ih
    · simp only [U9,E1c,A0 h1,A1 h0,A8,A3]
      rw [A7K st h0];rfl
theorem F2K{enc:D3}(he:A07 enc){st:BS}(h:BI st):D7c (bsC enc st):=by
  have hsl:=h.hi.strs.1;have hdl:=A6t h.hi.dec;have hel:=A6t he;have hgl:=h.hi.g;have hil:=C07 h.more;exact ⟨by simp only;omega,(by rcases hgl with ⟨_,_,q⟩ | ⟨_,_,q⟩;(simp only [q];simp);(simp only;omega)),by simp only;omega,by simp only;omega,by simp only;omega,fun x hx=>by have:=(h.hi.strs.2.2 x hx).2.2.2.2;omega⟩
theorem B79{enc:D3}(he:A07 enc){st:BS}(h:BI st)(hc:st.m.calls = [])(ho:st.m.out = [])(hok:A1r (bsC enc st)=some (true,())){b:List Int}(hb:Byt b)(hl:b.length<=900000000) :
    Q9 (bsC enc st) b=some (bsC enc (Q6 st b),(Q6 st b).m.calls,(Q6 st b).m.out,()):=by
  have hcp:=D4P (bsC enc st) (F2K he h);have e:=D1n enc b hb hl b.length 0 st (by omega) h (by rw [hc];simp) (by rw [ho];simp);rw [P6,show ((0:Nat):Int)=0 from rfl] at e;obtain ⟨k1,k2,k3⟩:=B6S h hb;rw [hc] at k2;rw [ho] at k3;simp only [I3,E9] at k2 k3;simp only [Q9,A4t,hcp,hok,bO];have e':G1 (U9 A1s b (true,())) (0,(st.pre:Int),st.m.g.1,st.m.g.2.1,st.m.dec.1,st.m.dec.2,enc.1,st.m.last,st.dead,st.inn,st.m.g.2.2,enc.2,st.m.strs,[],[],())=some (E1c enc (Q6 st b)):=by
    have e2:=e;simp only [E1c,hc,ho] at e2;exact e2
  rw [e'];simp only [bO,E1c];rw [D4O (by simp;omega),gA (by simp;omega)];rfl
theorem E3S(c:M7)(hS:D7c c)(hok:A1r c=some (false,()))(b:List Int):Q9 c b=some (c,[],[],()):=by
  have hcp:=D4P c hS;simp only [Q9,A4t,hcp,hok,bO];rw [H5];simp only [U9];cases decide ((0:Int)<(b.length:Int))<;>rfl
theorem E3T(c:M7)(hS:D7c c)(hok:A4S c=some (false,()))(b:List Int):A4U c b=some (c,[],[],()):=by
  have hcp:=D1f c hS;simp only [A4U,B3r,hcp,hok,bO];cases decide (c.2.2.2.2.2.2.2>0)<;>rfl
set_option maxRecDepth 100000
theorem B4t{p:Prop}(h:(some (false,()):Option (Bool×Unit))=some (true,())):p:=by cases h
theorem F0B{c:M7}(h:C2v c=true):C05 c.2.2.2.2.2.1 c.2.2.2.2.2.2.1:=by
  unfold C2v at h;simp only [B4,H3] at h;obtain ⟨h1,h2⟩:=h;have hgo:∀ i,i<c.2.2.2.2.2.1.length->B1V c i=true:=fun i hi=>B8B (B1V c) c.2.2.2.2.2.1.length 0 i (by omega) (by omega)
  have hone:∀ i (hi:i<c.2.2.2.2.2.1.length),D97 c.2.2.2.2.2.2.1 (c.2.2.2.2.2.1[i])/\(0<i->(c.2.2.2.2.2.1[i-1]'(by omega)).1<(c.2.2.2.2.2.1[i]).1):=fun i hi=>by
    have h3:=hgo i hi;unfold B1V at h3;have e:rd H2 c.2.2.2.2.2.1 (i:Int)=c.2.2.2.2.2.1[i]:=A6d (k:=H2) hi;rw [e] at h3;simp only [B4,M3,H3,W4,A2S] at h3;obtain ⟨⟨⟨⟨a1,a2⟩,a3⟩,a4⟩,a5⟩:=h3;refine ⟨⟨a1,a2.1,a2.2,a4,by omega⟩,fun h0=>?_⟩;have e1:rd H2 c.2.2.2.2.2.1 ((i:Int)-1)=c.2.2.2.2.2.1[i-1]'(by omega):=by
      rw [show (i:Int)-1=((i-1:Nat):Int) by omega];exact A6d (k:=H2) (by omega)
    rw [e1] at a3;rcases a3 with a3 | a3
    · omega
    · exact Int.not_le.1 a3
  refine ⟨by omega,?_,fun s hs=>?_⟩
  · rw [B7e]
    intro i j hi hj hij;simp only [C0V];have key:∀ d k (hk:k+d+1<c.2.2.2.2.2.1.length),(c.2.2.2.2.2.1[k]'(by omega)).1<(c.2.2.2.2.2.1[k+d+1]).1:=by
      intro d
      induction d with
      | zero=>
        intro k hk;have:=(hone (k+0+1) hk).2 (by omega);simpa using this
      | succ d ih=>
        intro k hk;have a:=ih k (by omega);have b:=(hone (k+(d+1)+1) hk).2 (by omega);have e:k+(d+1)+1-1=k+d+1:=by omega
        simp only [e] at b;exact Int.lt_trans a b
    simp only [T5] at hi hj;have:=key (j-i-1) i (by omega);have e:i+(j-i-1)+1=j:=by omega
    simp only [e] at this;exact this
  · obtain ⟨i,hi,rfl⟩:=A7U.1 hs
    exact (hone i hi).1
theorem E3U(c:M7)(hin:List.length c.2.1<=1048576)(hst:List.length c.2.2.2.2.2.1<=1048576)(hd:List.length c.2.2.2.1.2<=1048576)(he:List.length c.2.2.2.2.1.2<=1048576)(hb:Byt c.2.1)(hgb:Byt c.2.2.1.2.2)(z1:szT c.2.2.2.1.2<=10000000000000)(z2:szT c.2.2.2.2.1.2<=10000000000000)(hk:A1r c=some (true,())) :
    ∃ enc st,c=bsC enc st/\A07 enc/\BI st/\st.m.calls = []/\st.m.out = []:=by
  obtain ⟨g,hg⟩:=C65 c.2.2.1;obtain ⟨t1,ht1⟩:=B1U c.2.2.2.1 (by simp only [maxLen];omega);obtain ⟨t2,ht2⟩:=B1U c.2.2.2.2.1 (by simp only [maxLen];omega);have e6:=C66 _ hb hin 0 (by omega);have e7:=(B0e (b:=c.2.1) (a:=0) (by omega)).1;rw [P6,show ((0:Nat):Int)=0 from rfl] at e7;simp only [A1r,C1R,hg,ht1,ht2,V6] at hk;rw [D7T c (by simp only [maxLen];omega),e6] at hk;simp only [bO,e7] at hk;cases q1:decide (0<=c.1/\c.1<=24)
  case false=>rw [q1] at hk;exact B4t hk
  rw [q1] at hk;cases g
  case false=>exact B4t hk
  cases t1
  case false=>exact B4t hk
  cases t2
  case false=>exact B4t hk
  cases q2:decide (0<=c.2.2.2.2.2.2.1/\c.2.2.2.2.2.2.1<=2147483647)
  case false=>rw [q2] at hk;exact B4t hk
  rw [q2] at hk;cases q3:C2v c
  case false=>rw [q3] at hk;exact B4t hk
  rw [q3] at hk;cases q4:decide ((c.2.1.length:Int)>1100)
  case true=>rw [q4] at hk;exact B4t hk
  rw [q4] at hk;cases q5:decide (0<=c.2.2.2.2.2.2.2/\c.2.2.2.2.2.2.2<=20)
  case false=>rw [q5] at hk;exact B4t hk
  rw [q5] at hk;simp only [C3,A3,bSl] at hk;cases q6:decide ((codeF c.2.1:Int)=1)
  case false=>rw [q6] at hk;exact B4t hk
  rw [q6] at hk;simp only [C3,A3] at hk;simp only [H3] at q1 q2 q5 q6;have hin0:c.1<24->c.2.1.length=0:=fun h24=>by
    rw [A0 h24] at hk;cases q7:decide ((c.2.1.length:Int)>0)
    case true=>rw [q7] at hk;exact B4t hk
    simp only [A2S] at q7;omega
  have hm:∀ {R:Type} (K:Unit->Option R) (x:R),H8 (bif (decide (c.1<24)) then bif (decide ((c.2.1.length:Int)>0)) then some (.inr x) else some (.inl ()) else some (.inl ())) K=K ():=fun K x=>by
    by_cases h24:c.1<24
    · rw [A0 h24,A1 (show ¬ (c.2.1.length:Int)>0 by have:=hin0 h24;omega)];rfl
    · rw [A1 h24];rfl
  rw [hm] at hk;have hdead:c.2.2.2.2.2.2.2≠0->c.2.1.length=0/\c.2.2.2.2.2.1.length=0/\c.2.2.1.1=0:=fun hne=>by
    rw [A1 hne] at hk;cases q8:decide ((c.2.1.length:Int)=0)
    case false=>rw [q8] at hk;exact B4t hk
    rw [q8] at hk;cases q9:decide ((c.2.2.2.2.2.1.length:Int)=0)
    case false=>rw [q9] at hk;exact B4t hk
    rw [q9] at hk;cases q10:decide (c.2.2.1.1=0)
    case false=>rw [q10] at hk;exact B4t hk
    simp only [H3] at q8 q9 q10;exact ⟨by omega,by omega,q10⟩
  have hgI:GaI c.2.2.1:=by
    simp only [A30,B1C,V6,bO] at hg;by_cases g0:c.2.2.1.1=0
    · rw [A0 g0] at hg
      cases g1:c.2.2.1.2.1
      case true=>rw [g1] at hg;exact B4t hg
      rw [g1] at hg;cases g2:decide ((c.2.2.1.2.2.length:Int)=0)
      case false=>rw [g2] at hg;exact B4t hg
      simp only [H3] at g2;exact .inl ⟨g0,g1,O5.1 (by omega)⟩
    · rw [A1 g0] at hg
      cases g1:decide (1<=c.2.2.1.1/\c.2.2.1.1<=2147483647)
      case false=>rw [g1] at hg;exact B4t hg
      rw [g1] at hg;cases g2:decide ((c.2.2.1.2.2.length:Int)<=3000)
      case false=>rw [g2] at hg;exact B4t hg
      simp only [H3] at g1 g2;exact .inr ⟨g1.1,g1.2,by omega⟩
  refine ⟨c.2.2.2.2.1,⟨c.1.toNat,c.2.1,c.2.2.2.2.2.2.2,⟨c.2.2.1,c.2.2.2.1,c.2.2.2.2.2.1,c.2.2.2.2.2.2.1,[],[]⟩⟩,?_,E36 z2 ht2,?_,rfl,rfl⟩
  · show c=((c.1.toNat:Int),c.2.1,c.2.2.1,c.2.2.2.1,c.2.2.2.2.1,c.2.2.2.2.2.1,c.2.2.2.2.2.2.1,c.2.2.2.2.2.2.2)
    rw [show (c.1.toNat:Int)=c.1 by omega]
  · refine ⟨by simp only;omega,⟨F0B q3,q2,E36 z1 ht1,hgI,hgb⟩,hb,by simp only;omega,fun hq=>?_,fun hne=>?_,q5⟩
    · rcases hq with hq | hq
      · exact O5.1 (hin0 (by simp only at hq;omega))
      · exact O5.1 (hdead hq).1
    · obtain ⟨a,b,d⟩:=hdead hne
      exact ⟨O5.1 b,d⟩
set_option maxRecDepth 100000
def MI(m:HM):Prop:=CI m.calls/\∃ fs,m.out=B0A fs/\∀ f∈fs,O0 f=true/\Byt f.2.2.2
theorem F0C{m m':HM}(h:MI m){f:E2}(h1:O0 f=true)(h2:Byt f.2.2.2)(e1:m'.calls=m.calls)(e2:m'.out=m.out++R1 f):MI m':=by
  obtain ⟨h0,fs,e,h3⟩:=h;refine ⟨e1▸h0,fs ++ [f],by rw [e2,e,C4K];simp [B0A],fun g hg=>?_⟩;rcases D0.1 hg with q | q
  · exact h3 g q
  · rcases B0.1 q with rfl;exact ⟨h1,h2⟩
theorem D80{m:HM}(h:MI m){s:A16}(hs:s.2.2.2.length<=2000):MI (A6e m s):=by
  unfold A6e;split
  · exact ⟨E5c h.1 hs,h.2⟩
  · exact h
theorem E1d{m:HM}(h:MI m){i:Nat}(hs:(sAt m.strs i).2.2.2.length<=2000)(ev:Int):MI (B1b m i ev).2:=by
  unfold B1b;split
  · exact h
  · split
    · exact h
    · exact D80 (m:=A2g m i _) h hs
theorem E7L{m:HM}(hi:HI m)(h:MI m)(id:Int)(fin:Bool)(b:List Int):MI (B9A m id fin b).2:=by
  unfold B9A;split
  · exact h
  · split
    · rename_i hh
      have hlt:=B4D hh;have hst:=(hi.strs.2.2 _ (F2 hlt.1)).2.2.2.2;rw [<- A4u hlt.1] at hst;exact E1d (m:={m with dec:=(P1 m.dec 4096 b).2.1}) h hst _
    · unfold D0C
      split
      · exact h
      · split
        · exact h
        · split
          · exact ⟨E5c h.1 (by simp),h.2⟩
          · exact D80 (m:={m with dec:=(P1 m.dec 4096 b).2.1,last:=id,strs:=m.strs ++ [(id,(if fin then 2 else 1),(A5H (P1 m.dec 4096 b).1).1,[])]}) h (by simp)
theorem F32{m:HM}(hi:HI m)(h:MI m){f:E2}(hf:FrI f):MI (frM m f).2:=by
  have hu:MI (D4j m f).2:=by unfold D4j;split<;>exact h
  have ha:∀ b,f.1=4\/f.1=6->b.length<=1000->Byt b->MI (D21 m f b):=fun b h1 h2 h3=>by
    unfold D21;cases A3g f 1
    · refine F0C (f:=(f.1,1,0,b)) h ?_ h3 rfl rfl
      simp only [O0,B4,H3];omega
    · exact h
  have hr:=D9A f;unfold frM;by_cases c2:fcV f=2
  · rw [A7 c2];exact h
  rw [A4 c2];by_cases c3:fcV f=3
  · rw [A7 c3];exact h
  rw [A4 c3];have hc:fcV f=0:=by omega
  by_cases k:m.g.1≠0\/f.1=1\/f.1=9
  · rw [A7 k]
    have hok:=C8p hi.g hi.gb hf (by by_cases h1:f.1=1;exact .inl (D2p hc h1);exact .inr h1);unfold C6A;split
    · exact h
    · split
      · exact h
      · split
        · exact E7L (m:={m with g:=(Q8 m.g f).1}) ⟨hi.strs,hi.last,hi.dec,hok.1,hok.2.1⟩ h _ _ _
        · exact h
  rw [A4 k];split
  · rename_i h4
    exact ha _ (.inl h4) (by simp) (fun x hx=>by cases hx)
  · split
    · rename_i h6
      exact ha _ (.inr h6) hf.n hf.b
    · split
      · exact h
      · split
        · split<;>exact h
        · split
          · unfold C4G
            split
            · rename_i hh
              have hlt:=B4D hh;split
              · exact h
              · split
                · exact h
                · rename_i hq
                  refine E1d (m:=A2g m _ _) h ?_ _;simp only [A2g];rw [A4u (by simpa using hlt.1),A3q];simp only [A6];omega
            · exact hu
          · split
            · unfold C1u
              split
              · exact h
              · exact hu
            · exact h
theorem D9G{m:HM}(h:MI m)(pre:Nat)(code:Int):MI (B77 pre m code).m:=
  F0C (f:=(7,0,0,big (A6s m.last) 4++big (A6s code) 4)) h (by simp only [O0,A6,A34];rfl) (A1D (D2k _ _) (D2k _ _)) rfl rfl
theorem F0D{st:BS}(h:BI st)(hc:MI st.m){x:Int}(hx:0<=x/\x<256):MI (A4G st x).m:=by
  unfold A4G;split
  · exact hc
  · split
    · split
      · exact hc
      · exact D9G hc _ _
    · rename_i hp
      by_cases c1:codeF (st.inn ++ [x])=1
      · rw [A7 c1];exact hc
      rw [A4 c1];by_cases c2:codeF (st.inn ++ [x])=2
      · rw [A7 c2];exact D9G hc _ _
      rw [A4 c2];have c0:codeF (st.inn ++ [x])=0:=by have:=C06 (st.inn ++ [x]);omega
      have:=F32 h.hi hc (C5K (D4l h.inb hx) c0);split
      · exact this
      · exact D9G this _ _
theorem D81:∀ {b:List Int} {st:BS},BI st->Byt b->MI st.m->MI (Q6 st b).m
  | [],st,h,_,hc=>hc
  | x::b,st,h,hb,hc=>by
    have hx:=hb x B1;exact D81 (st:=A4G st x) (D4m h hx).1 (fun y hy=>hb y (C0 _ hy)) (F0D h hc hx)
theorem E7M{fs:List E2}(i:Nat):(B0A fs).drop (B0A (fs.take i)).length=B0A (fs.drop i):=by
  conv=>lhs;arg 2;rw [<- M0 i fs,C4K]
  exact A2I
theorem E1e:∀ fs:List E2,9*fs.length<=(B0A fs).length
  | []=>by simp
  | f::fs=>by
    have:=E1e fs;simp only [B0A,A6,D1k,F0];omega
theorem E5i:∀ {fs:List E2},(∀ f∈fs,O0 f=true/\Byt f.2.2.2)->Byt (B0A fs)
  | [],_=>fun x hx=>by cases hx
  | f::fs,h=>A1D (B37 (h f B1).2) (E5i fun g hg=>h g (C0 _ hg))
theorem D0I{fs:List E2}(h:∀ f∈fs,O0 f=true/\Byt f.2.2.2)(hl:(B0A fs).length<=1000000000000):A7C (B0A fs)=some (fs,((B0A fs).length:Int),1,()):=by
  have hb:=E5i h;have hm:=E1e fs;have hg:=fun (a:Nat) (ha:a<=(B0A fs).length)=>B1W (B0A fs) hb (by omega) (a:Int) (by omega)
  simp only [A7C,B6n];refine O3 (A7s A2r (B0A fs)) (fun i=>(((B0A (fs.take i)).length:Int),fs.take i,())) fs.length _ (fun i hi=>?_) ?_
  · have hi1:(B0A (fs.take (i+1))).length=(B0A (fs.take i)).length+(R1 fs[i]).length:=by
      rw [H6 hi,C4K];simp [B0A]
    have hle:(B0A (fs.take i)).length<=(B0A fs).length:=by
      conv=>rhs;rw [<- M0 i fs,C4K]
      simp
    have hd:(B0A fs).drop (B0A (fs.take i)).length=R1 fs[i]++B0A (fs.drop (i+1)):=by
      rw [E7M,J4 hi];rfl
    obtain ⟨a1,a2,a3⟩:=E1Q (h _ (F2 hi)).1 (B0A (fs.drop (i+1)));obtain ⟨b1,b2⟩:=B0e hle;rw [hd] at b1 b2;obtain ⟨b3,b4,_⟩:=b2 a1;rw [a1] at b1;rw [a3] at b3;rw [a2,<- hi1] at b4;simp only [A7s,hg _ hle,bO,b1,b3,b4];rw [H6 hi];exact F2t (by simp;omega)
  · obtain ⟨b1,_⟩:=B0e (b:=B0A fs) (a:=(B0A fs).length) (B6 _)
    rw [List.drop_length] at b1;simp only [A7s,A11,hg _ (B6 _),bO,b1];rfl
set_option maxRecDepth 100000
structure XB (c:M7):Prop where
  s:D7c c
  inn:c.2.1.length<=1048576
  strs:c.2.2.2.2.2.1.length<=1048576
  inb:Byt c.2.1
  gb:Byt c.2.2.1.2.2
  dec:szT c.2.2.2.1.2<=100000
  enc:szT c.2.2.2.2.1.2<=100000
theorem D4v{c:M7}(h:XB c):(A1r c=some (false,())/\A4S c=some (false,()))\/(A1r c=some (true,())/\∃ enc st,c=bsC enc st/\A07 enc/\BI st/\st.m.calls = []/\st.m.out = []):=by
  have hd:=A35 c.2.2.2.1.2;have he:=A35 c.2.2.2.2.1.2;have h1:=h.dec;have h2:=h.enc;obtain ⟨r,e1,e2⟩:=E2w c h.inn h.strs (by omega) (by omega) h.inb;cases r with
  | false=>exact .inl ⟨e1,e2⟩
  | true=>exact .inr ⟨e1,E3U c h.inn h.strs (by omega) (by omega) h.inb h.gb (by omega) (by omega) e1⟩
theorem E5j{st:BS}(h:BI st):XB (bsC E1P st):=by
  have h1:=C07 h.more;have h2:=h.hi.strs.1;have h3:=h.hi.dec.2;exact ⟨F2K C8t h,by simp only;omega,by simp only;omega,h.inb,h.hi.gb,by simp only;omega,by simp [E1P,szT]⟩
theorem F0E:A1r (bsC E1P F1p)=some (true,()):=by
  have h:=E5j C1w;have e:=B9B C8t C1w;rcases D4v h with ⟨_,q⟩ | ⟨q,_⟩
  · rw [q] at e;cases e
  · exact q
theorem C7F(c:I4)(hc:Cur c):∃ f c',B0a c=some (f,c',())/\Cur c'/\ofF f<=100:=by
  obtain ⟨x,c1,q1,h1,m1⟩:=D4C c [(⟨#[58,109,101,116,104,111,100]⟩:X0),(⟨#[58,112,97,116,104]⟩:X0),(⟨#[58,115,116,97,116,117,115]⟩:X0),(⟨#[97,103,101]⟩:X0),(⟨#[120,45,97]⟩:X0),(⟨#[97,117,116,104,111,114,105,122,97,116,105,111,110]⟩:X0),(⟨#[117,112,108,111,97,100,45,111,102,102,115,101,116]⟩:X0),(⟨#[99,111,111,107,105,101]⟩:X0)] hc (by simp);obtain ⟨y,c2,q2,h2,m2⟩:=D4C c1 [(⟨#[71,69,84]⟩:X0),(⟨#[47]⟩:X0),(⟨#[50,48,48]⟩:X0),(⟨#[]⟩:X0),(⟨#[55]⟩:X0),(⟨#[97,32,108,111,110,103,32,118,97,108,117,101,32,111,102,32,115,111,109,101,32,98,121,116,101,115]⟩:X0),(⟨#[80,65,84,67,72]⟩:X0)] h1 (by simp);have hx:x.size<=30:=by
    simp only [C2,J9,A1P] at m1;rcases m1 with rfl | rfl | rfl | rfl | rfl | rfl | rfl | rfl<;>decide
  have hy:y.size<=30:=by
    simp only [C2,J9,A1P] at m2;rcases m2 with rfl | rfl | rfl | rfl | rfl | rfl | rfl<;>decide
  simp only [B0a,C44,q1,q2,bO];exact ⟨_,_,rfl,h2,by simp only [ofF];omega⟩
theorem E7N:C5D=A2d:=rfl
theorem E7O(c:I4)(hc:Cur c):∃ t c',A9i c=some (t,c',())/\Cur c'/\A07 t:=by
  obtain ⟨m,c1,q1,h1,hm⟩:=A2n c [200,100,4096,0,60] hc (by simp);obtain ⟨n,c2,q2,h2,n0,n1⟩:=A0m c1 6 h1 (by omega);have hm2:0<=m/\m<=4096:=by
    simp only [C2,J9,A1P] at hm;omega
  simp only [A9i,B5E,q1,q2,bO];obtain ⟨z,e,z1,z2⟩:=B6Q (B1R C5D B0a) (fun l=>l.1.toNat) (fun l=>l.1<=6/\A07 (l.2.1,l.2.2.2.2.2.1)/\Cur (l.2.2.1,l.2.2.2.1,l.2.2.2.2.1)) (fun z=>A07 z.1/\Cur z.2.1) (fun l hl=>by
    obtain ⟨i6,ht,hcu⟩:=hl;obtain ⟨a1,a2,a3,a4,a5,a6,u⟩:=l;simp only at i6 ht hcu;simp only [B1R];by_cases hi:a1>0
    · left
      obtain ⟨f,c3,q3,h3,hf⟩:=C7F _ hcu;obtain ⟨t0,t1,t2⟩:=ht;simp only at t0 t1 t2;obtain ⟨T,_,q4,hT⟩:=E35 (a2,a6) f t0 (by simp only;omega) (by simp only;omega);rw [A0 hi,E7N];simp only [A8,q3,q4,bO];rw [w64 (n:=a1-1) (by omega) (by omega)];exact ⟨_,rfl,⟨by simp only;omega,⟨t0,t1,hT⟩,h3⟩,by simp only;omega⟩
    · right
      rw [A1 hi];exact ⟨_,rfl,ht,hcu⟩) (n,m,c2.1,c2.2.1,c2.2.2,[],()) ⟨by simp only;omega,⟨hm2.1,hm2.2,by simp only [szT];exact hm2.1⟩,h2⟩
  exact ⟨z.1,z.2.1,e,z2,z1⟩
theorem F0F(c:I4)(hc:Cur c):∃ t c',B1T c=some (t,c',())/\Cur c'/\szT t.2<=100000:=by
  obtain ⟨t,c1,q1,h1,t0,t1,t2⟩:=E7O c hc;obtain ⟨k,c2,q2,h2,_⟩:=A0m c1 10 h1 (by omega);simp only [B1T,B71,q1,q2,bO];cases decide (k=0)
  case true=>
    obtain ⟨n,c3,q3,h3,_⟩:=A2n c2 [(-1),4097,10] h2 (by simp);simp only [A8,q3,bO];exact ⟨_,_,rfl,h3,by simp only;omega⟩
  cases decide (k=1)
  case true=>
    obtain ⟨f,c3,q3,h3,hf⟩:=C7F c2 h2;obtain ⟨g,c4,q4,h4,hg⟩:=C7F c3 h3;have hl:=A35 t.2;simp only [A8,A3,q3,q4,bO];rw [E32 (by simp only [F0,I3];omega)];exact ⟨_,_,rfl,h4,by simp only [D2n,szT];omega⟩
  exact ⟨t,c2,rfl,h2,by omega⟩
theorem E3V(c:I4)(hc:Cur c):∃ st c',A33 c=some (bsC E1P st,c',())/\Cur c'/\BI st:=by
  obtain ⟨b,c1,q1,h1,b0,b1,b2⟩:=D4p c hc 5 (by omega);obtain ⟨o,c2,q2,h2⟩:=B6T c1 3 h1 (by omega);simp only [A33,A5i,q1,q2,bO];obtain ⟨b',d,e1,hd,hl,hb⟩:∃ b' d,(bif o then A5 (R6 c2 (b.length:Int)) fun c15=>bif decide (0<=c15.1) then bif decide (c15.1<=(b.length:Int)) then some (c15.2.1.1,c15.2.1.2.1,c15.2.1.2.2,(b.take c15.1.toNat),()) else none else none else some (c2.1,c2.2.1,c2.2.2,b,()))=some (d.1,d.2.1,d.2.2,b',())/\Cur d/\b'.length<=b.length/\Byt b':=by
    cases o
    case false=>exact ⟨b,c2,rfl,h2,B6 _,b2⟩
    obtain ⟨i,c3,q3,h3,i0,i1⟩:=A0m c2 (b.length:Int) h2 (by omega);simp only [A8,q3,bO,A0 i0,A0 (show i<=(b.length:Int) by omega)];exact ⟨_,c3,rfl,h3,by simp;omega,C01 b2 _⟩
  rw [e1];have e2:=B79 C8t C1w rfl rfl F0E hb (by omega);have e3:B4p=some (bsC E1P F1p,()):=rfl;simp only [bO,e3,e2];exact ⟨_,d,rfl,hd,(B6S C1w hb).1⟩
theorem E7P(c:I4)(hc:Cur c):∃ x c',A3n c=some (x,c',())/\Cur c'/\XB x:=by
  obtain ⟨st,c1,q1,h1,hst⟩:=E3V c hc;obtain ⟨k,c2,q2,h2,_⟩:=A0m c1 14 h1 (by omega);have hx:=E5j hst;have hsl:=hst.hi.strs.1;simp only [A3n,A6c,q1,q2,bO];cases decide (k=0)
  case true=>
    obtain ⟨n,c3,q3,h3,_⟩:=A2n c2 [(-1),0,24,25] h2 (by simp);simp only [A8,q3,bO];exact ⟨_,_,rfl,h3,⟨hx.s,hx.inn,hx.strs,hx.inb,hx.gb,hx.dec,hx.enc⟩⟩
  cases decide (k=1)
  case true=>
    obtain ⟨n,c3,q3,h3,_⟩:=A2n c2 [(-1),0,2147483648] h2 (by simp);simp only [A8,A3,q3,bO];exact ⟨_,_,rfl,h3,⟨hx.s,hx.inn,hx.strs,hx.inb,hx.gb,hx.dec,hx.enc⟩⟩
  cases decide (k=2)
  case true=>
    obtain ⟨n,c3,q3,h3,_⟩:=A2n c2 [(-1),1,21] h2 (by simp);simp only [A8,A3,q3,bO];exact ⟨_,_,rfl,h3,⟨hx.s,hx.inn,hx.strs,hx.inb,hx.gb,hx.dec,hx.enc⟩⟩
  cases decide (k=3)
  case true=>
    obtain ⟨t,c3,q3,h3,ht⟩:=F0F c2 h2;have hl:=A35 t.2;obtain ⟨s1,s2,_,s4,s5,s6⟩:=hx.s;simp only [A8,A3,q3,bO];exact ⟨_,_,rfl,h3,⟨⟨s1,s2,by simp only;omega,s4,s5,s6⟩,hx.inn,hx.strs,hx.inb,hx.gb,ht,hx.enc⟩⟩
  cases decide (k=4)
  case true=>
    obtain ⟨n,c3,q3,h3,_⟩:=A2n c2 [2,3,9] h2 (by simp);obtain ⟨j,c4,q4,h4,_⟩:=A0m c3 4 h3 (by omega);obtain ⟨s1,s2,s3,s4,s5,s6⟩:=hx.s;simp only [A8,A3,q3,q4,bO];rw [D4O (by simp only [F0,I3];omega)];refine ⟨_,_,rfl,h4,⟨⟨s1,s2,s3,s4,by simp only [A6,F0,I3];omega,fun x hx=>?_⟩,hx.inn,by simp only [A6,F0,I3];omega,hx.inb,hx.gb,hx.dec,hx.enc⟩⟩;rcases D0.1 hx with q | q
    · exact s6 x q
    · rcases B0.1 q with rfl;simp
  exact ⟨_,c2,rfl,h2,hx⟩
theorem E1f(a:List Int)(ha:a.length<=1048576):∃ x b,A0s a=some (x,b,())/\XB x/\Byt b/\b.length<=800000000:=by
  obtain ⟨c0,q0,h0⟩:=E9M a ha;obtain ⟨b,c1,q1,h1,b0,b1,b2⟩:=D4p c0 h0 5 (by omega);obtain ⟨o,c2,q2,h2⟩:=B6T c1 4 h1 (by omega);have e3:B4p=some (bsC E1P F1p,()):=rfl;simp only [A0s,A5F,q0,q1,q2,bO,e3];obtain ⟨b',d,e1,hd,hl,hb⟩:∃ b' d,(bif o then A5 (R6 c2 (b.length:Int)) fun c20=>A5 (A7I c20.2.1) fun c22=>bif decide (0<=c20.1) then bif decide (c20.1<(b.length:Int)) then some (c22.2.1.1,c22.2.1.2.1,c22.2.1.2.2,(b.set c20.1.toNat (u8.wrap c22.1)),()) else none else none else some (c2.1,c2.2.1,c2.2.2,b,()))=some (d.1,d.2.1,d.2.2,b',())/\Cur d/\b'.length=b.length/\Byt b':=by
    cases o
    case false=>exact ⟨b,c2,rfl,h2,rfl,b2⟩
    obtain ⟨i,c3,q3,h3,i0,i1⟩:=A0m c2 (b.length:Int) h2 (by omega);obtain ⟨x,c4,q4,h4,_⟩:=B6R c3 h3;simp only [A8,q3,q4,bO,A0 i0,A0 i1];exact ⟨_,c4,rfl,h4,by simp,F1o b2 _ (wrap_u8 _)⟩
  rw [e1];simp only [bO,show ((d.1,(d.2.1,d.2.2)):I4)=d from rfl];obtain ⟨o2,c3,q3,h3⟩:=B6T d 2 hd (by omega);rw [q3];simp only [bO];cases o2
  case true=>exact ⟨_,b',rfl,E5j C1w,hb,by omega⟩
  rw [w64 (n:=(b'.length:Int)+1) (by omega) (by omega)];obtain ⟨k,c5,q5,h5,k0,k1⟩:=A0m c3 ((b'.length:Int)+1) h3 (by omega);have hk:k<=(b'.length:Int):=by omega
  have hbt:Byt (b'.take k.toNat):=C01 hb _;have e2:=B79 C8t C1w rfl rfl F0E hbt (by simp;omega);obtain ⟨o3,c6,q6,h6⟩:=B6T c5 10 h5 (by omega);have hdr:∀ n,Byt ((b'.take b'.length).drop n)/\((b'.take b'.length).drop n).length<=800000000:=fun n=>by
    rw [A11];exact ⟨B73 hb _,by simp;omega⟩
  simp only [A3,q5,bO,A0 k0,A0 hk,A8,P6,e2,q6];cases o3
  · exact ⟨_,_,rfl,E5j (B6S C1w hbt).1,hdr _⟩
  · obtain ⟨x,c7,q7,h7,hx⟩:=E7P c6 h6
    simp only [A8,q7,bO];exact ⟨x,_,rfl,hx,hdr _⟩
set_option maxRecDepth 100000
theorem exactHostile(a:List Int):B99 a=some (true,()):=by
  simp only [B99,B98,D2i,D8f,bO];by_cases hbig:(a.length:Int)>1048576
  · rw [A0 hbig];rfl
  rw [A1 hbig];obtain ⟨x,b,q1,hx,hb,hl⟩:=E1f a (by omega);have z1:=C4J [] (by simp) (fun c hc=>by cases hc);have z2:=B78 [] (by simp);simp only [A3,q1,bO];rcases D4v hx with ⟨k1,k2⟩ | ⟨k1,enc,st,rfl,he,h,hc,ho⟩
  · simp only [E3T x hx.s k2 b,E3S x hx.s k1 b,k1,k2,z1,z2,bO,bSl,C3,J3,A8,A3]
    rfl
  have e1:=C4I enc he h hc ho hb (by omega);have e2:=B79 he h hc ho k1 hb (by omega);obtain ⟨m1,m2,m3⟩:=B6S h hb;obtain ⟨n1,fs,n2,n3⟩:=D81 h hb (⟨(by rw [hc];exact fun x hx=>nomatch hx),[],ho,fun x hx=>nomatch hx⟩:MI st.m);rw [hc] at m2;rw [ho] at m3;simp only [I3,E9] at m2 m3;have y1:=C4J (Q6 st b).m.calls (by omega) (fun c hc=>by have:=n1 c hc;omega);have y2:=B78 (Q6 st b).m.out (by simp only [maxLen];omega);have y3:=D0I n3 (by rw [<- n2];omega);rw [<- n2] at y3;have y4:=B9B he m1;obtain ⟨S,hS⟩:∃ S:BS,S=F3O (Q6 st b):=⟨_,rfl⟩;have hSi:BI S:=by rw [hS];exact ⟨m1.pre,⟨m1.hi.strs,m1.hi.last,m1.hi.dec,m1.hi.g,m1.hi.gb⟩,m1.inb,m1.more,m1.emp,m1.gone,m1.dead⟩
  have hC:bsC enc (Q6 st b)=bsC enc S:=by rw [hS]
  have e3:=C4I enc he hSi (by rw [hS]) (by rw [hS]) hb (by omega);rw [<- hC] at e3;have hSd:S.dead=(Q6 st b).dead:=by rw [hS]
  simp only [e1,e2,y1,y2,k1,y3,y4,e3,bO,bSl,C3,A3,R8];by_cases hd:(Q6 st b).dead=0
  · rw [A0 hd]
    rfl
  · rw [A7K S (by rw [hSd];exact hd),A1 hd,show S.m.calls = [] by rw [hS],show S.m.out = [] by rw [hS]]
    simp [hSd]
end Go.Proofs.YthnfghmjipikhaaGreatDoor.Ev
