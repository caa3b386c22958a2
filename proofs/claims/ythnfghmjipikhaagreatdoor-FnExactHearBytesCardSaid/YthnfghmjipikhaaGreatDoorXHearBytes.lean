/- What the plain functions of the program and of the reference answer: laws of plain data. -/
import Derived.Test.YthnfghmjipikhaaGreatDoorXHearBytesa
set_option linter.unusedVariables false
set_option linter.unusedSimpArgs false
set_option linter.unusedSectionVars false
namespace Go.Proofs.YthnfghmjipikhaaGreatDoor.Ev
open IntKind (i64 u8 u64 u32)
set_option maxRecDepth 100000
set_option maxRecDepth 100000
set_option maxRecDepth 100000
set_option maxRecDepth 100000
set_option maxRecDepth 100000
set_option maxRecDepth 100000
set_option maxRecDepth 100000
set_option maxRecDepth 100000
set_option maxRecDepth 100000
set_option maxRecDepth 100000
set_option maxRecDepth 100000
set_option maxRecDepth 100000
set_option maxRecDepth 100000
set_option maxRecDepth 100000
set_option maxRecDepth 100000
set_option maxRecDepth 100000
set_option maxRecDepth 100000
set_option maxRecDepth 100000
section
variable {b:List Int} (hb:Byt b) (hl:b.length<=500000000)
include hb hl
end
set_option maxRecDepth 100000
set_option maxRecDepth 100000
set_option maxRecDepth 100000
set_option maxRecDepth 100000
theorem E75{strs:List F7}{last:Int}(h:B5w strs last)(hl:strs.length<100){s:F7}(h0:last<s.1)(h1:s.1.tmod 2=1)(h2:s.2.1=1\/s.2.1=2)(h3:s.2.2.2.length<=2000)(hp:1<=s.1):B5w (strs ++ [s]) s.1:=by
  obtain ⟨a,b,c⟩:=h;refine ⟨by simp;omega,?_,fun x hx=>?_⟩
  · rw [List.map_append,List.pairwise_append]
    refine ⟨b,by simp,fun x hx y hy=>?_⟩;obtain ⟨t,ht,rfl⟩:=List.mem_map.1 hx;have:=c t ht;simp only [List.map_cons,List.map_nil,List.mem_singleton] at hy;unfold E0s at this;omega
  · rcases List.mem_append.1 hx with q | q
    · have:=c x q
      unfold E0s at this ⊢;omega
    · rcases List.mem_singleton.1 q with rfl
      exact ⟨h1,hp,by omega,h2,h3⟩
theorem F1p{strs:List F7}{last:Int}(h:B5w strs last)(i:Nat):B5w (strs.take i++strs.drop (i+1)) last:=by
  obtain ⟨a,b,c⟩:=h;have hs:(strs.take i++strs.drop (i+1)).Sublist strs:=by
    rw [<- List.eraseIdx_eq_take_drop_succ];exact List.eraseIdx_sublist strs i
  exact ⟨Nat.le_trans hs.length_le a,b.sublist (hs.map _),fun x hx=>c x (hs.subset hx)⟩
theorem E76{strs:List F7}{last last':Int}(h:B5w strs last)(hl:last<=last'):B5w strs last':=by
  obtain ⟨a,b,c⟩:=h;refine ⟨a,b,fun x hx=>?_⟩;have:=c x hx;unfold E0s at this ⊢;omega
theorem F1q(last:Int):B5w [] last:=⟨by simp,by simp,fun x hx=>by cases hx⟩
def atM(strs:List F7)(id:Int):Nat:=A1f (fun j=>decide ((sAt strs j).1<id)) 0 strs.length
def B9B(strs:List F7)(id:Int):Bool:=decide (atM strs id<strs.length)&&decide ((sAt strs (atM strs id)).1=id)
theorem C1h(pre:Int)(inn:List Int)(enc:B2)(dead:Int)(m:HM)(id:Int)(h:m.strs.length<=2000000) :
    S1 (mkC pre inn enc dead m) id=some ((atM m.strs id:Int),B9B m.strs id,mkC pre inn enc dead m,()):=by
  obtain ⟨i,h1,h2,h3,h4⟩:=str_eq (mkC pre inn enc dead m) id h;have e:atM m.strs id=i:=C9n _ _ i h1 (fun j hj=>A0 (h2 j hj)) (fun hi=>A1 (h3 hi));rw [h4,B9B,e];rfl
theorem A9U{strs:List F7}{id:Int}(h:B9B strs id=true):atM strs id<strs.length/\(sAt strs (atM strs id)).1=id:=by
  unfold B9B at h;simpa using h
def A3O(m:HM)(s:F7):HM:=if s.2.1=2 then {m with calls:=m.calls ++ [(s.1,s.2.2.1,s.2.2.2,0)]} else m
def A07(m:HM)(i:Nat)(s:F7):HM:={m with strs:=m.strs.set i s}
noncomputable def A7t(m:HM)(i:Nat)(ev:Int):Int×HM:=
  if (stV (sAt m.strs i).2.1 ev).2=1 then (1,m) else if (stV (sAt m.strs i).2.1 ev).2=2 then (5,m)
  else (0,A3O (A07 m i ((sAt m.strs i).1,(stV (sAt m.strs i).2.1 ev).1,(sAt m.strs i).2.2)) ((sAt m.strs i).1,(stV (sAt m.strs i).2.1 ev).1,(sAt m.strs i).2.2))
structure HI (m:HM):Prop where
  strs:B5w m.strs m.last
  last:0<=m.last/\m.last<=2147483647
  dec:W6 m.dec
  g:(m.g.1=0/\m.g.2.1=false/\m.g.2.2 = [])\/(1<=m.g.1/\m.g.1<=2147483647/\m.g.2.2.length<=3000)
  gb:Byt m.g.2.2
def HL(m:HM):Prop:=m.calls.length<=1000000000/\m.out.length<=10000000000000
section
variable (pre:Int) (inn:List Int) (enc:B2) (dead:Int)
theorem E77(m:HM)(s:F7)(hc:m.calls.length<=2000000000)(hs:s.2.2.2.length<=1000000):A24 (mkH pre inn enc dead m) s=some (mkH pre inn enc dead (A3O m s),()):=by
  simp only [A24,A8d,A8q s.2.2.2 (by omega),bO];unfold A3O;by_cases h:s.2.1=2
  · rw [A0 h,if_pos h]
    simp only [mkH,cond_true];rw [D6k (by simp;omega)]
  · rw [A1 h,if_neg h];rfl
theorem E0t(m:HM)(i:Nat)(s:F7)(hi:i<m.strs.length)(hsi:sAt m.strs i=s)(hc:m.calls.length<=2000000000)(hs:s.2.2.2.length<=1000000) :
    S2 (mkH pre inn enc dead m) (s.1,s.2.1,s.2.2.1) (i:Int)=some (mkH pre inn enc dead (A3O m s),()):=by
  have d1:decide ((0:Int)<=(i:Int))=true:=A0 (by omega);have d2:decide ((i:Int)<(m.strs.length:Int))=true:=A0 (by omega);have e1:(rd B7 m.strs (i:Int))=s:=hsi;simp only [S2,A2R,mkH,mkC,d1,d2,cond_true,e1];rw [A8q s.2.2.2 (by omega)];simp only [bO];unfold A3O;by_cases h:s.2.1=2
  · rw [A0 h,if_pos h]
    simp only [cond_true];rw [D6k (by simp;omega)]
  · rw [A1 h,if_neg h];rfl
theorem C60(m:HM)(i:Nat)(ev:Int)(hi:i<m.strs.length)(hc:m.calls.length<=2000000000)(hs:(sAt m.strs i).2.2.2.length<=1000000) :
    Q2 (mkH pre inn enc dead m) (i:Int) ev=some ((A7t m i ev).1,mkH pre inn enc dead (A7t m i ev).2,()):=by
  have d1:decide ((0:Int)<=(i:Int))=true:=A0 (by omega);have d2:decide ((i:Int)<(m.strs.length:Int))=true:=A0 (by omega);have e1:(rd B7 m.strs (i:Int))=sAt m.strs i:=rfl;simp only [Q2,A6B,mkH,mkC,d1,d2,cond_true,e1,D90,bO];unfold A7t;by_cases h1:(stV (sAt m.strs i).2.1 ev).2=1
  · rw [A0 h1,if_pos h1];rfl
  rw [A1 h1,if_neg h1];by_cases h2:(stV (sAt m.strs i).2.1 ev).2=2
  · rw [A0 h2,if_pos h2];rfl
  rw [A1 h2,if_neg h2];simp only [cond_false,Int.toNat_natCast];have hset:sAt (m.strs.set i ((sAt m.strs i).1,(stV (sAt m.strs i).2.1 ev).1,(sAt m.strs i).2.2)) i=((sAt m.strs i).1,(stV (sAt m.strs i).2.1 ev).1,(sAt m.strs i).2.2):=by
    rw [A1r (by simpa using hi)];simp
  have e2:rd B7 (m.strs.set i ((sAt m.strs i).1,(stV (sAt m.strs i).2.1 ev).1,(sAt m.strs i).2.2)) (i:Int)=((sAt m.strs i).1,(stV (sAt m.strs i).2.1 ev).1,(sAt m.strs i).2.2):=hset;rw [e2];have key:=E0t pre inn enc dead (A07 m i ((sAt m.strs i).1,(stV (sAt m.strs i).2.1 ev).1,(sAt m.strs i).2.2)) i ((sAt m.strs i).1,(stV (sAt m.strs i).2.1 ev).1,(sAt m.strs i).2.2) (by simpa [A07] using hi) hset hc hs;simp only [mkH,mkC,A07] at key;rw [key];rfl
end
theorem C9u(m:HM)(s:F7):(A3O m s).strs=m.strs/\(A3O m s).last=m.last/\(A3O m s).dec=m.dec/\(A3O m s).g=m.g/\(A3O m s).out=m.out/\(A3O m s).calls.length<=m.calls.length+1:=by
  unfold A3O;split<;>simp
theorem E0u:stV 1 1=(1,1)/\stV 1 2=(2,0)/\stV 1 3=(1,0)/\stV 1 4=(2,0)/\stV 2 1=(2,2)/\stV 2 2=(2,2)/\stV 2 3=(2,2)/\stV 2 4=(2,2)/\stV 0 1=(1,0)/\stV 0 2=(2,0):=⟨rfl,rfl,rfl,rfl,rfl,rfl,rfl,rfl,rfl,rfl⟩
theorem F56{m:HM}(h:HI m){i:Nat}{ev:Int}(hi:i<m.strs.length)(hev:1<=ev/\ev<=4):((A7t m i ev).1=0->HI (A7t m i ev).2)/\0<=(A7t m i ev).1/\(A7t m i ev).1<=20/\
    (A7t m i ev).2.last=m.last/\(A7t m i ev).2.out=m.out/\(A7t m i ev).2.dec=m.dec/\(A7t m i ev).2.calls.length<=m.calls.length+1:=by
  unfold A7t;by_cases h1:(stV (sAt m.strs i).2.1 ev).2=1
  · rw [if_pos h1];exact ⟨(fun h=>by cases h),(by simp only [];omega),(by simp only [];omega),rfl,rfl,rfl,Nat.le_succ _⟩
  rw [if_neg h1];by_cases h2:(stV (sAt m.strs i).2.1 ev).2=2
  · rw [if_pos h2];exact ⟨(fun h=>by cases h),(by simp only [];omega),(by simp only [];omega),rfl,rfl,rfl,Nat.le_succ _⟩
  rw [if_neg h2];obtain ⟨q1,q2,q3,q4,q5,q6⟩:=C9u (A07 m i ((sAt m.strs i).1,(stV (sAt m.strs i).2.1 ev).1,(sAt m.strs i).2.2)) ((sAt m.strs i).1,(stV (sAt m.strs i).2.1 ev).1,(sAt m.strs i).2.2);have hs:=h.strs.2.2 _ (List.getElem_mem hi);rw [<- A1r hi] at hs;refine ⟨fun _=>⟨?_,?_,?_,?_,?_⟩,(by simp only [];omega),(by simp only [];omega),q2,q5,q3,q6⟩
  · rw [q1,q2]
    refine D91 h.strs hi rfl ?_ hs.2.2.2.2;have ht:=E0u;have he:ev=1\/ev=2\/ev=3\/ev=4:=by omega
    rcases hs.2.2.2.1 with e | e<;>rw [e] at h1 h2 ⊢<;>rcases he with rfl | rfl | rfl | rfl<;>simp_all
  · rw [q2];exact h.last
  · rw [q3];exact h.dec
  · rw [q4];exact h.g
  · rw [q4];exact h.gb
set_option maxRecDepth 100000
structure FrI (f:C1):Prop where
  k:0<=f.1/\f.1<=255
  fl:0<=f.2.1/\f.2.1<=255
  st:0<=f.2.2.1/\f.2.2.1<=2147483647
  n:f.2.2.2.length<=1000
  b:Byt f.2.2.2
def A0l(f:C1)(k:Int):Bool:=!decide (N8 .i64 f.2.1 k=0)
theorem A5b(f:C1)(k:Int):J7 f k=some (A0l f k,()):=rfl
noncomputable def fcV(f:C1):Int:=match I3 f with
  | some x=>x.1
  | none=>0
theorem A2D(f:C1):I3 f=some (fcV f,()):=by
  have:∃ c,I3 f=some (c,()):=by
    have h1:∃ b,Q7 f=some (b,()):=by
      simp only [Q7,A3w,K1,bO];cases decide (0<=f.1/\f.1<=255)<;>cases decide (0<=f.2.1/\f.2.1<=255)<;>cases decide (0<=f.2.2.1/\f.2.2.1<=2147483647)<;>exact ⟨_,rfl⟩
    have h2:∃ b,U5 f=some (b,()):=by
      simp only [U5,A6A,A5b,bO];cases decide (f.1=2)<;>cases decide (f.1=3)<;>cases decide (f.1=8)<;>cases decide (f.1=6)<;>cases decide (f.1=4)<;>cases decide (f.1=7)<;>cases decide ((f.2.2.2.length:Int).tmod 6=0)<;>cases decide ((f.2.2.2.length:Int)=0)<;>exact ⟨_,rfl⟩
    obtain ⟨b1,e1⟩:=h1;obtain ⟨b2,e2⟩:=h2;simp only [I3,A1W,e1,e2,bO];cases b1
    case false=>exact ⟨_,rfl⟩
    cases b2
    case false=>exact ⟨_,rfl⟩
    simp only [Bool.not_true,cond_false,bSl];cases decide (f.2.2.1=0)<;>cases decide (f.1=0)<;>cases decide (f.1=1)<;>cases decide (f.1=2)<;>cases decide (f.1=3)<;>cases decide (f.1=5)<;>cases decide (f.1=9)<;>cases decide (f.1=4)<;>cases decide (f.1=6)<;>cases decide (f.1=7)<;>exact ⟨_,rfl⟩
  obtain ⟨c,e⟩:=this;unfold fcV;rw [e]
def B83(f:C1):Int:=if f.1=1 then (bif A0l f 32 then 5 else 0) else 0
def C61(b:List Int)(ahead more:Int):List Int×Bool:=if ahead+more>(b.length:Int) then ([],false) else ((b.take ((b.length:Int)-more).toNat).drop ahead.toNat,true)
def A6K(f:C1):List Int×Bool:=bif A0l f 8 then (if f.2.2.2.length=0 then ([],false) else C61 (f.2.2.2.drop 1) (B83 f) (byN f.2.2.2 0:Int)) else C61 f.2.2.2 (B83 f) 0
theorem E3m(b:List Int)(a m:Int):(C61 b a m).1.length<=b.length:=by
  unfold C61;split
  · simp
  · simp only [List.length_drop,List.length_take];omega
theorem E3n(f:C1):(A6K f).1.length<=f.2.2.2.length:=by
  unfold A6K;cases A0l f 8
  · exact E3m _ _ _
  · simp only [cond_true]
    split
    · simp
    · have:=E3m (f.2.2.2.drop 1) (B83 f) (byN f.2.2.2 0:Int)
      simp only [List.length_drop] at this;omega
theorem F57{f:C1}(h:Byt f.2.2.2):Byt (A6K f).1:=by
  have hB:∀ b a m,Byt b->Byt (C61 b a m).1:=fun b a m hb=>by
    unfold C61;split
    · exact fun x hx=>by cases hx
    · exact C0D (D3O hb _) _
  unfold A6K;cases A0l f 8
  · exact hB _ _ _ h
  · simp only [cond_true]
    split
    · exact fun x hx=>by cases hx
    · exact hB _ _ _ (C0D h _)
theorem F58(b:List Int)(a m:Int)(ha:0<=a/\a<=5)(hm:0<=m/\m<256)(hl:b.length<=1000000) :
    (bif (decide ((i64.wrap (a+m))>(b.length:Int))) then some ([],false,()) else bif decide (0<=a) then bif decide (a<=(i64.wrap ((b.length:Int)-m))) then bif decide ((i64.wrap ((b.length:Int)-m))<=(b.length:Int)) then A3 (B8 ((b.take ((i64.wrap ((b.length:Int)-m)).toNat)).drop a.toNat)) fun c40=>some (c40.1,true,()) else none else none else none)=some ((C61 b a m).1,(C61 b a m).2,()):=by
  rw [w64 (n:=a+m) (by omega) (by omega),w64 (n:=(b.length:Int)-m) (by omega) (by omega)];unfold C61;by_cases h:a+m>(b.length:Int)
  · rw [A0 h,if_pos h];rfl
  · rw [A1 h,if_neg h,A0 (show 0<=a by omega),A0 (show a<=(b.length:Int)-m by omega),A0 (show (b.length:Int)-m<=(b.length:Int) by omega),A8q _ (by simp;omega)]
    rfl
theorem F59(f:C1):0<=B83 f/\B83 f<=5:=by
  unfold B83;split
  · cases A0l f 32<;>simp
  · simp
theorem D3p{f:C1}(hf:FrI f):A8b f=some ((A6K f).1,(A6K f).2,()):=by
  have ha:(bif (decide (f.1=1)) then bif A0l f 32 then some ((5:Int),()) else some (0,()) else some (0,()))=some (B83 f,()):=by
    unfold B83;by_cases h:f.1=1
    · rw [A0 h,if_pos h];cases A0l f 32<;>rfl
    · rw [A1 h,if_neg h];rfl
  have hr:=F59 f;have hn:=hf.n;simp only [A8b,C8P,A5b,bO,ha];unfold A6K;cases A0l f 8
  · simp only [cond_false,bSl,bO]
    exact F58 f.2.2.2 (B83 f) 0 hr (by omega) (by omega)
  · simp only [cond_true]
    by_cases h0:f.2.2.2.length=0
    · rw [A0 (show (f.2.2.2.length:Int)=0 by omega),if_pos h0];rfl
    · have h1:=B0d hf.b (show 0<f.2.2.2.length by omega)
      rw [show ((0:Nat):Int)=0 from rfl] at h1;rw [A1 (show ¬ (f.2.2.2.length:Int)=0 by omega),if_neg h0,A0 (show (0:Int)<(f.2.2.2.length:Int) by omega),A0 (show (1:Int)<=(f.2.2.2.length:Int) by omega),h1.1,w64 (n:=(byN f.2.2.2 0:Int)) (by omega) (by omega),List.take_length];simp only [cond_false,cond_true,bSl,bO];exact F58 (f.2.2.2.drop 1) (B83 f) (byN f.2.2.2 0:Int) hr (by omega) (by simp;omega)
def A6L(g:D6)(f:C1):Bool:=if g.1=0 then !decide (f.1=9) else decide (f.1=9)&&decide (f.2.2.1=g.1)
def B32(f:C1)(g:D6)(g2:D6):D6×List Int×Int:=
  if (g2.2.2.length:Int)>3000 then (g,[],4) else bif A0l f 4 then ((0,false,[]),g2.2.2,1) else (g2,[],0)
def D92(g:D6)(f:C1):D6×List Int×Int:=
  if f.1=1 then (if (A6K f).2=false then (g,[],3) else B32 f g (f.2.2.1,A0l f 1,(A6K f).1)) else if f.1=9 then B32 f g (g.1,g.2.1,g.2.2++f.2.2.2) else (g,[],0)
noncomputable def J2(g:D6)(f:C1):D6×List Int×Int:=bif !decide (fcV f=0)||!A6L g f then (g,[],2) else D92 g f
theorem E78(g:D6)(f:C1):A5M g f=some (A6L g f,()):=by
  simp only [A5M,B56];unfold A6L;by_cases h:g.1=0
  · rw [A0 h,if_pos h];rfl
  · rw [A1 h,if_neg h]
    cases decide (f.1=9)<;>rfl
def GaI(g:D6):Prop:=(g.1=0/\g.2.1=false/\g.2.2 = [])\/(1<=g.1/\g.1<=2147483647/\g.2.2.length<=3000)
theorem B8o{g:D6}(h:GaI g):A15 g=some (true,()):=by
  simp only [A15,B7J,K1,bO];rcases h with ⟨h1,h2,h3⟩ | ⟨h1,h2,h3⟩
  · rw [A0 h1,h2,h3];rfl
  · rw [A1 (show ¬ g.1=0 by omega),A0 (show 1<=g.1/\g.1<=2147483647 from ⟨h1,h2⟩),A0 (show (g.2.2.length:Int)<=3000 by omega)]
    rfl
theorem GaI.len{g:D6}(h:GaI g):g.2.2.length<=3000:=by
  rcases h with ⟨_,_,h3⟩ | ⟨_,_,h3⟩
  · rw [h3];simp
  · exact h3
theorem F1r{g:D6}(hg:GaI g){f:C1}(hf:FrI f):B9n g f=some ((J2 g f).1,(J2 g f).2.1,(J2 g f).2.2,()):=by
  have hl:=hg.len;have hn:=hf.n;have hcp:=C2T g (by omega);simp only [B9n,D38,B8o hg,A2D,E78,hcp,D3p hf,A5b,bO,Bool.not_true,cond_false];unfold J2;cases decide (fcV f=0)
  case false=>rfl
  cases A6L g f
  case false=>rfl
  simp only [Bool.not_true,cond_false,bO,bSl,Bool.or_self];unfold D92;by_cases h1:f.1=1
  · rw [A0 h1,if_pos h1]
    simp only [cond_true];cases hu:(A6K f).2 with
    | false=>rfl
    | true=>
      simp only [Bool.not_true,cond_false,bSl,Bool.true_eq_false,if_false];unfold B32;by_cases h3:((A6K f).1.length:Int)>3000
      · rw [A0 h3,if_pos h3];rfl
      · rw [A1 h3,if_neg h3]
        cases A0l f 4<;>rfl
  · rw [A1 h1,if_neg h1]
    simp only [cond_false];by_cases h9:f.1=9
    · rw [A0 h9,if_pos h9,gA (by omega)]
      simp only [cond_true,bSl];unfold B32;by_cases h3:((g.2.2++f.2.2.2).length:Int)>3000
      · rw [A0 h3,if_pos h3];rfl
      · rw [A1 h3,if_neg h3]
        cases A0l f 4<;>rfl
    · rw [A1 h9,if_neg h9];rfl
theorem E3o{f:C1}{g g2:D6}(h1:GaI g)(h2:1<=g2.1/\g2.1<=2147483647)(hb:Byt g.2.2)(hb2:Byt g2.2.2):GaI (B32 f g g2).1/\Byt (B32 f g g2).1.2.2/\Byt (B32 f g g2).2.1/\(B32 f g g2).2.1.length<=3000:=by
  have hn:Byt ([]:List Int):=fun x hx=>by cases hx
  unfold B32;by_cases h3:(g2.2.2.length:Int)>3000
  · rw [if_pos h3];exact ⟨h1,hb,hn,by simp⟩
  · rw [if_neg h3]
    cases A0l f 4
    · exact ⟨.inr ⟨h2.1,h2.2,by simp only [cond_false];omega⟩,hb2,hn,by simp⟩
    · exact ⟨.inl ⟨rfl,rfl,rfl⟩,hn,hb2,by simp only [cond_true];omega⟩
theorem C62{g:D6}(hg:GaI g)(hb:Byt g.2.2){f:C1}(hf:FrI f)(h0:f.2.2.1≠0\/f.1≠1):GaI (J2 g f).1/\Byt (J2 g f).1.2.2/\Byt (J2 g f).2.1/\(J2 g f).2.1.length<=3000:=by
  have hn:Byt ([]:List Int):=fun x hx=>by cases hx
  unfold J2;cases hd:(!decide (fcV f=0)||!A6L g f) with
  | true=>exact ⟨hg,hb,hn,by simp⟩
  | false=>
    simp only [cond_false];unfold D92;by_cases h1:f.1=1
    · rw [if_pos h1]
      by_cases hu:(A6K f).2=false
      · rw [if_pos hu];exact ⟨hg,hb,hn,by simp⟩
      · rw [if_neg hu]
        have hs:=hf.st;exact E3o hg (by simp only;omega) hb (F57 hf.b)
    · rw [if_neg h1]
      by_cases h9:f.1=9
      · rw [if_pos h9]
        have hi:A6L g f=true:=by
          simp only [Bool.or_eq_false_iff,Bool.not_eq_false'] at hd;exact hd.2
        unfold A6L at hi;by_cases hg0:g.1=0
        · rw [if_pos hg0,A0 h9] at hi;cases hi
        · rcases hg with ⟨q,_⟩ | ⟨q1,q2,q3⟩
          · exact absurd q hg0
          · exact E3o (.inr ⟨q1,q2,q3⟩) ⟨q1,q2⟩ hb (E0T hb hf.b)
      · rw [if_neg h9];exact ⟨hg,hb,hn,by simp⟩
set_option maxRecDepth 100000
theorem D2C{f:C1}(h:fcV f=0)(h1:f.1=1):f.2.2.1≠0:=by
  intro h0;have e:=A2D f;rw [h] at e;have h2:∃ b,Q7 f=some (b,()):=by
    simp only [Q7,A3w,K1,bO];cases decide (0<=f.1/\f.1<=255)<;>cases decide (0<=f.2.1/\f.2.1<=255)<;>cases decide (0<=f.2.2.1/\f.2.2.1<=2147483647)<;>exact ⟨_,rfl⟩
  have h3:∃ b,U5 f=some (b,()):=by
    simp only [U5,A6A,A5b,bO];cases decide (f.1=2)<;>cases decide (f.1=3)<;>cases decide (f.1=8)<;>cases decide (f.1=6)<;>cases decide (f.1=4)<;>cases decide (f.1=7)<;>cases decide ((f.2.2.2.length:Int).tmod 6=0)<;>cases decide ((f.2.2.2.length:Int)=0)<;>exact ⟨_,rfl⟩
  obtain ⟨b1,e1⟩:=h2;obtain ⟨b2,e2⟩:=h3;simp only [I3,A1W,e1,e2,bO,A0 h0,A0 h1] at e;cases b1
  case false=>simp [bSr] at e
  cases b2
  case false=>simp [bSr] at e
  simp only [Bool.not_true,cond_false,bSl] at e;cases hq:decide (f.1=0)<;>rw [hq] at e<;>simp [bO] at e
noncomputable def C8d(m:HM)(id:Int)(fin:Bool)(l:List A4):Int×HM:=
  if id.tmod 2=0\/id<=m.last then (1,m) else if 100<=m.strs.length then (11,m)
  else if (A2C l).2≠0 then (0,{m with last:=id,calls:=m.calls ++ [(id,(0,⟨#[]⟩,0),[],(A2C l).2)]})
  else (0,A3O {m with last:=id,strs:=m.strs ++ [(id,(if fin then 2 else 1),(A2C l).1,[])]} (id,(if fin then 2 else 1),(A2C l).1,[]))
noncomputable def B5K(m:HM)(id:Int)(fin:Bool)(b:List Int):Int×HM:=
  if (I0 m.dec 4096 b).2.2.1≠0 then (9,m)
  else if B9B m.strs id=true then A7t {m with dec:=(I0 m.dec 4096 b).2.1} (atM m.strs id) (if fin then 2 else 1)
  else C8d {m with dec:=(I0 m.dec 4096 b).2.1} id fin (I0 m.dec 4096 b).1
noncomputable def C2U(m:HM)(f:C1):Int×HM:=
  if (J2 m.g f).2.2=2\/(J2 m.g f).2.2=3 then (1,{m with g:=(J2 m.g f).1}) else if (J2 m.g f).2.2=4 then (11,{m with g:=(J2 m.g f).1})
  else if (J2 m.g f).2.2=1 then B5K {m with g:=(J2 m.g f).1} (if m.g.1=0 then f.2.2.1 else m.g.1) (if m.g.1=0 then A0l f 1 else m.g.2.1) (J2 m.g f).2.1
  else (0,{m with g:=(J2 m.g f).1})
def D1P(m:HM)(f:C1)(body:List Int):HM:=bif A0l f 1 then m else {m with out:=m.out++B2w (f.1,1,0,body)}
def D3q(m:HM)(f:C1):Int×HM:=if f.2.2.1>m.last then (1,m) else (0,m)
noncomputable def C0K(m:HM)(f:C1):Int×HM:=
  if B9B m.strs f.2.2.1=true then
    (if (A6K f).2=false then (1,m) else if ((sAt m.strs (atM m.strs f.2.2.1)).2.2.2.length:Int)+((A6K f).1.length:Int)>2000 then (11,m)
     else A7t (A07 m (atM m.strs f.2.2.1) ((sAt m.strs (atM m.strs f.2.2.1)).1,(sAt m.strs (atM m.strs f.2.2.1)).2.1,(sAt m.strs (atM m.strs f.2.2.1)).2.2.1,(sAt m.strs (atM m.strs f.2.2.1)).2.2.2++(A6K f).1)) (atM m.strs f.2.2.1) (bif A0l f 1 then 4 else 3))
  else D3q m f
def B84(m:HM)(f:C1):Int×HM:=
  if B9B m.strs f.2.2.1=true then (0,{m with strs:=m.strs.take (atM m.strs f.2.2.1)++m.strs.drop (atM m.strs f.2.2.1+1)}) else D3q m f
def E3p(b:List Int):Bool:=(A05 b 0 4).2.1&&decide ((b.length:Int)=4)&&!decide (N8 .i64 (A05 b 0 4).1 2147483647=0)
noncomputable def frM(m:HM)(f:C1):Int×HM:=
  if fcV f=2 then (6,m) else if fcV f=3 then (1,m) else if m.g.1≠0\/f.1=1\/f.1=9 then C2U m f
  else if f.1=4 then (0,D1P m f []) else if f.1=6 then (0,D1P m f f.2.2.2) else if f.1=5 then (1,m) else if f.1=8 then (if E3p f.2.2.2=true then (0,m) else (1,m))
  else if f.1=0 then C0K m f else if f.1=3 then B84 m f else (0,m)
section
variable (pre:Int) (inn:List Int) (enc:B2) (dead:Int)
theorem E79(m:HM)(h:HI m)(hl:m.calls.length<=1000000000)(id:Int)(fin:Bool)(b:List Int)(hb:Byt b)(hbl:b.length<=100000) :
    A25 (mkH pre inn enc dead m) id fin b=some ((B5K m id fin b).1,mkH pre inn enc dead (B5K m id fin b).2,()):=by
  have hg:=C4f h.dec (by omega:(4096:Int)<=4096) b;have hsl:=h.strs.1;have e0:=D3l h.dec hb (by omega) (most:=4096) (by omega);simp only [A25,A8e,e0,bO];unfold B5K;by_cases h9:(I0 m.dec 4096 b).2.2.1=0
  case neg=>rw [A1 h9,if_pos h9];rfl
  rw [A0 h9,if_neg (by simpa using h9)];have e1:=C1h pre inn enc dead {m with dec:=(I0 m.dec 4096 b).2.1} id (by simp only;omega);simp only [mkC] at e1;simp only [Bool.not_true,cond_false,e1,bO];cases hh:B9B m.strs id with
  | true=>
    have hlt:=A9U hh;have hst:=h.strs.2.2 _ (List.getElem_mem hlt.1);rw [<- A1r hlt.1] at hst;have eh:B2l fin=some ((if fin then 2 else 1),()):=by cases fin<;>rfl
    have e2:=C60 pre inn enc dead {m with dec:=(I0 m.dec 4096 b).2.1} (atM m.strs id) (if fin then 2 else 1) hlt.1 (by simp only;omega) (by have:=hst.2.2.2.2;simp only;omega);simp only [mkH,mkC] at e2;simp only [cond_true,eh,bO,e2,bSr,if_true]
  | false=>
    simp only [cond_false,Bool.false_eq_true,if_false];unfold C8d;have ho:(bif (decide ((id.tmod 2)=0)) then some (true,()) else some ((decide (id<=m.last)),()))=some (decide (id.tmod 2=0\/id<=m.last),()):=by
      by_cases q1:id.tmod 2=0
      · rw [A0 q1,A0 (show id.tmod 2=0\/id<=m.last from .inl q1)];rfl
      · rw [A1 q1]
        by_cases q2:id<=m.last
        · rw [A0 q2,A0 (show id.tmod 2=0\/id<=m.last from .inr q2)];rfl
        · rw [A1 q2,A1 (show ¬ (id.tmod 2=0\/id<=m.last) by omega)];rfl
    simp only [ho,bO];by_cases q:id.tmod 2=0\/id<=m.last
    · rw [A0 q,if_pos q];rfl
    rw [A1 q,if_neg q];simp only [cond_false];by_cases q2:100<=m.strs.length
    · rw [A0 (show (m.strs.length:Int)>=100 by omega),if_pos q2];rfl
    rw [A1 (show ¬ (m.strs.length:Int)>=100 by omega),if_neg q2];simp only [cond_false,bSl];rw [E73 _ (by have:=hg.2.1;omega) hg.2.2];simp only [bO];by_cases q3:(A2C (I0 m.dec 4096 b).1).2=0
    · rw [A0 q3,if_neg (by simpa using q3)]
      have eh:B2l fin=some ((if fin then 2 else 1),()):=by cases fin<;>rfl
      have es:N1 0 (if fin then 2 else 1)=some ((if fin then 2 else 1),0,()):=by cases fin<;>rfl
      simp only [Bool.not_true,cond_false,eh,bO,es];rw [D6k (by simp;omega)];have e3:=E77 pre inn enc dead {m with dec:=(I0 m.dec 4096 b).2.1,last:=id,strs:=m.strs ++ [(id,(if fin then 2 else 1),(A2C (I0 m.dec 4096 b).1).1,[])]} (id,(if fin then 2 else 1),(A2C (I0 m.dec 4096 b).1).1,[]) (by simp only;omega) (by simp);simp only [mkH,mkC] at e3;rw [e3];rfl
    · rw [A1 q3,if_pos (by simpa using q3)]
      simp only [Bool.not_false,cond_true];rw [D6k (by simp;omega)]
theorem C8e(m:HM)(h:HI m)(hl:m.calls.length<=1000000000)(f:C1)(hf:FrI f)(hc:fcV f=0) :
    A2o (mkH pre inn enc dead m) f=some ((C2U m f).1,mkH pre inn enc dead (C2U m f).2,()):=by
  have hok:=C62 h.g h.gb hf (by by_cases h1:f.1=1;exact .inl (D2C hc h1);exact .inr h1);have ho:(bif (decide (m.g.1=0)) then some (f.2.2.1,A0l f 1,()) else some (m.g.1,m.g.2.1,()))=some ((if m.g.1=0 then f.2.2.1 else m.g.1),(if m.g.1=0 then A0l f 1 else m.g.2.1),()):=by
    by_cases q:m.g.1=0
    · rw [A0 q,if_pos q,if_pos q];rfl
    · rw [A1 q,if_neg q,if_neg q];rfl
  simp only [A2o,B0W,A5b,bO,ho,F1r h.g hf];unfold C2U;by_cases q2:(J2 m.g f).2.2=2
  · rw [A0 q2,if_pos (show (J2 m.g f).2.2=2\/(J2 m.g f).2.2=3 from .inl q2)];rfl
  rw [A1 q2];simp only [cond_false,bO];by_cases q3:(J2 m.g f).2.2=3
  · rw [A0 q3,if_pos (show (J2 m.g f).2.2=2\/(J2 m.g f).2.2=3 from .inr q3)];rfl
  rw [A1 q3,if_neg (show ¬ ((J2 m.g f).2.2=2\/(J2 m.g f).2.2=3) by omega)];by_cases q4:(J2 m.g f).2.2=4
  · rw [A0 q4,if_pos q4];rfl
  rw [A1 q4,if_neg q4];by_cases q1:(J2 m.g f).2.2=1
  · rw [A0 q1,if_pos q1]
    have e:=E79 pre inn enc dead {m with g:=(J2 m.g f).1} ⟨h.strs,h.last,h.dec,hok.1,hok.2.1⟩ hl (if m.g.1=0 then f.2.2.1 else m.g.1) (if m.g.1=0 then A0l f 1 else m.g.2.1) (J2 m.g f).2.1 hok.2.2.1 (by omega);simp only [mkH,mkC] at e;simp only [cond_true,cond_false,e,bO]
  · rw [A1 q1,if_neg q1];rfl
theorem C9v(m:HM)(ho:m.out.length<=100000000000000)(f:C1)(b:List Int)(hb:b.length<=1000):A1B (mkH pre inn enc dead m) f b=some (mkH pre inn enc dead (D1P m f b),()):=by
  simp only [A1B,A7V,A5b,bO,mkH];unfold D1P;cases A0l f 1 with
  | true=>rfl
  | false=>
    simp only [Bool.not_false,cond_true,cond_false];rw [C2N _ _ (by simp only;omega)];rfl
theorem C63(m:HM)(f:C1):Q3 (mkH pre inn enc dead m) f=some ((D3q m f).1,mkH pre inn enc dead (D3q m f).2,()):=by
  simp only [Q3,A6D,mkH,mkC];unfold D3q;by_cases h:f.2.2.1>m.last
  · rw [A0 h,if_pos h];rfl
  · rw [A1 h,if_neg h];rfl
theorem F1s(m:HM)(h:HI m)(hl:m.calls.length<=1000000000)(f:C1)(hf:FrI f) :
    A2p (mkH pre inn enc dead m) f=some ((C0K m f).1,mkH pre inn enc dead (C0K m f).2,()):=by
  have hsl:=h.strs.1;have hn:=hf.n;have hu:=E3n f;have e1:=C1h pre inn enc dead m f.2.2.1 (by omega);have e2:=C63 pre inn enc dead m f;simp only [mkC] at e1;simp only [mkH,mkC] at e2;simp only [A2p,B0a,mkH,mkC,e1,bO,D3p hf,A5b];unfold C0K;cases hh:B9B m.strs f.2.2.1 with
  | false=>
    simp only [Bool.not_false,cond_true,Bool.false_eq_true,if_false,e2,bO]
  | true=>
    have hlt:=A9U hh;have hst:=h.strs.2.2 _ (List.getElem_mem hlt.1);rw [<- A1r hlt.1] at hst;have h5:=hst.2.2.2.2;have d1:decide ((0:Int)<=(atM m.strs f.2.2.1:Int))=true:=A0 (by omega);have d2:decide ((atM m.strs f.2.2.1:Int)<(m.strs.length:Int))=true:=A0 (by omega);have e3:rd B7 m.strs (atM m.strs f.2.2.1:Int)=sAt m.strs (atM m.strs f.2.2.1):=rfl;simp only [Bool.not_true,cond_false,if_true,d1,d2,cond_true,e3];cases hq:(A6K f).2 with
    | false=>rfl
    | true=>
      simp only [Bool.not_true,cond_false,Bool.true_eq_false,if_false];rw [w64 (by omega) (by omega)];by_cases q:((sAt m.strs (atM m.strs f.2.2.1)).2.2.2.length:Int)+((A6K f).1.length:Int)>2000
      · rw [A0 q,if_pos q];rfl
      · rw [A1 q,if_neg q]
        simp only [cond_false];rw [gA (by omega)];simp only [Int.toNat_natCast,bO];have e4:=fun ev=>C60 pre inn enc dead (A07 m (atM m.strs f.2.2.1) ((sAt m.strs (atM m.strs f.2.2.1)).1,(sAt m.strs (atM m.strs f.2.2.1)).2.1,(sAt m.strs (atM m.strs f.2.2.1)).2.2.1,(sAt m.strs (atM m.strs f.2.2.1)).2.2.2++(A6K f).1)) (atM m.strs f.2.2.1) ev (by simpa [A07] using hlt.1) (by simp only [A07];omega) (by
          simp only [A07];rw [A1r (by simpa using hlt.1),List.getElem_set_self];simp only [List.length_append];omega)
        simp only [mkH,mkC,A07] at e4;cases A0l f 1
        · simp only [cond_false,e4,bO];rfl
        · simp only [cond_true,e4,bO];rfl
theorem E7A(m:HM)(h:HI m)(f:C1):A26 (mkH pre inn enc dead m) f=some ((B84 m f).1,mkH pre inn enc dead (B84 m f).2,()):=by
  have hsl:=h.strs.1;have e1:=C1h pre inn enc dead m f.2.2.1 (by omega);have e2:=C63 pre inn enc dead m f;simp only [mkC] at e1;simp only [mkH,mkC] at e2;simp only [A26,A8g,mkH,mkC,e1,bO];unfold B84;cases hh:B9B m.strs f.2.2.1 with
  | false=>simp only [Bool.not_false,cond_true,Bool.false_eq_true,if_false,e2,bO]
  | true=>
    have hlt:=A9U hh;have w1:i64.wrap ((atM m.strs f.2.2.1:Int)+1)=((atM m.strs f.2.2.1+1:Nat):Int):=by rw [w64 (by omega) (by omega)];omega
    have e3:H5 m.strs (atM m.strs f.2.2.1:Int) ((atM m.strs f.2.2.1+1:Nat):Int)=some (m.strs.take (atM m.strs f.2.2.1)++m.strs.drop (atM m.strs f.2.2.1+1),()):=by
      rw [show H5=E36 from rfl];simp only [E36];rw [A0 (by omega),A0 (by omega),A0 (by omega)];simp only [cond_true,Int.toNat_natCast]
    simp only [Bool.not_true,cond_false,w1,e3,bO,if_true]
theorem E3q(b:List Int)(hb:Byt b)(hl:b.length<=1000):∃ n,A7W b=some (n,E3p b,()):=by
  have e:=E3M b hb (by omega) 0 4 (by omega);rw [show ((4:Nat):Int)=4 from rfl] at e;simp only [A7W,B7g,e,bO];unfold E3p;cases (A05 b 0 4).2.1<;>cases decide ((b.length:Int)=4)<;>cases decide (N8 .i64 (A05 b 0 4).1 2147483647=0)<;>exact ⟨_,rfl⟩
theorem E7B(m:HM)(h:HI m)(hl:HL m)(f:C1)(hf:FrI f):U8 (mkH pre inn enc dead m) f=some ((frM m f).1,mkH pre inn enc dead (frM m f).2,()):=by
  have hn:=hf.n;simp only [U8,A8h,A2D,bO];unfold frM;by_cases c2:fcV f=2
  · rw [A0 c2,if_pos c2];rfl
  rw [A1 c2,if_neg c2];by_cases c3:fcV f=3
  · rw [A0 c3,if_pos c3];rfl
  rw [A1 c3,if_neg c3];have hc:fcV f=0:=by
    have e:=A2D f;have hall:∃ c,I3 f=some (c,())/\(c=0\/c=2\/c=3):=by
      have h2:∃ b,Q7 f=some (b,()):=by
        simp only [Q7,A3w,K1,bO];cases decide (0<=f.1/\f.1<=255)<;>cases decide (0<=f.2.1/\f.2.1<=255)<;>cases decide (0<=f.2.2.1/\f.2.2.1<=2147483647)<;>exact ⟨_,rfl⟩
      have h3:∃ b,U5 f=some (b,()):=by
        simp only [U5,A6A,A5b,bO];cases decide (f.1=2)<;>cases decide (f.1=3)<;>cases decide (f.1=8)<;>cases decide (f.1=6)<;>cases decide (f.1=4)<;>cases decide (f.1=7)<;>cases decide ((f.2.2.2.length:Int).tmod 6=0)<;>cases decide ((f.2.2.2.length:Int)=0)<;>exact ⟨_,rfl⟩
      obtain ⟨b1,e1⟩:=h2;obtain ⟨b2,e2⟩:=h3;simp only [I3,A1W,e1,e2,bO];cases b1
      case false=>exact ⟨_,rfl,.inr (.inl rfl)⟩
      cases b2
      case false=>exact ⟨_,rfl,.inr (.inl rfl)⟩
      simp only [Bool.not_true,cond_false,bSl];cases decide (f.2.2.1=0)<;>cases decide (f.1=0)<;>cases decide (f.1=1)<;>cases decide (f.1=2)<;>cases decide (f.1=3)<;>cases decide (f.1=5)<;>cases decide (f.1=9)<;>cases decide (f.1=4)<;>cases decide (f.1=6)<;>cases decide (f.1=7)<;>first | exact ⟨_,rfl,.inl rfl⟩ | exact ⟨_,rfl,.inr (.inr rfl)⟩
    obtain ⟨c,e1,e2⟩:=hall;rw [e1] at e;injection e with e
    injection e with e _
    omega
  simp only [cond_false];by_cases g0:m.g.1=0
  case neg=>
    rw [A1 g0,if_pos (.inl g0)];simp only [Bool.not_false,cond_true,C8e pre inn enc dead m h hl.1 f hf hc,bO]
  rw [A0 g0];simp only [Bool.not_true,cond_false];by_cases k1:f.1=1
  · rw [A0 k1,if_pos (.inr (.inl k1))]
    simp only [cond_true,bO,C8e pre inn enc dead m h hl.1 f hf hc]
  rw [A1 k1];simp only [cond_false,bO];by_cases k9:f.1=9
  · rw [A0 k9,if_pos (.inr (.inr k9))]
    simp only [cond_true,bO,C8e pre inn enc dead m h hl.1 f hf hc]
  rw [A1 k9,if_neg (by omega)];simp only [cond_false];by_cases k4:f.1=4
  · rw [A0 k4,if_pos k4]
    simp only [cond_true,C9v pre inn enc dead m (by have:=hl.2;omega) f [] (by simp),bO]
  rw [A1 k4,if_neg k4];simp only [cond_false];by_cases k6:f.1=6
  · rw [A0 k6,if_pos k6]
    simp only [cond_true,C9v pre inn enc dead m (by have:=hl.2;omega) f f.2.2.2 hn,bO]
  rw [A1 k6,if_neg k6];simp only [cond_false];by_cases k5:f.1=5
  · rw [A0 k5,if_pos k5];rfl
  rw [A1 k5,if_neg k5];simp only [cond_false];by_cases k8:f.1=8
  · rw [A0 k8,if_pos k8]
    obtain ⟨n,e⟩:=E3q f.2.2.2 hf.b hn;simp only [cond_true,e,bO];cases E3p f.2.2.2<;>rfl
  rw [A1 k8,if_neg k8];simp only [cond_false];by_cases k0:f.1=0
  · rw [A0 k0,if_pos k0]
    simp only [cond_true,F1s pre inn enc dead m h hl.1 f hf,bO]
  rw [A1 k0,if_neg k0];simp only [cond_false];by_cases k3:f.1=3
  · rw [A0 k3,if_pos k3]
    simp only [cond_true,E7A pre inn enc dead m h f,bO]
  · rw [A1 k3,if_neg k3];rfl
end
set_option maxRecDepth 100000
structure FrO (m:HM) (r:Int×HM):Prop where
  code:0<=r.1/\r.1<=20
  hi:r.1=0->HI r.2
  last:0<=r.2.last/\r.2.last<=2147483647
  dec:W6 r.2.dec
  calls:r.2.calls.length<=m.calls.length+1
  out:r.2.out.length<=m.out.length+1100
theorem B85{m:HM}(h:HI m){c:Int}(hc:0<c/\c<=20):FrO m (c,m):=⟨by simp only;omega,fun e=>by simp only at e;omega,h.last,h.dec,by simp only;omega,by simp only;omega⟩
theorem C64{m:HM}(h:HI m):FrO m (0,m):=⟨by simp only;omega,fun _=>h,h.last,h.dec,by simp only;omega,by simp only;omega⟩
theorem E3r{m m0:HM}(h:HI m){i:Nat}{ev:Int}(hi:i<m.strs.length)(hev:1<=ev/\ev<=4)(h1:m.calls=m0.calls)(h2:m.out=m0.out):FrO m0 (A7t m i ev):=by
  obtain ⟨a1,a2,a3,a4,a5,a6,a7⟩:=F56 h hi hev;exact ⟨⟨a2,a3⟩,a1,by rw [a4];exact h.last,by rw [a6];exact h.dec,by rw [<- h1];exact a7,by rw [a5,h2];omega⟩
theorem F1t{m m0:HM}(h:HI m)(id:Int)(hid:id<=2147483647)(fin:Bool)(b:List Int)(h1:m.calls=m0.calls)(h2:m.out=m0.out):FrO m0 (B5K m id fin b):=by
  have hg:=C4f h.dec (by omega:(4096:Int)<=4096) b;have hm:HI {m with dec:=(I0 m.dec 4096 b).2.1}:=⟨h.strs,h.last,hg.1,h.g,h.gb⟩;have hl:=h.last;unfold B5K;by_cases h9:(I0 m.dec 4096 b).2.2.1≠0
  · rw [if_pos h9]
    exact ⟨by simp only;omega,fun e=>by simp only at e;omega,h.last,h.dec,by simp only [h1];omega,by simp only [h2];omega⟩
  rw [if_neg h9];cases hh:B9B m.strs id with
  | true=>
    rw [if_pos rfl];exact E3r hm (A9U hh).1 (by cases fin<;>simp) h1 h2
  | false=>
    rw [if_neg (by simp)];unfold C8d;by_cases q:id.tmod 2=0\/id<=m.last
    · rw [if_pos q]
      exact ⟨by simp only;omega,fun e=>by simp only at e;omega,h.last,hg.1,by simp only [h1];omega,by simp only [h2];omega⟩
    rw [if_neg q];by_cases q2:100<=m.strs.length
    · rw [if_pos q2]
      exact ⟨by simp only;omega,fun e=>by simp only at e;omega,h.last,hg.1,by simp only [h1];omega,by simp only [h2];omega⟩
    rw [if_neg q2];have ht:id.tmod 2=1:=by
      have:=Int.tmod_eq_emod_of_nonneg (a:=id) (b:=2) (by omega);omega
    by_cases q3:(A2C (I0 m.dec 4096 b).1).2≠0
    · rw [if_pos q3]
      exact ⟨by simp only;omega,fun _=>⟨E76 h.strs (by simp only;omega),by simp only;omega,hg.1,h.g,h.gb⟩,by simp only;omega,hg.1,by simp only [List.length_append,List.length_singleton,h1];omega,by simp only [h2];omega⟩
    · rw [if_neg q3]
      obtain ⟨z1,z2,z3,z4,z5,z6⟩:=C9u {m with dec:=(I0 m.dec 4096 b).2.1,last:=id,strs:=m.strs ++ [(id,(if fin then 2 else 1),(A2C (I0 m.dec 4096 b).1).1,[])]} (id,(if fin then 2 else 1),(A2C (I0 m.dec 4096 b).1).1,[]);refine ⟨by simp only;omega,fun _=>⟨?_,?_,?_,?_,?_⟩,?_,?_,?_,?_⟩
      · rw [z1,z2]
        exact E75 h.strs (by omega) (s:=(id,(if fin then 2 else 1),(A2C (I0 m.dec 4096 b).1).1,[])) (by simp only;omega) ht (by cases fin<;>simp) (by simp) (by simp only;omega)
      · rw [z2];simp only;omega
      · rw [z3];exact hg.1
      · rw [z4];exact h.g
      · rw [z4];exact h.gb
      · simp only;rw [z2];simp only;omega
      · simp only;rw [z3];exact hg.1
      · simp only at z6 ⊢;rw [<- h1];exact z6
      · simp only;rw [z5];simp only [h2];omega
theorem F5A{m:HM}(h:HI m){f:C1}(hf:FrI f)(hc:fcV f=0):FrO m (C2U m f):=by
  have hok:=C62 h.g h.gb hf (by by_cases h1:f.1=1;exact .inl (D2C hc h1);exact .inr h1);have hm:HI {m with g:=(J2 m.g f).1}:=⟨h.strs,h.last,h.dec,hok.1,hok.2.1⟩;unfold C2U;by_cases q2:(J2 m.g f).2.2=2\/(J2 m.g f).2.2=3
  · rw [if_pos q2]
    exact ⟨by simp only;omega,fun e=>by simp only at e;omega,h.last,h.dec,by simp only;omega,by simp only;omega⟩
  rw [if_neg q2];by_cases q4:(J2 m.g f).2.2=4
  · rw [if_pos q4]
    exact ⟨by simp only;omega,fun e=>by simp only at e;omega,h.last,h.dec,by simp only;omega,by simp only;omega⟩
  rw [if_neg q4];by_cases q1:(J2 m.g f).2.2=1
  · rw [if_pos q1]
    have hs:=hf.st;refine F1t hm _ ?_ _ _ rfl rfl;by_cases g0:m.g.1=0
    · rw [if_pos g0];omega
    · rw [if_neg g0]
      rcases h.g with q | q
      · exact absurd q.1 g0
      · exact q.2.1
  · rw [if_neg q1]
    exact ⟨by simp only;omega,fun _=>hm,h.last,h.dec,by simp only;omega,by simp only;omega⟩
theorem F0R{m:HM}(h:HI m)(f:C1)(hf:FrI f)(b:List Int)(hb:b.length<=1000):FrO m (0,D1P m f b):=by
  have hk:=hf.k;unfold D1P;cases A0l f 1
  · have hl:=D3V (f.1,1,0,b) (fok _ _ _ _ (by omega) (by omega) (by omega) (by omega))
    exact ⟨by simp only;omega,fun _=>⟨h.strs,h.last,h.dec,h.g,h.gb⟩,h.last,h.dec,by simp only [cond_false];omega,by simp only [cond_false,List.length_append];omega⟩
  · exact C64 h
theorem F0S{m:HM}(h:HI m)(f:C1):FrO m (D3q m f):=by
  unfold D3q;split
  · exact B85 h (by omega)
  · exact C64 h
theorem F5B{m:HM}(h:HI m){f:C1}(hf:FrI f):FrO m (C0K m f):=by
  unfold C0K;cases hh:B9B m.strs f.2.2.1 with
  | false=>rw [if_neg (by simp)];exact F0S h f
  | true=>
    rw [if_pos rfl];have hlt:=A9U hh;have hst:=h.strs.2.2 _ (List.getElem_mem hlt.1);rw [<- A1r hlt.1] at hst;by_cases hu:(A6K f).2=false
    · rw [if_pos hu];exact B85 h (by omega)
    rw [if_neg hu];by_cases q:((sAt m.strs (atM m.strs f.2.2.1)).2.2.2.length:Int)+((A6K f).1.length:Int)>2000
    · rw [if_pos q];exact B85 h (by omega)
    rw [if_neg q];refine E3r ?_ ?_ ?_ rfl rfl
    · exact ⟨D91 h.strs hlt.1 rfl hst.2.2.2.1 (by simp only [List.length_append];omega),h.last,h.dec,h.g,h.gb⟩
    · simpa [A07] using hlt.1
    · cases A0l f 1<;>simp
theorem F1u{m:HM}(h:HI m)(f:C1):FrO m (B84 m f):=by
  unfold B84;cases hh:B9B m.strs f.2.2.1 with
  | false=>rw [if_neg (by simp)];exact F0S h f
  | true=>
    rw [if_pos rfl];exact ⟨by simp only;omega,fun _=>⟨F1p h.strs _,h.last,h.dec,h.g,h.gb⟩,h.last,h.dec,by simp only;omega,by simp only;omega⟩
theorem E0v(f:C1):fcV f=0\/fcV f=2\/fcV f=3:=by
  have e:=A2D f;have hall:∃ c,I3 f=some (c,())/\(c=0\/c=2\/c=3):=by
    have h2:∃ b,Q7 f=some (b,()):=by
      simp only [Q7,A3w,K1,bO];cases decide (0<=f.1/\f.1<=255)<;>cases decide (0<=f.2.1/\f.2.1<=255)<;>cases decide (0<=f.2.2.1/\f.2.2.1<=2147483647)<;>exact ⟨_,rfl⟩
    have h3:∃ b,U5 f=some (b,()):=by
      simp only [U5,A6A,A5b,bO];cases decide (f.1=2)<;>cases decide (f.1=3)<;>cases decide (f.1=8)<;>cases decide (f.1=6)<;>cases decide (f.1=4)<;>cases decide (f.1=7)<;>cases decide ((f.2.2.2.length:Int).tmod 6=0)<;>cases decide ((f.2.2.2.length:Int)=0)<;>exact ⟨_,rfl⟩
    obtain ⟨b1,e1⟩:=h2;obtain ⟨b2,e2⟩:=h3;simp only [I3,A1W,e1,e2,bO];cases b1
    case false=>exact ⟨_,rfl,.inr (.inl rfl)⟩
    cases b2
    case false=>exact ⟨_,rfl,.inr (.inl rfl)⟩
    simp only [Bool.not_true,cond_false,bSl];cases decide (f.2.2.1=0)<;>cases decide (f.1=0)<;>cases decide (f.1=1)<;>cases decide (f.1=2)<;>cases decide (f.1=3)<;>cases decide (f.1=5)<;>cases decide (f.1=9)<;>cases decide (f.1=4)<;>cases decide (f.1=6)<;>cases decide (f.1=7)<;>first | exact ⟨_,rfl,.inl rfl⟩ | exact ⟨_,rfl,.inr (.inr rfl)⟩
  obtain ⟨c,e1,e2⟩:=hall;rw [e1] at e;injection e with e
  injection e with e _
  omega
theorem F5C{m:HM}(h:HI m){f:C1}(hf:FrI f):FrO m (frM m f):=by
  have hr:=E0v f;unfold frM;by_cases c2:fcV f=2
  · rw [if_pos c2];exact B85 h (by omega)
  rw [if_neg c2];by_cases c3:fcV f=3
  · rw [if_pos c3];exact B85 h (by omega)
  rw [if_neg c3];by_cases k:m.g.1≠0\/f.1=1\/f.1=9
  · rw [if_pos k];exact F5A h hf (by omega)
  rw [if_neg k];by_cases k4:f.1=4
  · rw [if_pos k4];exact F0R h f hf [] (by simp)
  rw [if_neg k4];by_cases k6:f.1=6
  · rw [if_pos k6];exact F0R h f hf _ hf.n
  rw [if_neg k6];by_cases k5:f.1=5
  · rw [if_pos k5];exact B85 h (by omega)
  rw [if_neg k5];by_cases k8:f.1=8
  · rw [if_pos k8]
    split
    · exact C64 h
    · exact B85 h (by omega)
  rw [if_neg k8];by_cases k0:f.1=0
  · rw [if_pos k0];exact F5B h hf
  rw [if_neg k0];by_cases k3:f.1=3
  · rw [if_pos k3];exact F1u h f
  · rw [if_neg k3];exact C64 h
section
variable (cs:List H0) (os:List Int)
end
set_option maxRecDepth 100000
theorem C8f(b:List Int)(a c:Nat):∀ j,I9 (b.drop a) c j=I9 b (a+c) j
  | 0=>rfl
  | j+1=>by
    simp only [I9,C8f b a c j];rw [show (b.drop a).getD (c+j) 0=b.getD (a+c+j) 0 by simp [List.getD,List.getElem?_drop,Nat.add_assoc]]
theorem A8r(b:List Int)(n c:Nat):∀ j,c+j<=n->I9 (b.take n) c j=I9 b c j
  | 0,_=>rfl
  | j+1,h=>by
    simp only [I9,A8r b n c j (by omega)];rw [show (b.take n).getD (c+j) 0=b.getD (c+j) 0 by simp [List.getD,List.getElem?_take,show c+j<n by omega]]
def codeF(b:List Int):Nat:=if b.length<9 then 1 else if I9 b 0 3>1000 then 2 else if b.length<9+I9 b 0 3 then 1 else 0
def A0d(b:List Int):Nat:=9+I9 b 0 3
def P4(b:List Int):C1:=(A1I b 0).1
theorem B47{b:List Int}{a:Nat}(ha:a<=b.length):(A1I b a).2.2.1=(codeF (b.drop a):Int)/\(codeF (b.drop a)=0->(A1I b a).1=P4 (b.drop a)/\(A1I b a).2.1=((a+A0d (b.drop a):Nat):Int)/\a+A0d (b.drop a)<=b.length):=by
  have hl:(b.drop a).length=b.length-a:=by simp
  have e0:I9 (b.drop a) 0 3=I9 b a 3:=by rw [C8f];rfl
  have hg:∀ (k:Nat),rd (.int .u8) (b.drop a) (k:Int)=rd (.int .u8) b ((a:Int)+k):=fun k=>by
    simp only [rd];rw [show ((a:Int)+(k:Int)).toNat=a+k by omega,Int.toNat_natCast];simp [List.getD,List.getElem?_drop]
  unfold codeF A0d P4;rw [hl,e0];unfold A1I;by_cases h9:b.length-a<9
  · rw [if_pos h9,if_neg (show ¬ (0<=(a:Int)/\(a:Int)<=(b.length:Int)-9) by omega)]
    exact ⟨rfl,fun h=>by cases h⟩
  rw [if_neg h9,if_pos (show 0<=(a:Int)/\(a:Int)<=(b.length:Int)-9 by omega),Int.toNat_natCast];by_cases h1:I9 b a 3>1000
  · rw [if_pos h1,if_pos (show (I9 b a 3:Int)>1000 by omega)]
    exact ⟨rfl,fun h=>by cases h⟩
  rw [if_neg h1,if_neg (show ¬ (I9 b a 3:Int)>1000 by omega)];by_cases h2:b.length-a<9+I9 b a 3
  · rw [if_pos h2,if_pos (show (I9 b a 3:Int)>(b.length:Int)-(a:Int)-9 by omega)]
    exact ⟨rfl,fun h=>by cases h⟩
  rw [if_neg h2,if_neg (show ¬ (I9 b a 3:Int)>(b.length:Int)-(a:Int)-9 by omega)];refine ⟨rfl,fun _=>⟨?_,(by show (a:Int)+9+(I9 b a 3:Int)=((a+(9+I9 b a 3):Nat):Int);omega),by omega⟩⟩;rw [if_pos (show 0<=(0:Int)/\(0:Int)<=((b.drop a).length:Int)-9 by omega)];rw [show (0:Int).toNat=0 from rfl,e0,if_neg (show ¬ (I9 b a 3:Int)>1000 by omega),if_neg (show ¬ (I9 b a 3:Int)>((b.drop a).length:Int)-0-9 by omega)];have r3:=hg 3;have r4:=hg 4;rw [show ((3:Nat):Int)=3 from rfl] at r3;rw [show ((4:Nat):Int)=4 from rfl] at r4;simp only [Int.zero_add];rw [r3,r4];have e5:I9 (b.drop a) (5:Int).toNat 4=I9 b ((a:Int)+5).toNat 4:=by
    rw [C8f]
    congr 1
  rw [e5];have e9:((b.drop a).take ((9:Int)+(I9 b a 3:Int)).toNat).drop (9:Int).toNat=(b.take ((a:Int)+9+(I9 b a 3:Int)).toNat).drop ((a:Int)+9).toNat:=by
    rw [show ((a:Int)+9+(I9 b a 3:Int)).toNat=a+(9+I9 b a 3) by omega,show ((a:Int)+9).toNat=a+9 by omega,show ((9:Int)+(I9 b a 3:Int)).toNat=9+I9 b a 3 by omega,show (9:Int).toNat=9 from rfl];rw [List.drop_take,List.drop_take,List.drop_drop]
    congr 1
    omega
  rw [e9]
theorem B60(b:List Int):codeF b=0\/codeF b=1\/codeF b=2:=by
  unfold codeF;split
  · omega
  · split
    · omega
    · split<;>omega
theorem C4h{b:List Int}(h:codeF b=1)(k:Nat):codeF (b.take k)=1:=by
  unfold codeF at h ⊢;by_cases h9:(b.take k).length<9
  · rw [if_pos h9]
  rw [if_neg h9];rw [List.length_take] at h9;rw [if_neg (by omega)] at h;rw [A8r _ _ _ _ (by omega),List.length_take];by_cases h1:I9 b 0 3>1000
  · rw [if_pos h1] at h;cases h
  rw [if_neg h1] at h ⊢;by_cases h2:b.length<9+I9 b 0 3
  · rw [if_pos (by omega)]
  · rw [if_neg h2] at h;cases h
theorem E3s{b:List Int}(h:codeF b=2):9<=b.length/\(∀ k,k<9->codeF (b.take k)=1)/\∀ k,9<=k->codeF (b.take k)=2:=by
  unfold codeF at h;by_cases h9:b.length<9
  · rw [if_pos h9] at h;cases h
  rw [if_neg h9] at h;by_cases h1:I9 b 0 3>1000
  · refine ⟨by omega,fun k hk=>?_,fun k hk=>?_⟩
    · unfold codeF
      rw [if_pos (by rw [List.length_take];omega)]
    · unfold codeF
      rw [if_neg (by rw [List.length_take];omega),A8r _ _ _ _ (by omega),if_pos h1]
  · rw [if_neg h1] at h
    split at h<;>cases h
theorem B48{b:List Int}(h:codeF b=0):A0d b<=b.length/\9<=A0d b/\A0d b<=1009/\(∀ k,k<A0d b->codeF (b.take k)=1)/\codeF (b.take (A0d b))=0:=by
  unfold codeF at h;by_cases h9:b.length<9
  · rw [if_pos h9] at h;cases h
  rw [if_neg h9] at h;by_cases h1:I9 b 0 3>1000
  · rw [if_pos h1] at h;cases h
  rw [if_neg h1] at h;by_cases h2:b.length<9+I9 b 0 3
  · rw [if_pos h2] at h;cases h
  unfold A0d;refine ⟨by omega,by omega,by omega,fun k hk=>?_,?_⟩
  · unfold codeF
    by_cases hk9:k<9
    · rw [if_pos (by rw [List.length_take];omega)]
    · rw [if_neg (by rw [List.length_take];omega),A8r _ _ _ _ (by omega),if_neg h1,if_pos (by rw [List.length_take];omega)]
  · unfold codeF
    rw [if_neg (by rw [List.length_take];omega),A8r _ _ _ _ (by omega),if_neg h1,if_neg (by rw [List.length_take];omega)]
theorem E3t{b:List Int}(h:codeF b=0):P4 (b.take (A0d b))=P4 b:=by
  obtain ⟨h1,h2,h3,_,h5⟩:=B48 h;have hn:A0d b=9+I9 b 0 3:=rfl;have hl:(b.take (A0d b)).length=A0d b:=by rw [List.length_take];omega
  have hr:∀ (k:Nat),k<A0d b->rd (.int .u8) (b.take (A0d b)) (k:Int)=rd (.int .u8) b (k:Int):=fun k hk=>by
    simp only [rd,Int.toNat_natCast];simp [List.getD,List.getElem?_take,hk]
  have e3:I9 (b.take (A0d b)) 0 3=I9 b 0 3:=A8r _ _ _ _ (by omega);unfold P4 A1I;rw [if_pos (show 0<=(0:Int)/\(0:Int)<=((b.take (A0d b)).length:Int)-9 by omega),if_pos (show 0<=(0:Int)/\(0:Int)<=(b.length:Int)-9 by omega)];rw [show (0:Int).toNat=0 from rfl,e3];rw [if_neg (show ¬ (I9 b 0 3:Int)>1000 by omega),if_neg (show ¬ (I9 b 0 3:Int)>((b.take (A0d b)).length:Int)-0-9 by omega),if_neg (show ¬ (I9 b 0 3:Int)>1000 by omega),if_neg (show ¬ (I9 b 0 3:Int)>(b.length:Int)-0-9 by omega)];simp only [Int.zero_add];have r3:=hr 3 (by omega);have r4:=hr 4 (by omega);rw [show ((3:Nat):Int)=3 from rfl] at r3;rw [show ((4:Nat):Int)=4 from rfl] at r4;rw [r3,r4,A8r _ _ _ _ (show (5:Int).toNat+4<=A0d b by simp;omega)];rw [show ((9:Int)+(I9 b 0 3:Int)).toNat=A0d b by omega,List.take_take,Nat.min_self]
theorem C1i{b:List Int}(hb:Byt b)(h:codeF b=0):FrI (P4 b):=by
  obtain ⟨h1,h2,h3,_,_⟩:=B48 h;have hn:A0d b=9+I9 b 0 3:=rfl;have r3:=B0d hb (show 3<b.length by omega);have r4:=B0d hb (show 4<b.length by omega);rw [show ((3:Nat):Int)=3 from rfl] at r3;rw [show ((4:Nat):Int)=4 from rfl] at r4;have hs:=C5l hb 5 4;have hm:N8 .i64 (I9 b 5 4:Int) 2147483647=((I9 b 5 4 % 2 ^ 31:Nat):Int):=by
    rw [show (2147483647:Int)=((2147483647:Nat):Int) from rfl,C5q (by simp at hs;omega) (by omega),show (2147483647:Nat)=2 ^ 31-1 from rfl,Nat.and_two_pow_sub_one_eq_mod]
  have hlt:I9 b 5 4 % 2 ^ 31<2 ^ 31:=Nat.mod_lt _ (by decide);have e:P4 b=(rd (.int .u8) b 3,rd (.int .u8) b 4,N8 .i64 (I9 b 5 4:Int) 2147483647,(b.take ((9:Int)+(I9 b 0 3:Int)).toNat).drop (9:Int).toNat):=by
    unfold P4 A1I;rw [if_pos (show 0<=(0:Int)/\(0:Int)<=(b.length:Int)-9 by omega),show (0:Int).toNat=0 from rfl,if_neg (show ¬ (I9 b 0 3:Int)>1000 by omega),if_neg (show ¬ (I9 b 0 3:Int)>(b.length:Int)-0-9 by omega)];simp only [Int.zero_add];rfl
  rw [e];refine ⟨?_,?_,?_,?_,?_⟩
  · simp only [r3.1];omega
  · simp only [r4.1];omega
  · simp only [hm];omega
  · simp only [List.length_drop,List.length_take];omega
  · exact C0D (D3O hb _) _
set_option maxRecDepth 100000
abbrev priS:X0:=⟨#[80,82,73,32,42,32,72,84,84,80,47,50,46,48,13,10,13,10,83,77,13,10,13,10]⟩
def goB(last code:Int):List Int:=B2w (7,0,0,big (A6d last) 4++big (A6d code) 4)
theorem F0T(last code:Int):(goB last code).length=17:=by
  simp only [goB,B2w,List.length_append,A9T,List.length_cons,List.length_nil]
structure BS where
  pre:Nat
  inn:List Int
  dead:Int
  m:HM
def B3K(pre:Nat)(m:HM)(code:Int):BS:=⟨pre,[],code,{m with g:=(0,false,[]),strs:= [],out:=m.out++goB m.last code}⟩
noncomputable def A1J(st:BS)(x:Int):BS:=
  if st.dead≠0 then st
  else if st.pre<24 then (if x=bt priS (st.pre:Int) then ⟨st.pre+1,st.inn,0,st.m⟩ else B3K st.pre st.m 1)
  else if codeF (st.inn ++ [x])=1 then ⟨st.pre,st.inn ++ [x],0,st.m⟩
  else if codeF (st.inn ++ [x])=2 then B3K st.pre st.m 6
  else if (frM st.m (P4 (st.inn ++ [x]))).1=0 then ⟨st.pre,[],0,(frM st.m (P4 (st.inn ++ [x]))).2⟩
  else B3K st.pre (frM st.m (P4 (st.inn ++ [x]))).2 (frM st.m (P4 (st.inn ++ [x]))).1
noncomputable def K8(st:BS)(b:List Int):BS:=b.foldl A1J st
theorem A6g(st:BS)(h:st.dead≠0):∀ b,K8 st b=st
  | []=>rfl
  | x::b=>by
    have e:A1J st x=st:=by unfold A1J;rw [if_pos h]
    show K8 (A1J st x) b=st;rw [e];exact A6g st h b
theorem D3r(st:BS)(a b:List Int):K8 st (a++b)=K8 (K8 st a) b:=by
  unfold K8;rw [List.foldl_append]
structure BI (st:BS):Prop where
  pre:st.pre<=24
  hi:HI st.m
  inb:Byt st.inn
  more:codeF st.inn=1
  emp:st.pre<24\/st.dead≠0->st.inn = []
  gone:st.dead≠0->st.m.strs = []/\st.m.g.1=0
  dead:0<=st.dead/\st.dead<=20
theorem E0w{pre:Nat}(hp:pre<=24){m:HM}(h1:0<=m.last/\m.last<=2147483647)(h2:W6 m.dec){code:Int}(hc:0<=code/\code<=20):BI (B3K pre m code):=
  ⟨hp,⟨F1q _,h1,h2,.inl ⟨rfl,rfl,rfl⟩,fun x hx=>by cases hx⟩,(fun x hx=>by cases hx),rfl,fun _=>rfl,fun _=>⟨rfl,rfl⟩,hc⟩
theorem D3s{b:List Int}(hb:Byt b){x:Int}(hx:0<=x/\x<256):Byt (b ++ [x]):=E0T hb fun y hy=>by rcases List.mem_singleton.1 hy with rfl;exact hx
theorem D3t{st:BS}(h:BI st){x:Int}(hx:0<=x/\x<256):BI (A1J st x)/\(A1J st x).m.calls.length<=st.m.calls.length+1/\(A1J st x).m.out.length<=st.m.out.length+1200:=by
  unfold A1J;by_cases hd:st.dead≠0
  · rw [if_pos hd];exact ⟨h,by omega,by omega⟩
  rw [if_neg hd];have hb:=D3s h.inb hx;have hg:=F0T;by_cases hp:st.pre<24
  · rw [if_pos hp]
    by_cases hq:x=bt priS (st.pre:Int)
    · rw [if_pos hq]
      refine ⟨⟨by simp only;omega,h.hi,h.inb,h.more,fun _=>h.emp (.inl hp),fun e=>absurd rfl e,by simp⟩,by simp only;omega,by simp only;omega⟩
    · rw [if_neg hq]
      exact ⟨E0w h.pre h.hi.last h.hi.dec (by omega),by simp only [B3K];omega,by simp only [B3K,List.length_append,hg];omega⟩
  rw [if_neg hp];by_cases c1:codeF (st.inn ++ [x])=1
  · rw [if_pos c1]
    exact ⟨⟨h.pre,h.hi,hb,c1,(fun e=>by rcases e with e | e;exact absurd e hp;exact absurd rfl e),(fun e=>absurd rfl e),by simp⟩,by simp only;omega,by simp only;omega⟩
  rw [if_neg c1];by_cases c2:codeF (st.inn ++ [x])=2
  · rw [if_pos c2]
    exact ⟨E0w h.pre h.hi.last h.hi.dec (by omega),by simp only [B3K];omega,by simp only [B3K,List.length_append,hg];omega⟩
  rw [if_neg c2];have c0:codeF (st.inn ++ [x])=0:=by have:=B60 (st.inn ++ [x]);omega
  have ho:=F5C h.hi (C1i hb c0);have h1:=ho.calls;have h2:=ho.out;by_cases hr:(frM st.m (P4 (st.inn ++ [x]))).1=0
  · rw [if_pos hr]
    exact ⟨⟨h.pre,ho.hi hr,(fun x hx=>by cases hx),rfl,fun _=>rfl,(fun e=>absurd rfl e),by simp⟩,by simp only;omega,by simp only;omega⟩
  · rw [if_neg hr]
    exact ⟨E0w h.pre ho.last ho.dec ho.code,by simp only [B3K];omega,by simp only [B3K,List.length_append,hg];omega⟩
theorem C1j:∀ {b:List Int} {st:BS},BI st->Byt b->BI (K8 st b)/\(K8 st b).m.calls.length<=st.m.calls.length+b.length/\(K8 st b).m.out.length<=st.m.out.length+1200*b.length
  | [],st,h,_=>⟨h,by simp [K8],by simp [K8]⟩
  | x::b,st,h,hb=>by
    obtain ⟨h1,h2,h3⟩:=D3t h (hb x List.mem_cons_self);obtain ⟨h4,h5,h6⟩:=C1j (b:=b) h1 fun y hy=>hb y (List.mem_cons_of_mem _ hy)
    have e:K8 st (x::b)=K8 (A1J st x) b:=rfl;rw [e];exact ⟨h4,by simp only [List.length_cons];omega,by simp only [List.length_cons];omega⟩
theorem C0L(st:BS)(hd:st.dead=0)(hp:¬ st.pre<24):∀ (k:Nat) (xs:List Int),xs.length=k->(∀ j,j<=k->codeF (st.inn++xs.take j)=1)->K8 st xs=⟨st.pre,st.inn++xs,0,st.m⟩:=by
  intro k
  induction k generalizing st with
  | zero=>
    intro xs hx _;have:xs = []:=List.length_eq_zero_iff.1 hx;subst this;show st=_;rw [List.append_nil];cases st;simp only at hd;subst hd;rfl
  | succ k ih=>
    intro xs hx hc;cases xs with
    | nil=>cases hx
    | cons x xs=>
      have h1:=hc 1 (by omega);simp only [List.take_succ_cons,List.take_zero] at h1;have e:A1J st x=⟨st.pre,st.inn ++ [x],0,st.m⟩:=by
        unfold A1J;rw [if_neg (by omega),if_neg hp,if_pos h1]
      show K8 (A1J st x) xs=_;rw [e,ih ⟨st.pre,st.inn ++ [x],0,st.m⟩ rfl hp xs (by simpa using hx) fun j hj=>by
        have:=hc (j+1) (by omega);simpa using this]
      simp
noncomputable def D3u:Nat->HM->List Int->Int×HM×List Int
  | 0,m,b=>(0,m,b)
  | k+1,m,b=>if codeF b=1 then (0,m,b) else if codeF b=2 then (6,m,b) else
    if (frM m (P4 b)).1≠0 then ((frM m (P4 b)).1,(frM m (P4 b)).2,b) else D3u k (frM m (P4 b)).2 (b.drop (A0d b))
def D93(pre:Nat)(r:Int×HM×List Int):BS:=if r.1=0 then ⟨pre,r.2.2,0,r.2.1⟩ else B3K pre r.2.1 r.1
theorem E3u(pre:Nat)(hp:¬ pre<24):∀ (k:Nat) (xs inn:List Int) (m:HM),inn.length+xs.length<=k->codeF inn=1->K8 ⟨pre,inn,0,m⟩ xs=D93 pre (D3u (k+1) m (inn++xs)):=by
  intro k
  induction k with
  | zero=>
    intro xs inn m hk hi;have h1:xs = []:=List.length_eq_zero_iff.1 (by omega);subst h1;simp only [D3u,List.append_nil,if_pos hi,D93,if_true];rfl
  | succ k ih=>
    intro xs inn m hk hi;rw [D3u];have hpre:∀ j,j<=inn.length+xs.length->inn.length<=j->(inn++xs).take j=inn++xs.take (j-inn.length):=fun j h1 h2=>by
      rw [List.take_append,List.take_of_length_le h2]
    rcases B60 (inn++xs) with c | c | c
    · obtain ⟨w1,w2,w3,w4,w5⟩:=B48 c
      have hlt:inn.length<A0d (inn++xs):=by
        rcases Nat.lt_or_ge inn.length (A0d (inn++xs)) with h | h
        · exact h
        · exfalso
          have h7:=C4h hi (A0d (inn++xs));have:(inn++xs).take (A0d (inn++xs))=inn.take (A0d (inn++xs)):=by rw [List.take_append_of_le_length h]
          rw [this,h7] at w5;cases w5
      rw [List.length_append] at w1;obtain ⟨n,hn⟩:∃ n,A0d (inn++xs)=inn.length+(n+1):=⟨A0d (inn++xs)-inn.length-1,by omega⟩;have hlen:n<xs.length:=by omega
      have hsplit:xs=xs.take n++(xs[n]::xs.drop (n+1)):=by
        rw [<- List.drop_eq_getElem_cons hlen,List.take_append_drop]
      have hw:K8 ⟨pre,inn,0,m⟩ (xs.take n)=⟨pre,inn++xs.take n,0,m⟩:=by
        refine C0L ⟨pre,inn,0,m⟩ rfl hp n (xs.take n) (by rw [List.length_take];omega) fun j hj=>?_
        have:=w4 (inn.length+j) (by omega);rw [hpre _ (by omega) (by omega)] at this;rw [List.take_take,Nat.min_eq_left hj];simpa using this
      have hB:inn++xs.take n ++ [xs[n]]=(inn++xs).take (A0d (inn++xs)):=by
        rw [hpre _ (by omega) (by omega),hn,show inn.length+(n+1)-inn.length=n+1 by omega,List.append_assoc,List.take_succ_eq_append_getElem hlen]
      have hD:(inn++xs).drop (A0d (inn++xs))=xs.drop (n+1):=by
        rw [hn,List.drop_append,List.drop_eq_nil_of_le (by omega),List.nil_append]
        congr 1
        omega
      rw [if_neg (by omega),if_neg (by omega)];have e1:K8 ⟨pre,inn,0,m⟩ xs=K8 (A1J ⟨pre,inn++xs.take n,0,m⟩ xs[n]) (xs.drop (n+1)):=by
        conv=>lhs;rw [hsplit]
        rw [D3r,hw];rfl
      rw [e1];have e2:A1J ⟨pre,inn++xs.take n,0,m⟩ xs[n]=if (frM m (P4 (inn++xs))).1=0 then ⟨pre,[],0,(frM m (P4 (inn++xs))).2⟩ else B3K pre (frM m (P4 (inn++xs))).2 (frM m (P4 (inn++xs))).1:=by
        unfold A1J;simp only [hB,w5,E3t c];rw [if_neg (by omega),if_neg hp,if_neg (by omega),if_neg (by omega)]
      rw [e2];by_cases hr:(frM m (P4 (inn++xs))).1=0
      · rw [if_pos hr,if_neg (by simpa using hr),hD]
        exact ih (xs.drop (n+1)) [] _ (by simp;omega) rfl
      · rw [if_neg hr,if_pos hr,A6g _ (by simpa [B3K] using hr)]
        simp only [D93,if_neg hr]
    · rw [if_pos c]
      simp only [D93,if_true];refine C0L ⟨pre,inn,0,m⟩ rfl hp xs.length xs rfl fun j hj=>?_
      have:=C4h c (inn.length+j);rw [hpre _ (by omega) (by omega)] at this;simpa using this
    · obtain ⟨w1,w2,w3⟩:=E3s c
      have hlt:inn.length<9:=by
        rcases Nat.lt_or_ge inn.length 9 with h | h
        · exact h
        · exfalso
          have h7:=C4h hi 9;have h8:=w3 9 (by omega);have:(inn++xs).take 9=inn.take 9:=by rw [List.take_append_of_le_length h]
          rw [this,h7] at h8;cases h8
      rw [List.length_append] at w1;obtain ⟨n,hn⟩:∃ n,9=inn.length+(n+1):=⟨8-inn.length,by omega⟩;have hlen:n<xs.length:=by omega
      have hsplit:xs=xs.take n++(xs[n]::xs.drop (n+1)):=by
        rw [<- List.drop_eq_getElem_cons hlen,List.take_append_drop]
      have hw:K8 ⟨pre,inn,0,m⟩ (xs.take n)=⟨pre,inn++xs.take n,0,m⟩:=by
        refine C0L ⟨pre,inn,0,m⟩ rfl hp n (xs.take n) (by rw [List.length_take];omega) fun j hj=>?_
        have:=w2 (inn.length+j) (by omega);rw [hpre _ (by omega) (by omega)] at this;rw [List.take_take,Nat.min_eq_left hj];simpa using this
      have hB:codeF (inn++xs.take n ++ [xs[n]])=2:=by
        have:=w3 9 (by omega);rw [hpre _ (by omega) (by omega),show 9-inn.length=n+1 by omega,List.take_succ_eq_append_getElem hlen,<- List.append_assoc] at this;exact this
      rw [if_neg (by omega),if_pos c];have e1:K8 ⟨pre,inn,0,m⟩ xs=K8 (A1J ⟨pre,inn++xs.take n,0,m⟩ xs[n]) (xs.drop (n+1)):=by
        conv=>lhs;rw [hsplit]
        rw [D3r,hw];rfl
      have e2:A1J ⟨pre,inn++xs.take n,0,m⟩ xs[n]=B3K pre m 6:=by
        unfold A1J;rw [if_neg (by simp),if_neg hp,if_neg (by simp only [hB];omega),if_pos hB]
      rw [e1,e2,A6g _ (by simp [B3K])];rfl
set_option maxRecDepth 100000
theorem E3v{c:E9}(h:B5w c.2.2.2.2.2.1 c.2.2.2.2.2.2.1):B8m c=true:=by
  obtain ⟨h1,h2,h3⟩:=h;have hall:∀ i,i<c.2.2.2.2.2.1.length->A7q c i=true:=fun i hi=>by
    have e:=A1r hi;have hs:=h3 _ (List.getElem_mem hi);rw [<- e] at hs;unfold E0s at hs;have e0:rd B7 c.2.2.2.2.2.1 (i:Int)=sAt c.2.2.2.2.2.1 i:=rfl;unfold A7q;rw [e0,A0 hs.1,A0 (show 1<=(sAt c.2.2.2.2.2.1 i).1/\(sAt c.2.2.2.2.2.1 i).1<=c.2.2.2.2.2.2.1 from ⟨hs.2.1,hs.2.2.1⟩),A1 (show ¬ (List.length (sAt c.2.2.2.2.2.1 i).2.2.2:Int)>2000 by omega)];have hst:(decide ((sAt c.2.2.2.2.2.1 i).2.1=1)||decide ((sAt c.2.2.2.2.2.1 i).2.1=2))=true:=by
      rcases hs.2.2.2.1 with q | q<;>rw [q]<;>rfl
    rw [hst];have hup:(decide (i=0)||!decide ((sAt c.2.2.2.2.2.1 i).1<=(rd B7 c.2.2.2.2.2.1 ((i:Int)-1)).1))=true:=by
      by_cases h0:i=0
      · rw [A0 h0];rfl
      · have e1:rd B7 c.2.2.2.2.2.1 ((i:Int)-1)=sAt c.2.2.2.2.2.1 (i-1):=by
          unfold sAt;rw [show (i:Int)-1=((i-1:Nat):Int) by omega]
        have hp:=List.pairwise_iff_getElem.1 h2 (i-1) i (by simp;omega) (by simpa using hi) (by omega);simp only [List.getElem_map] at hp;rw [e1,e,A1r (show i-1<c.2.2.2.2.2.1.length by omega),A1 (Int.not_le.2 hp),Bool.not_false,Bool.or_true]
    rw [hup];rfl
  have hn:A1f (A7q c) 0 c.2.2.2.2.2.1.length=c.2.2.2.2.2.1.length:=C9n _ _ _ (Nat.le_refl _) hall (fun h=>absurd h (Nat.lt_irrefl _));unfold B8m;rw [A0 hn,A0 (show (c.2.2.2.2.2.1.length:Int)<=100 by omega)];rfl
abbrev bsC(enc:B2)(st:BS):E9:=mkC (st.pre:Int) st.inn enc st.dead st.m
abbrev bsH(enc:B2)(st:BS):B6:=mkH (st.pre:Int) st.inn enc st.dead st.m
theorem C1k{b:List Int}(h:codeF b=1):b.length<=1009:=by
  unfold codeF at h;split at h
  · omega
  · split at h
    · cases h
    · split at h
      · omega
      · cases h
theorem D6n{enc:B2}(he:W6 enc){st:BS}(h:BI st):A3v (bsC enc st)=some (true,()):=by
  have hpre:=h.pre;have hd:=h.dead;have hl:=h.hi.last;have hn:=C1k h.more;have hsl:=h.hi.strs.1;have e5:=D8n (bsC enc st) (by simp only [maxLen];omega);rw [E3v (c:=bsC enc st) h.hi.strs] at e5;have e6:=B30 st.inn h.inb (by omega) 0 (by omega);have e7:=(B47 (b:=st.inn) (a:=0) (by omega)).1;rw [List.drop_zero,h.more,show ((0:Nat):Int)=0 from rfl] at e7;simp only [A3v,B7M,K1,B8o h.hi.g,E3f h.hi.dec,E3f he,bO];rw [e5];rw [A0 (show (0:Int)<=(st.pre:Int)/\(st.pre:Int)<=24 by omega),A0 hl,A0 hd,A1 (show ¬ (st.inn.length:Int)>1100 by omega),e6];simp only [Bool.not_true,cond_false,bO,bSl,e7];by_cases h1:st.pre<24
  · have hi:st.inn.length=0:=by rw [h.emp (.inl h1)];rfl
    rw [A0 (show (st.pre:Int)<24 by omega),A1 (show ¬ (st.inn.length:Int)>0 by omega)];simp only [cond_true,cond_false];by_cases h2:st.dead>0
    · obtain ⟨g1,g2⟩:=h.gone (by omega)
      have g3:st.m.strs.length=0:=by rw [g1];rfl
      rw [A0 h2,A1 (show ¬ (st.m.strs.length:Int)>0 by omega),A0 g2];rfl
    · rw [A1 h2];rfl
  · rw [A1 (show ¬ (st.pre:Int)<24 by omega)]
    by_cases h2:st.dead>0
    · have hi:st.inn.length=0:=by rw [h.emp (.inr (by omega))];rfl
      obtain ⟨g1,g2⟩:=h.gone (by omega);have g3:st.m.strs.length=0:=by rw [g1];rfl
      rw [A0 h2,A1 (show ¬ (st.inn.length:Int)>0 by omega),A1 (show ¬ (st.m.strs.length:Int)>0 by omega),A0 g2];rfl
    · rw [A1 h2];rfl
theorem E10(F T:List Int)(h1:F.length<=10000000000)(h2:T.length<=10000000000):O0 [F,T]=some (F++T,()):=by
  have r0:rd (.sl 5 (.int .u8)) ([F,T]:List (List Int)) 0=F:=rfl;have r1:rd (.sl 5 (.int .u8)) ([F,T]:List (List Int)) 1=T:=rfl;have hl:(([F,T]:List (List Int)).length:Int)=2:=rfl;have d0:decide ((0:Int)<2)=true:=rfl;have d1:decide ((0:Int)<=0)=true:=rfl;have d2:decide ((1:Int)<2)=true:=rfl;have d3:decide ((0:Int)<=1)=true:=rfl;have a1:C3 (R5 [F,T]) (0,0,())=some ((F.length:Int)+T.length,()):=by
    rw [A3F (y:=((F.length:Int),1,())) (by
      simp only [R5,hl,r0,d0,d1,cond_true,Int.zero_add];rw [w64 (n:=(F.length:Int)) (by omega) (by omega),A1 (p:=(F.length:Int)<0) (by omega)];rfl)]
    rw [A3F (y:=((F.length:Int)+T.length,2,())) (by
      simp only [R5,hl,r1,d2,d3,cond_true];rw [w64 (n:=(F.length:Int)+T.length) (by omega) (by omega),A1 (p:=(F.length:Int)+T.length<0) (by omega)];rfl)]
    rw [C8];rfl
  have a2:B9D ([]:List Int) ((F.length:Int)+T.length)=some ([],()):=by
    have:(([]:List Int).isEmpty&&decide (0<=(F.length:Int)+T.length)&&decide ((F.length:Int)+T.length<=1000000000000))=true:=by
      rw [A0 (by omega),A0 (by omega)];rfl
    simp only [B9D,this,cond_true]
  have a3:C3 (R6 [F,T]) (0,[],())=some (F++T,()):=by
    rw [A3F (y:=(1,F,())) (by
      simp only [R6,hl,r0,d0,d1,cond_true];rw [gA (by simp;omega)];rfl)]
    rw [A3F (y:=(2,F++T,())) (by
      simp only [R6,hl,r1,d2,d3,cond_true];rw [gA (by omega)];rfl)]
    rw [C8];rfl
  simp only [O0,A0v,a1,A3];rw [show W5=B9D from rfl,a2];exact a3
def I1:List Int->Nat->Int×Nat×List Int
  | [],p=>(0,p,[])
  | x::xs,p=>if p<24 then (if x=bt priS (p:Int) then I1 xs (p+1) else (1,p,[])) else (0,p,x::xs)
theorem D94:∀ (xs:List Int) (p:Nat),p<=24->(I1 xs p).2.1<=24/\(I1 xs p).2.2.length<=xs.length/\((I1 xs p).1=0\/(I1 xs p).1=1)/\(∀ x∈(I1 xs p).2.2,x∈xs)/\((I1 xs p).2.1<24->(I1 xs p).2.2 = [])
  | [],p,h=>⟨h,by simp [I1],.inl rfl,fun x hx=>by simp [I1] at hx,fun _=>rfl⟩
  | x::xs,p,h=>by
    unfold I1;by_cases hp:p<24
    · rw [if_pos hp]
      by_cases hx:x=bt priS (p:Int)
      · rw [if_pos hx]
        obtain ⟨a,b,c,d,e⟩:=D94 xs (p+1) (by omega);exact ⟨a,by simp only [List.length_cons];omega,c,fun y hy=>List.mem_cons_of_mem _ (d y hy),e⟩
      · rw [if_neg hx]
        exact ⟨h,by simp,.inr rfl,(fun y hy=>by cases hy),fun _=>rfl⟩
    · rw [if_neg hp]
      exact ⟨h,Nat.le_refl _,.inl rfl,fun y hy=>hy,fun q=>absurd q hp⟩
theorem C65(inn:List Int)(m:HM):∀ (xs:List Int) (p:Nat),p<=24->K8 ⟨p,inn,0,m⟩ xs=if (I1 xs p).1=0 then K8 ⟨(I1 xs p).2.1,inn,0,m⟩ (I1 xs p).2.2 else B3K (I1 xs p).2.1 m 1
  | [],p,_=>by simp [I1]
  | x::xs,p,h=>by
    have e:K8 ⟨p,inn,0,m⟩ (x::xs)=K8 (A1J ⟨p,inn,0,m⟩ x) xs:=rfl;unfold I1;by_cases hp:p<24
    · rw [if_pos hp,e]
      by_cases hx:x=bt priS (p:Int)
      · have e2:A1J ⟨p,inn,0,m⟩ x=⟨p+1,inn,0,m⟩:=by
          unfold A1J;rw [if_neg (by simp),if_pos hp,if_pos hx]
        rw [if_pos hx,e2];exact C65 inn m xs (p+1) (by omega)
      · have e2:A1J ⟨p,inn,0,m⟩ x=B3K p m 1:=by
          unfold A1J;rw [if_neg (by simp),if_pos hp,if_neg hx]
        rw [if_neg hx,e2,A6g _ (by simp [B3K])];rfl
    · rw [if_neg hp]
      rfl
section
variable (enc:B2)
theorem D3v(inn:List Int)(dead:Int)(m:HM):∀ (xs:List Int) (p:Nat),p<=24->Byt xs->xs.length<=1000000000->H8 (mkH (p:Int) inn enc dead m) xs=some ((I1 xs p).2.2,(I1 xs p).1,mkH ((I1 xs p).2.1:Int) inn enc dead m,())
  | [],p,h,_,_=>by
    simp only [H8,N5];rw [C8];simp only [P2,List.length_nil,show decide (((0:Nat):Int)>0)=false from rfl,cond_false,bSr];rfl
  | x::xs,p,h,hb,hl=>by
    have d1:decide ((((x::xs).length:Nat):Int)>0)=true:=A0 (by simp only [List.length_cons];omega);have d2:decide ((0:Int)<(((x::xs).length:Nat):Int))=true:=A0 (by simp only [List.length_cons];omega);have d3:decide ((1:Int)<=(((x::xs).length:Nat):Int))=true:=A0 (by simp only [List.length_cons];omega);have e0:rd (.int .u8) (x::xs) 0=x:=rfl;have ht:((x::xs).take (x::xs).length).drop 1=xs:=by rw [List.take_length];rfl
    unfold I1;by_cases hp:p<24
    · have d4:decide ((p:Int)<24)=true:=A0 (by omega)
      have d5:decide ((0:Int)<=(p:Int))=true:=A0 (by omega);have d6:decide ((p:Int)<(priS.size:Int))=true:=A0 (by rw [show priS.size=24 from rfl];omega);rw [if_pos hp];by_cases hx:x=bt priS (p:Int)
      · have w1:i64.wrap ((p:Int)+1)=((p+1:Nat):Int):=by rw [w64 (by omega) (by omega)];omega
        rw [if_pos hx,<- D3v inn dead m xs (p+1) (by omega) (fun y hy=>hb y (List.mem_cons_of_mem _ hy)) (by simp only [List.length_cons] at hl;omega)];simp only [H8,N5]
        conv=>lhs;rw [C8]
        simp only [P2,d1,d2,d3,d4,d5,d6,cond_true,bSl,e0,A0 hx,Bool.not_true,cond_false,ht,w1]
      · rw [if_neg hx]
        simp only [H8,N5];rw [C8];simp only [P2,d1,d2,d3,d4,d5,d6,cond_true,bSl,e0,A1 hx,Bool.not_false,bSr]
    · have d4:decide ((p:Int)<24)=false:=A1 (by omega)
      rw [if_neg hp];simp only [H8,N5];rw [C8];simp only [P2,d1,d4,cond_true,cond_false,bSr];rfl
abbrev frL(a:Int)(pre:Int)(inn:List Int)(dead:Int)(m:HM):Int×Int×Int×Bool×Int×Int×Int×Int×List Int×List Int×List A4×List A4×List F7×List H0×List Int×Unit:=
  (a,pre,m.g.1,m.g.2.1,m.dec.1,enc.1,m.last,dead,inn,m.g.2.2,m.dec.2,enc.2,m.strs,m.calls,m.out,())
theorem C2V(pre:Int)(inn:List Int)(dead:Int)(b:List Int)(hb:Byt b)(hl:b.length<=1000000000):∀ (k a:Nat) (m:HM),a<=b.length->b.length<a+k->HI m->m.calls.length<=a->m.out.length<=1100*a->
    C3 (A5F A0H U8 B8 b) (frL enc (a:Int) pre inn dead m) =
      some ((D3u k m (b.drop a)).1,mkH pre (if (D3u k m (b.drop a)).1=0 then (D3u k m (b.drop a)).2.2 else inn) enc dead (D3u k m (b.drop a)).2.1,())
  | 0,a,m,ha,hk,_,_,_=>by omega
  | k+1,a,m,ha,hk,hi,hc,ho=>by
    have e1:=B30 b hb (by omega) (a:Int) (by omega);obtain ⟨g1,g2⟩:=B47 ha;rw [C8];simp only [A5F,e1,bO,g1];unfold D3u;rcases B60 (b.drop a) with c | c | c
    · obtain ⟨f1,f2,f3⟩:=g2 c
      have w:=B48 c;have hfi:=C1i (C0D hb a) c;have hfo:=F5C hi hfi;have e2:=E7B pre inn enc dead m hi ⟨by omega,by omega⟩ (P4 (b.drop a)) hfi;have e2':U8 ((pre,inn,(m.g.1,m.g.2.1,m.g.2.2),(m.dec.1,m.dec.2),(enc.1,enc.2),m.strs,m.last,dead),m.calls,m.out) (P4 (b.drop a))=some ((frM m (P4 (b.drop a))).1,mkH pre inn enc dead (frM m (P4 (b.drop a))).2,()):=e2;rw [c];simp only [show decide (((0:Nat):Int)=1)=false from rfl,show decide (((0:Nat):Int)=2)=false from rfl,cond_false,f1,f2,e2',bO];rw [if_neg (show ¬ (0:Nat)=1 by omega),if_neg (show ¬ (0:Nat)=2 by omega)];by_cases hr:(frM m (P4 (b.drop a))).1=0
      · rw [A0 hr,if_neg (show ¬ (frM m (P4 (b.drop a))).1≠0 by simpa using hr)]
        have ih:=C2V pre inn dead b hb hl k (a+A0d (b.drop a)) (frM m (P4 (b.drop a))).2 f3 (by omega) (hfo.hi hr) (by have:=hfo.calls;omega) (by have:=hfo.out;omega);rw [List.drop_drop];simp only [Bool.not_true,cond_false];exact ih
      · rw [A1 hr,if_pos (show (frM m (P4 (b.drop a))).1≠0 from hr)]
        simp only [Bool.not_false,cond_true];rw [if_neg hr]
    · rw [c]
      simp only [show decide (((1:Nat):Int)=1)=true from rfl,cond_true,if_true];rw [A0 (show (0:Int)<=(a:Int) by omega),A0 (show (a:Int)<=(b.length:Int) by omega),List.take_length,Int.toNat_natCast,A8q _ (by simp;omega)];rfl
    · rw [c]
      simp only [show decide (((2:Nat):Int)=1)=false from rfl,show decide (((2:Nat):Int)=2)=true from rfl,cond_true,cond_false];rw [if_neg (show ¬ (2:Nat)=1 by omega),if_pos trivial];rfl
theorem E3w(pre:Nat)(inn:List Int)(m:HM)(code:Int)(ho:m.out.length<=100000000000000):A43 (mkH (pre:Int) inn enc 0 m) code=some (bsH enc (B3K pre m code),()):=by
  have e1:=B45 [] m.last 4 (by omega) (by simp);have e2:=B45 ([]++big (A6d m.last) 4) code 4 (by omega) (by simp [A9T]);rw [show ((4:Nat):Int)=4 from rfl] at e1 e2;have hg:=F0T m.last code;simp only [A43,B2o,A9D,B5B,e1,bO,e2];rw [C2N _ _ (by simp [A9T];omega)];rfl
theorem D3w(he:W6 enc){st:BS}(h:BI st)(hc:st.m.calls = [])(ho:st.m.out = []){b:List Int}(hb:Byt b)(hl:b.length<=900000000) :
    A0c (bsC enc st) b=some (bsC enc (K8 st b),(K8 st b).m.calls,(K8 st b).m.out,()):=by
  have hsl:=h.hi.strs.1;have hdl:=A60 h.hi.dec;have hel:=A60 he;have hgl:=h.hi.g;have hil:=C1k h.more;have hcp:=C9r (bsC enc st) ⟨by simp only;omega,(by rcases hgl with ⟨_,_,q⟩ | ⟨_,_,q⟩;(simp only [q];simp);(simp only;omega)),by simp only;omega,by simp only;omega,by simp only;omega,fun x hx=>by have:=(h.hi.strs.2.2 x hx).2.2.2.2;omega⟩;obtain ⟨pre,inn,dead,m⟩:=st;simp only at hc ho hcp;simp only [A0c,A9F,hcp,bO];have hd:=h.dead;by_cases h0:dead=0
  · subst h0
    have hck:=D6n he h;simp only [bsC] at hck;simp only [show decide ((0:Int)>0)=false from rfl,cond_false,hck,bO,Bool.not_true,bSl];have es:=D3v enc inn 0 m b pre h.pre hb (by omega);simp only [mkH,hc,ho] at es;rw [es];simp only [bO];obtain ⟨s1,s2,s3,s4,s5⟩:=D94 b pre h.pre;rw [C65 inn m b pre h.pre];rcases s3 with s3 | s3
    · rw [s3,E10 inn _ (by simp only at hil;omega) (by omega)]
      simp only [decide_true,cond_true,bO,if_true,A3T,A7a];have hB:Byt (inn++(I1 b pre).2.2):=E0T h.inb fun y hy=>hb y (s4 y hy)
      have hBl:(inn++(I1 b pre).2.2).length<=1000000000:=by rw [List.length_append];simp only at hil;omega
      have el:=C2V enc ((I1 b pre).2.1:Int) inn 0 (inn++(I1 b pre).2.2) hB hBl ((inn++(I1 b pre).2.2).length+1) 0 m (by omega) (by omega) h.hi (by rw [hc];simp) (by rw [ho];simp);simp only [frL,hc,ho] at el;rw [show ((0:Nat):Int)=0 from rfl,List.drop_zero] at el;rw [el];simp only [bO];have key:K8 ⟨(I1 b pre).2.1,inn,0,m⟩ (I1 b pre).2.2=D93 (I1 b pre).2.1 (D3u ((inn++(I1 b pre).2.2).length+1) m (inn++(I1 b pre).2.2)):=by
        by_cases hp:(I1 b pre).2.1<24
        · have hr:=s5 hp
          rw [hr];have hi0:inn = []:=by
            refine h.emp (.inl ?_);have:pre<=(I1 b pre).2.1:=by
              have:∀ (xs:List Int) (p:Nat),p<=(I1 xs p).2.1:=by
                intro xs
                induction xs with
                | nil=>intro p;exact Nat.le_refl _
                | cons x xs ih=>
                  intro p;unfold I1;split
                  · split
                    · have:=ih (p+1);omega
                    · exact Nat.le_refl _
                  · exact Nat.le_refl _
              exact this b pre
            simp only;omega
          subst hi0;rfl
        · exact E3u _ hp _ (I1 b pre).2.2 inn m (by rw [List.length_append];omega) h.more
      rw [key];have hbi:=(C1j (st:=⟨(I1 b pre).2.1,inn,0,m⟩) (b:=(I1 b pre).2.2) ⟨s1,h.hi,h.inb,h.more,(fun q=>h.emp (by
        rcases q with q | q
        · left
          have:∀ (xs:List Int) (p:Nat),p<=(I1 xs p).2.1:=by
            intro xs
            induction xs with
            | nil=>intro p;exact Nat.le_refl _
            | cons x xs ih=>
              intro p;unfold I1;split
              · split
                · have:=ih (p+1);omega
                · exact Nat.le_refl _
              · exact Nat.le_refl _
          have:=this b pre;simp only at q ⊢;omega
        · exact absurd rfl q)),(fun q=>absurd rfl q),by simp⟩ fun y hy=>hb y (s4 y hy)).2.2
      rw [key] at hbi;unfold D93 at hbi ⊢;generalize D3u ((inn++(I1 b pre).2.2).length+1) m (inn++(I1 b pre).2.2)=R at hbi ⊢;by_cases hR:R.1=0
      · rw [if_pos hR,if_pos hR,A0 hR]
        rfl
      · rw [if_neg hR,if_neg hR,A1 hR]
        rw [if_neg hR] at hbi;have ee:=E3w enc (I1 b pre).2.1 inn R.2.1 R.1 (by
          simp only [B3K,List.length_append,ho,List.length_nil] at hbi;omega)
        simp only [mkH,mkC] at ee;simp only [Bool.not_false,cond_true,mkH,mkC,ee,bO]
    · rw [s3]
      simp only [show decide ((1:Int)=0)=false from rfl,cond_false,bO,Bool.not_false,cond_true];have ee:=E3w enc (I1 b pre).2.1 inn m 1 (by rw [ho];simp);simp only [mkH,mkC,hc,ho] at ee;rw [ee];rfl
  · have hp:dead>0:=by simp only at hd;omega
    rw [A0 hp];simp only [cond_true,bSr];rw [A6g _ h0];simp only [hc,ho]
end
set_option maxRecDepth 100000
set_option maxRecDepth 100000
def CI(cs:List H0):Prop:=∀ c∈cs,c.2.2.1.length<=2000
theorem F0U{cs:List H0}(h:CI cs){c:H0}(hc:c.2.2.1.length<=2000):CI (cs ++ [c]):=fun x hx=>by
  rcases List.mem_append.1 hx with q | q
  · exact h x q
  · rcases List.mem_singleton.1 q with rfl;exact hc
theorem D95{m:HM}(h:CI m.calls){s:F7}(hs:s.2.2.2.length<=2000):CI (A3O m s).calls:=by
  unfold A3O;split
  · exact F0U h hs
  · exact h
theorem E40{m:HM}(h:CI m.calls){i:Nat}(hs:(sAt m.strs i).2.2.2.length<=2000)(ev:Int):CI (A7t m i ev).2.calls:=by
  unfold A7t;split
  · exact h
  · split
    · exact h
    · exact D95 (m:=A07 m i _) h hs
theorem F1v{m:HM}(hi:HI m)(h:CI m.calls)(id:Int)(fin:Bool)(b:List Int):CI (B5K m id fin b).2.calls:=by
  unfold B5K;split
  · exact h
  · split
    · rename_i hh
      have hlt:=A9U hh;have hst:=(hi.strs.2.2 _ (List.getElem_mem hlt.1)).2.2.2.2;rw [<- A1r hlt.1] at hst;exact E40 (m:={m with dec:=(I0 m.dec 4096 b).2.1}) h hst _
    · unfold C8d
      split
      · exact h
      · split
        · exact h
        · split
          · exact F0U h (by simp)
          · exact D95 (m:={m with dec:=(I0 m.dec 4096 b).2.1,last:=id,strs:=m.strs ++ [(id,(if fin then 2 else 1),(A2C (I0 m.dec 4096 b).1).1,[])]}) h (by simp)
theorem F80{m:HM}(hi:HI m)(h:CI m.calls){f:C1}(hf:FrI f):CI (frM m f).2.calls:=by
  have hu:CI (D3q m f).2.calls:=by unfold D3q;split<;>exact h
  have ha:∀ b,CI (D1P m f b).calls:=fun b=>by unfold D1P;cases A0l f 1<;>exact h
  have hr:=E0v f;unfold frM;by_cases c2:fcV f=2
  · rw [if_pos c2];exact h
  rw [if_neg c2];by_cases c3:fcV f=3
  · rw [if_pos c3];exact h
  rw [if_neg c3];have hc:fcV f=0:=by omega
  by_cases k:m.g.1≠0\/f.1=1\/f.1=9
  · rw [if_pos k]
    have hok:=C62 hi.g hi.gb hf (by by_cases h1:f.1=1;exact .inl (D2C hc h1);exact .inr h1);unfold C2U;split
    · exact h
    · split
      · exact h
      · split
        · exact F1v (m:={m with g:=(J2 m.g f).1}) ⟨hi.strs,hi.last,hi.dec,hok.1,hok.2.1⟩ h _ _ _
        · exact h
  rw [if_neg k];split
  · exact ha _
  · split
    · exact ha _
    · split
      · exact h
      · split
        · split<;>exact h
        · split
          · unfold C0K
            split
            · rename_i hh
              have hlt:=A9U hh;split
              · exact h
              · split
                · exact h
                · rename_i hq
                  refine E40 (m:=A07 m _ _) h ?_ _;simp only [A07];rw [A1r (by simpa using hlt.1),List.getElem_set_self];simp only [List.length_append];omega
            · exact hu
          · split
            · unfold B84
              split
              · exact h
              · exact hu
            · exact h
theorem F5D{st:BS}(h:BI st)(hc:CI st.m.calls){x:Int}(hx:0<=x/\x<256):CI (A1J st x).m.calls:=by
  unfold A1J;split
  · exact hc
  · split
    · split<;>exact hc
    · rename_i hp
      by_cases c1:codeF (st.inn ++ [x])=1
      · rw [if_pos c1];exact hc
      rw [if_neg c1];by_cases c2:codeF (st.inn ++ [x])=2
      · rw [if_pos c2];exact hc
      rw [if_neg c2];have c0:codeF (st.inn ++ [x])=0:=by have:=B60 (st.inn ++ [x]);omega
      have:=F80 h.hi hc (C1i (D3s h.inb hx) c0);split<;>exact this
theorem D96:∀ {b:List Int} {st:BS},BI st->Byt b->CI st.m.calls->CI (K8 st b).m.calls
  | [],st,h,_,hc=>hc
  | x::b,st,h,hb,hc=>by
    have hx:=hb x List.mem_cons_self;have e:K8 st (x::b)=K8 (A1J st x) b:=rfl;rw [e];exact D96 (D3t h hx).1 (fun y hy=>hb y (List.mem_cons_of_mem _ hy)) (F5D h hc hx)
set_option maxRecDepth 100000
theorem C0M(f:C1):A1c f=some (fcV f,()):=by
  have h1:A2K f=Q7 f:=by
    rw [C5k f];simp only [Q7,A3w,K1,bO,A2B];cases decide (0<=f.1/\f.1<=255)<;>cases decide (0<=f.2.1/\f.2.1<=255)<;>cases decide (0<=f.2.2.1/\f.2.2.1<=2147483647)<;>rfl
  have h2:B2p f=U5 f:=by
    have e:decide (N8 .i64 f.2.1 1=0)=!A0l f 1:=by unfold A0l;rw [Bool.not_not]
    simp only [B2p,C4Q,U5,A6A,A5b,bO,e];by_cases c2:f.1=2
    · rw [A0 c2];rfl
    rw [A1 c2];by_cases c3:f.1=3
    · rw [A0 c3];rfl
    rw [A1 c3];by_cases c8:f.1=8
    · rw [A0 c8];rfl
    rw [A1 c8];by_cases c6:f.1=6
    · rw [A0 c6];rfl
    rw [A1 c6];by_cases c7:f.1=7
    · rw [A0 c7,A1 (show ¬ f.1=4 by omega)];rfl
    rw [A1 c7];cases decide (f.1=4)<;>cases decide ((f.2.2.2.length:Int).tmod 6=0)<;>cases decide ((f.2.2.2.length:Int)=0)<;>cases A0l f 1<;>rfl
  rw [<- A2D f];simp only [A1c,B5D,I3,A1W,h1,h2]
theorem F5E(f:C1):(A3 (bif (decide (f.1=1)) then some ((!decide ((N8 .i64 f.2.1 32)=0)),()) else some (false,())) fun (m2:Bool×Unit)=>some (m2.1,()))=some (decide (B83 f=5),()):=by
  unfold B83;by_cases h:f.1=1
  · rw [A0 h,if_pos h,cond_true,bO,show (!decide (N8 .i64 f.2.1 32=0))=A0l f 32 from rfl]
    cases A0l f 32<;>rfl
  · rw [A1 h,if_neg h];rfl
theorem F5F(b:List Int)(a m:Int)(ha:a=0\/a=5)(hm:0<=m)(hl:b.length<=1000000)(c:List Int)(hc:(c.length:Int)=(b.length:Int)-m)(e:c=b.take ((b.length:Int)-m).toNat) :
    (bif decide (a=5) then bif (decide ((c.length:Int)<5)) then some (([]:List Int),false,()) else bif decide (5<=(c.length:Int)) then bif decide (([]:List Int).length+((c.take c.length).drop 5).length<=9223372036854775807) then bif decide ((([]:List Int).length+((c.take c.length).drop 5).length)*1<=140737488355328) then some (([]++((c.take c.length).drop 5)),true,()) else none else none else none else bif decide (([]:List Int).length+c.length<=9223372036854775807) then bif decide ((([]:List Int).length+c.length)*1<=140737488355328) then some (([]++c),true,()) else none else none)=some ((C61 b a m).1,(C61 b a m).2,()):=by
  unfold C61;rw [gA (by simp;omega),gA (by simp;omega),List.take_length];rcases ha with rfl | rfl
  · rw [A1 (by omega),cond_false,if_neg (by omega),<- e]
    rfl
  · rw [A0 rfl,cond_true]
    by_cases h:(c.length:Int)<5
    · rw [A0 h,if_pos (by omega)];rfl
    · rw [A1 h,if_neg (by omega),A0 (show (5:Int)<=(c.length:Int) by omega),<- e]
      rfl
theorem D40{f:C1}(hf:FrI f):A8l f=some ((A6K f).1,(A6K f).2,()):=by
  have hr:B83 f=0\/B83 f=5:=by
    unfold B83;split
    · cases A0l f 32<;>simp
    · simp
  have hn:=hf.n;have hu:∀ {R:Type} (K:Bool×Unit->Option R),A3 (bif (decide (f.1=1)) then some ((!decide ((N8 .i64 f.2.1 32)=0)),()) else some (false,())) K=K (decide (B83 f=5),()):=fun K=>by
    have h:=F5E f;generalize (bif (decide (f.1=1)) then some ((!decide ((N8 .i64 f.2.1 32)=0)),()) else some (false,()))=X at *
    cases X with
    | none=>cases h
    | some x=>
      obtain ⟨x,u⟩:=x;simp only [bO,Option.some.injEq,Prod.mk.injEq] at h;rw [h.1,bO]
  simp only [A8l,C8R,hu,show (!decide (N8 .i64 f.2.1 8=0))=A0l f 8 from rfl];unfold A6K;cases A0l f 8
  · simp only [cond_false,bSl,bO]
    exact F5F f.2.2.2 (B83 f) 0 hr (by omega) (by omega) f.2.2.2 (by omega) (by rw [show ((f.2.2.2.length:Int)-0).toNat=f.2.2.2.length by omega,List.take_length])
  · simp only [cond_true]
    by_cases h0:f.2.2.2.length=0
    · rw [A0 (show (f.2.2.2.length:Int)=0 by omega),if_pos h0];rfl
    · have h1:=B0d hf.b (show 0<f.2.2.2.length by omega)
      rw [show ((0:Nat):Int)=0 from rfl] at h1;rw [A1 (show ¬ (f.2.2.2.length:Int)=0 by omega),if_neg h0,A0 (show (0:Int)<(f.2.2.2.length:Int) by omega),h1.1,w64 (n:=(byN f.2.2.2 0:Int)) (by omega) (by omega),w64 (n:=(f.2.2.2.length:Int)-1) (by omega) (by omega),w64 (n:=(f.2.2.2.length:Int)-(byN f.2.2.2 0:Int)) (by omega) (by omega)];by_cases h2:(byN f.2.2.2 0:Int)>(f.2.2.2.length:Int)-1
      · rw [A0 h2]
        have:C61 (f.2.2.2.drop 1) (B83 f) (byN f.2.2.2 0:Int)=([],false):=by
          unfold C61;rw [if_pos (by rw [List.length_drop];omega)]
        rw [this];rfl
      · rw [A1 h2,A0 (show (1:Int)<=(f.2.2.2.length:Int)-(byN f.2.2.2 0:Int) by omega),A0 (show (f.2.2.2.length:Int)-(byN f.2.2.2 0:Int)<=(f.2.2.2.length:Int) by omega)]
        simp only [cond_false,cond_true,bSl,bO];exact F5F (f.2.2.2.drop 1) (B83 f) (byN f.2.2.2 0:Int) hr (by omega) (by simp;omega) _ (by rw [List.length_drop,List.length_drop,List.length_take];omega) (by rw [List.drop_take];congr 1;rw [List.length_drop];omega)
theorem D1Q{g:D6}(h:GaI g):S5 g=some (true,()):=by
  simp only [S5,A7c,U1,bO];rcases h with ⟨h1,h2,h3⟩ | ⟨h1,h2,h3⟩
  · rw [A0 h1,h2,h3];rfl
  · rw [A1 (show ¬ g.1=0 by omega),A0 (show 1<=g.1/\g.1<=2147483647 from ⟨h1,h2⟩),A0 (show (g.2.2.length:Int)<=3000 by omega)]
    rfl
theorem F1w{g:D6}(hg:GaI g){f:C1}(hf:FrI f):C02 g f=some ((J2 g f).1,(J2 g f).2.1,(J2 g f).2.2,()):=by
  have hl:=hg.len;have hn:=hf.n;have hcp:=D8p g (by omega);have hin:(bif (decide (g.1>0)) then bif (!decide (f.1=9)) then some (true,()) else bif (!decide (f.2.2.1=g.1)) then some (true,()) else bif (decide (g.1=0)) then some ((decide (f.1=9)),()) else some (false,()) else bif (decide (g.1=0)) then some ((decide (f.1=9)),()) else some (false,()))=some (!A6L g f,()):=by
    unfold A6L;rcases hg with ⟨h1,h2,h3⟩ | ⟨h1,h2,h3⟩
    · rw [A1 (show ¬ g.1>0 by omega),A0 h1,if_pos h1,Bool.not_not];rfl
    · rw [A0 (show g.1>0 by omega),A1 (show ¬ g.1=0 by omega),if_neg (show ¬ g.1=0 by omega)]
      cases decide (f.1=9)<;>cases decide (f.2.2.1=g.1)<;>rfl
  simp only [C02,D3F,D1Q hg,C0M,hcp,D40 hf,bO,Bool.not_true,cond_false,hin,show ∀ k,(!decide (N8 .i64 f.2.1 k=0))=A0l f k from fun _=>rfl];unfold J2;cases decide (fcV f=0)
  case false=>rfl
  cases A6L g f
  case false=>rfl
  simp only [Bool.not_true,cond_false,bO,bSl,Bool.or_self];unfold D92;by_cases h1:f.1=1
  · rw [A0 h1,if_pos h1]
    simp only [cond_true];cases hu:(A6K f).2 with
    | false=>rfl
    | true=>
      simp only [Bool.not_true,cond_false,bSl,Bool.true_eq_false,if_false];unfold B32;by_cases h3:((A6K f).1.length:Int)>3000
      · rw [A0 h3,if_pos h3];rfl
      · rw [A1 h3,if_neg h3]
        cases A0l f 4<;>rfl
  · rw [A1 h1,if_neg h1]
    simp only [cond_false];by_cases h9:f.1=9
    · rw [A0 h9,if_pos h9,gA (by omega)]
      simp only [cond_true,bSl];unfold B32;by_cases h3:((g.2.2++f.2.2.2).length:Int)>3000
      · rw [A0 h3,if_pos h3];rfl
      · rw [A1 h3,if_neg h3]
        cases A0l f 4<;>rfl
    · rw [A1 h9,if_neg h9];rfl
theorem F5G(ev:Int):ev=1\/ev=2\/ev=3\/ev=4\/ev=5\/ev=6\/ev=7\/ev=8\/ev=9\/ev=10\/¬ (1<=ev/\ev<=10):=by omega
theorem F20(st ev:Int):A46 st ev=some ((stV st ev).1,(stV st ev).2,()):=by
  rw [<- D90];simp only [A46,B2q,N1,A7S,U1,K1,bO];rcases F5G ev with rfl | rfl | rfl | rfl | rfl | rfl | rfl | rfl | rfl | rfl | h
  case inr.inr.inr.inr.inr.inr.inr.inr.inr.inr=>rw [A1 h];rfl
  all_goals
    by_cases h4:st=4
    · subst h4;rfl
    · rw [A1 h4]
      cases decide (st=0)<;>cases decide (st=1)<;>cases decide (st=2)<;>cases decide (st=3)<;>rfl
set_option maxRecDepth 100000
def F8L(c n:Nat):Int:=match B0G c n with
  | some j=>if j<256 then (j:Int) else -1
  | none=>-1
theorem C9w(c n:Nat):∀ (k i:Nat),i+k=256->C3 (B1W lensT (n:Int) codesT (c:Int)) ((i:Int),())=some ((match fdC (k+1) i (c:Int) (n:Int) with
  | some j=>if j<256 then (j:Int) else -1
  | none=>-1),())
  | 0,i,h=>by
    have hi:i=256:=by omega
    subst hi;rw [C8];have h1:¬ (((256:Nat):Int)<=255):=by omega
    simp only [B1W,A1 h1,cond_false];unfold fdC fdC;by_cases hc:codesT.getD 256 0=(c:Int)/\lensT.getD 256 0=(n:Int)
    · rw [if_pos hc];rfl
    · rw [if_neg hc]
  | k+1,i,h=>by
    rw [C8];have h1:(i:Int)<=255:=by omega
    have h2:(0:Int)<=(i:Int):=by omega
    have hl:=A13;have hc:=A6J;have h3:(i:Int)<(lensT.length:Int):=by omega
    have h4:(i:Int)<(codesT.length:Int):=by omega
    have e1:rd (.int .i64) lensT (i:Int)=lensT.getD i 0:=by
      rw [C0B (show i<lensT.length by omega)];simp [List.getD,List.getElem?_eq_getElem (show i<lensT.length by omega)]
    have e2:rd (.int .i64) codesT (i:Int)=codesT.getD i 0:=by
      rw [C0B (show i<codesT.length by omega)];simp [List.getD,List.getElem?_eq_getElem (show i<codesT.length by omega)]
    have w:i64.wrap ((i:Int)+1)=((i+1:Nat):Int):=by rw [w64 (by omega) (by omega)];omega
    have ih:=C9w c n k (i+1) (by omega);simp only [B1W,A0 h1,A0 h2,A0 h3,A0 h4,cond_true,e1,e2,w];rw [fdC];by_cases q1:lensT.getD i 0=(n:Int)
    · rw [A0 q1]
      by_cases q2:codesT.getD i 0=(c:Int)
      · rw [A0 q2,if_pos ⟨q2,q1⟩]
        simp only [cond_true];rw [if_pos (by omega)]
      · rw [A1 q2,if_neg (fun q=>q2 q.1)]
        simp only [cond_true,cond_false];exact ih
    · rw [A1 q1,if_neg (fun q=>q1 q.2)]
      simp only [cond_false];exact ih
theorem F21(c n:Nat):A2c lensT codesT (n:Int) (c:Int)=some (F8L c n,()):=by
  have e:=C9w c n 256 0 rfl;rw [show ((0:Nat):Int)=0 from rfl] at e;simp only [A2c,C4U,e];rfl
theorem D97:∀ (n v i:Nat) (h:i<(J8 n v).length),(J8 n v)[i]=v.testBit (n-1-i)
  | 0,v,i,h=>by simp [J8] at h
  | n+1,v,0,h=>by simp [J8]
  | n+1,v,i+1,h=>by
    simp only [J8,List.getElem_cons_succ];rw [D97 n v i]
    congr 1
    omega
theorem C66:∀ (l:List Int) (i:Nat) (h:i<(E5 l).length) (h2:i / 8<l.length),(E5 l)[i]=(l[i / 8].toNat).testBit (7-i % 8)
  | [],i,h,h2=>by simp at h2
  | x::l,i,h,h2=>by
    have hc:=A3G x l;rw [List.getElem_of_eq hc h];by_cases h8:i<8
    · have hd:i / 8=0:=by omega
      rw [List.getElem_append_left (by rw [A0f];exact h8),D97];simp only [hd,List.getElem_cons_zero]
      congr 1
      omega
    · rw [List.getElem_append_right (by rw [A0f];omega)]
      simp only [A0f];have hd:i / 8=(i-8) / 8+1:=by omega
      have hl:(E5 (x::l)).length=8+(E5 l).length:=by rw [hc,List.length_append,A0f]
      have hb:=S7 l;rw [C66 l (i-8) (by omega) (by omega)];simp only [hd,List.getElem_cons_succ]
      congr 1
      omega
theorem D98{st st':RdS}{x:Bool}(h:RdG st)(e:U4 st x=some st'):RdG st'/\st'.2.2.length<=st.2.2.length+1:=by
  unfold U4 at e;have hx:x.toNat<=1:=by cases x<;>simp
  have hp:2*st.1+x.toNat<2 ^ (st.2.1+1):=by have:=h.1;rw [Nat.pow_succ];omega
  by_cases h30:st.2.1+1>30
  · rw [if_pos h30] at e;cases e
  rw [if_neg h30] at e;cases hj:B0G (2*st.1+x.toNat) (st.2.1+1) with
  | none=>
    rw [hj] at e;simp only [Option.some.injEq] at e;subst e;exact ⟨⟨hp,by simp only;omega⟩,by simp⟩
  | some j=>
    rw [hj] at e;by_cases h256:j<256
    · simp only [if_pos h256,Option.some.injEq] at e
      subst e;exact ⟨⟨by simp,by simp⟩,by simp⟩
    · simp only [if_neg h256,Option.some.injEq] at e
      subst e;exact ⟨⟨hp,by simp only;omega⟩,by simp⟩
theorem C2W(a:List Int)(ha:Byt a)(hl:a.length<=1000000000):∀ (k i:Nat) (st:RdS),i+k=8*a.length->RdG st->st.2.2.length+k<=100000000000->
    C3 (A2d A2c a (lensT,()) (codesT,())) ((st.1:Int),(st.2.1:Int),(i:Int),st.2.2,()) =
      (if (V7 U4 ((E5 a).drop i) st).2 then some (.inr (⟨#[]⟩,false,())) else some (.inl (((V7 U4 ((E5 a).drop i) st).1.1:Int),((V7 U4 ((E5 a).drop i) st).1.2.1:Int),(V7 U4 ((E5 a).drop i) st).1.2.2,())))
  | 0,i,st,hi,hg,hlen=>by
    rw [C8];have h:¬ (i:Int)<i64.wrap (8*(a.length:Int)):=by rw [w64 (by omega) (by omega)];omega
    simp only [A2d,A1 h,cond_false];rw [List.drop_eq_nil_of_le (by rw [S7];omega)];rfl
  | k+1,i,st,hi,hg,hlen=>by
    have hbl:=S7 a;have hlt:i<(E5 a).length:=by omega
    have h8:i / 8<a.length:=by omega
    have hx:=ha _ (List.getElem_mem h8);have h:(i:Int)<i64.wrap (8*(a.length:Int)):=by rw [w64 (by omega) (by omega)];omega
    have w1:i64.wrap ((i:Int).tdiv 8)=((i / 8:Nat):Int):=by
      rw [Int.tdiv_eq_ediv_of_nonneg (by omega),show (8:Int)=((8:Nat):Int) from rfl,<- Int.natCast_ediv,w64 (by omega) (by omega)]
    have w2:i64.wrap (7-(i:Int).tmod 8)=((7-i % 8:Nat):Int):=by
      rw [Int.tmod_eq_emod_of_nonneg (by omega),show (i:Int) % 8=((i % 8:Nat):Int) by omega,w64 (by omega) (by omega)];omega
    have hr:rd (.int .u8) a ((i / 8:Nat):Int)=((a[i / 8].toNat:Nat):Int):=by rw [C0B h8];exact (Int.toNat_of_nonneg hx.1).symm
    have w3:i64.wrap ((a[i / 8].toNat:Nat):Int)=((a[i / 8].toNat:Nat):Int):=w64 (by omega) (by omega);have w4:i64.wrap ((st.2.1:Int)+1)=((st.2.1+1:Nat):Int):=by have:=hg.2;rw [w64 (by omega) (by omega)];omega
    have w5:i64.wrap ((i:Int)+1)=((i+1:Nat):Int):=by rw [w64 (by omega) (by omega)];omega
    have hbit:=F51 (x:=a[i / 8].toNat) (k:=7-i % 8) (by omega) (by omega);have hdrop:(E5 a).drop i=(a[i / 8].toNat).testBit (7-i % 8)::(E5 a).drop (i+1):=by rw [List.drop_eq_getElem_cons hlt,C66 a i hlt h8]
    rw [hdrop];generalize (a[i / 8].toNat).testBit (7-i % 8)=x at *
    have hacc:=F52 hg.1 hg.2 x;rw [C8];have hu:¬ u64.wrap ((7-i % 8:Nat):Int)<0:=by
      simp only [IntKind.wrap,IntKind.bits,IntKind.signed];simp;omega
    simp only [A2d,A0 h,w1,w2,cond_true,A0 (show (0:Int)<=((i / 8:Nat):Int) by omega),A0 (show ((i / 8:Nat):Int)<(a.length:Int) by omega),A1 hu,cond_false,w4,hr,w3,hbit,hacc,F21,w5,bO];have e0:V7 U4 (x::(E5 a).drop (i+1)) st=match U4 st x with
      | some st'=>V7 U4 ((E5 a).drop (i+1)) st'
      | none=>(st,true):=rfl
    rw [e0];by_cases h30:st.2.1+1>30
    · rw [A0 (show ((st.2.1+1:Nat):Int)>30 by omega)]
      have e1:U4 st x=none:=by unfold U4;rw [if_pos h30]
      rw [e1];rfl
    · rw [A1 (show ¬ ((st.2.1+1:Nat):Int)>30 by omega)]
      simp only [cond_false];have hgo:∀ st',U4 st x=some st'->C3 (A2d A2c a (lensT,()) (codesT,())) ((st'.1:Int),(st'.2.1:Int),((i+1:Nat):Int),st'.2.2,())=_:=fun st' e=>by
        have h2:=D98 hg e;exact C2W a ha hl k (i+1) st' (by omega) h2.1 (by omega)
      have hnf:∀ (e1:U4 st x=some (2*st.1+x.toNat,st.2.1+1,st.2.2)),C3 (A2d A2c a (lensT,()) (codesT,())) (((2*st.1+x.toNat:Nat):Int),((st.2.1+1:Nat):Int),((i+1:Nat):Int),st.2.2,())=_:=fun e1=>hgo _ e1
      unfold F8L;cases hj:B0G (2*st.1+x.toNat) (st.2.1+1) with
      | none=>
        have e1:U4 st x=some (2*st.1+x.toNat,st.2.1+1,st.2.2):=by unfold U4;rw [if_neg h30,hj]
        rw [e1];simp only [show decide ((-1:Int)>=0)=false from rfl,cond_false];exact hnf e1
      | some j=>
        by_cases h256:j<256
        · have e1:U4 st x=some (0,0,st.2.2 ++ [(j:Int)]):=by unfold U4;rw [if_neg h30,hj];simp only [if_pos h256]
          rw [e1];have hw:u8.wrap (j:Int)=(j:Int):=C9t h256;simp only [if_pos h256,A0 (show (j:Int)>=0 by omega),cond_true,hw];rw [gA (by simp;omega)];exact hgo _ e1
        · have e1:U4 st x=some (2*st.1+x.toNat,st.2.1+1,st.2.2):=by unfold U4;rw [if_neg h30,hj];simp only [if_neg h256]
          rw [e1];simp only [if_neg h256,show decide ((-1:Int)>=0)=false from rfl,cond_false];exact hnf e1
theorem E41(a:List Int)(ha:Byt a)(hl:a.length<=500000000):B2t a=some (A2g a):=by
  have e:=C2W a ha (by omega) (8*a.length) 0 (0,0,[]) (by omega) ⟨by simp,by simp⟩ (by simp;omega);have e':C3 (A2d A2c a (lensT,()) (codesT,())) (0,0,0,[],())=_:=e;have hg:=(D3g U4 (fun st x st' h e=>D98 h e) (E5 a) (0,0,[]) ⟨by simp,by simp⟩).1;rw [List.drop_zero] at e';simp only [B2t,C4V,C9o,E0V,bO,e'];have hok:=(F4v a ha).2;unfold A2g;have hR:V7 U4 (E5 a) (0,0,[])=B31 a:=rfl;rw [hR] at hg ⊢;by_cases hs:(B31 a).2=true
  · have:C1u a=false:=by unfold C1u;rw [hs];rfl
    rw [if_pos hs,this];rfl
  · have hs':(B31 a).2=false:=by simpa using hs
    rw [if_neg hs];simp only [bSl];by_cases h7:(B31 a).1.2.1<=7
    · rw [A1 (show ¬ ((B31 a).1.2.1:Int)>7 by omega),C5s (by omega)]
      have hu:¬ u64.wrap (((B31 a).1.2.1:Nat):Int)<0:=by
        simp only [IntKind.wrap,IntKind.bits,IntKind.signed];simp;omega
      rw [A1 hu];simp only [cond_false];by_cases hv:(B31 a).1.1=2 ^ (B31 a).1.2.1-1
      · have hk:C1u a=true:=by unfold C1u;rw [hs',A0 h7,A0 hv];rfl
        rw [A0 (show ((B31 a).1.1:Int)=((2 ^ (B31 a).1.2.1-1:Nat):Int) by rw [hv]),hk,hok hk];rfl
      · have hk:C1u a=false:=by unfold C1u;rw [hs',A0 h7,A1 hv];rfl
        rw [A1 (show ¬ ((B31 a).1.1:Int)=((2 ^ (B31 a).1.2.1-1:Nat):Int) by omega),hk];rfl
    · have hk:C1u a=false:=by unfold C1u;rw [hs',A1 h7];rfl
      rw [A0 (show ((B31 a).1.2.1:Int)>7 by omega),hk];rfl
set_option maxRecDepth 100000
theorem C0N{b:List Int}(hb:Byt b)(hl:b.length<=500000000)(p:Nat)(hp:p<=1000000000):A5T b (p:Int)=some (G6 b p):=by
  have e0:=A7s hb hl p 7 hp (by omega);rw [show ((7:Nat):Int)=7 from rfl] at e0;simp only [A5T,B5F,e0,bO];unfold G6;by_cases h1:(A9 b p 7).2.2.1=false
  · rw [if_pos h1,h1];rfl
  have h1':(A9 b p 7).2.2.1=true:=by simpa using h1
  obtain ⟨r1,r2,r3,r4⟩:=A06 b p 7 (by omega) h1';rw [if_neg h1,h1',w64 (n:=(b.length:Int)-(A9 b p 7).2.1) (by omega) (by omega),w64 (n:=(A9 b p 7).2.1+(A9 b p 7).1) (by omega) (by omega)];simp only [Bool.not_true,cond_false];by_cases h2:(A9 b p 7).1>4000
  · rw [if_pos h2,A0 h2];rfl
  rw [if_neg h2,A1 h2];by_cases h3:(A9 b p 7).1>(b.length:Int)-(A9 b p 7).2.1
  · rw [if_pos h3,A0 h3];rfl
  obtain ⟨q1,q2⟩:=B0d hb (show p<b.length by omega);have e3:((A9 b p 7).2.1+(A9 b p 7).1).toNat=(A9 b p 7).2.1.toNat+(A9 b p 7).1.toNat:=by omega
  rw [if_neg h3,A1 h3];simp only [cond_false,bSl];rw [A0 (show (0:Int)<=(A9 b p 7).2.1 by omega),A0 (show (A9 b p 7).2.1<=(A9 b p 7).2.1+(A9 b p 7).1 by omega),A0 (show (A9 b p 7).2.1+(A9 b p 7).1<=(b.length:Int) by omega),A0 (show (0:Int)<=(p:Int) by omega),A0 (show (p:Int)<(b.length:Int) by omega),q1,e3];simp only [cond_true];rw [show ((b.take ((A9 b p 7).2.1.toNat+(A9 b p 7).1.toNat)).drop (A9 b p 7).2.1.toNat)=A8P b (A9 b p 7).2.1.toNat (A9 b p 7).1.toNat from rfl,E41 _ (D8u hb _ _) (Nat.le_trans (D8v _ _ _) hl)];simp only [bO];by_cases h4:byN b p<128
  · rw [if_pos h4,A0 (show (byN b p:Int)<128 by omega)];rfl
  rw [if_neg h4,A1 (show ¬ (byN b p:Int)<128 by omega)];simp only [cond_false];by_cases h5:(A2g (A8P b (A9 b p 7).2.1.toNat (A9 b p 7).1.toNat)).2.1=false
  · rw [if_pos h5,h5];rfl
  rw [if_neg h5,show (A2g (A8P b (A9 b p 7).2.1.toNat (A9 b p 7).1.toNat)).2.1=true by simpa using h5];by_cases h6:(((A2g (A8P b (A9 b p 7).2.1.toNat (A9 b p 7).1.toNat)).1.size:Int)>4000)
  · rw [if_pos h6,A0 h6];rfl
  · rw [if_neg h6,A1 h6];rfl
theorem E42{b:List Int}(hb:Byt b)(hl:b.length<=500000000)(p m:Nat)(hp:p<=1000000000)(hm:1<=m/\m<=8){t:B2}(ht:W6 t) :
    ∃ x q,A5U t b (p:Int) (m:Int)=some (x,q,(A2s t b p m).1,())/\((A2s t b p m).1=0->x=(A2s t b p m).2.1/\q=((A2s t b p m).2.2:Int)):=by
  have htl:=A60 ht;have e0:=A7s hb hl p m hp hm;simp only [A5U,B5G,e0,bO];unfold A2s;by_cases h1:(A9 b p m).2.2.1=false
  · rw [if_pos h1,h1]
    exact ⟨_,_,rfl,fun h=>by cases h⟩
  have h1':(A9 b p m).2.2.1=true:=by simpa using h1
  obtain ⟨r1,r2,r3,r4⟩:=A06 b p m hm.2 h1';have hq:(A9 b p m).2.1=(((A9 b p m).2.1.toNat:Nat):Int):=by omega
  have e1:=C0N hb hl (A9 b p m).2.1.toNat (by omega);rw [<- hq] at e1;rw [if_neg h1,h1'];simp only [Bool.not_true,cond_false];by_cases h2:(A9 b p m).1=0
  · rw [if_pos h2,A0 h2]
    simp only [cond_true,e1,bO];by_cases h3:(G6 b (A9 b p m).2.1.toNat).2.2.1=false
    · rw [if_pos h3,h3]
      exact ⟨_,_,rfl,fun h=>by cases h⟩
    have h3':(G6 b (A9 b p m).2.1.toNat).2.2.1=true:=by simpa using h3
    have r5:=A4f (A9 b p m).2.1.toNat h3';have hq2:(G6 b (A9 b p m).2.1.toNat).2.1=(((G6 b (A9 b p m).2.1.toNat).2.1.toNat:Nat):Int):=by omega
    have e2:=C0N hb hl (G6 b (A9 b p m).2.1.toNat).2.1.toNat (by omega);rw [<- hq2] at e2;rw [if_neg h3,h3'];simp only [Bool.not_true,cond_false,bSl,e2,bO];by_cases h4:(G6 b (G6 b (A9 b p m).2.1.toNat).2.1.toNat).2.2.1=false
    · rw [if_pos h4,h4]
      exact ⟨_,_,rfl,fun h=>by cases h⟩
    have h4':(G6 b (G6 b (A9 b p m).2.1.toNat).2.1.toNat).2.2.1=true:=by simpa using h4
    have r6:=A4f (G6 b (A9 b p m).2.1.toNat).2.1.toNat h4';rw [if_neg h4,h4'];exact ⟨_,_,rfl,fun _=>⟨rfl,by simp only;omega⟩⟩
  · rw [if_neg h2,A1 h2]
    simp only [cond_false,C5u t (A9 b p m).1 (by omega) (by omega),bO];by_cases h5:(V8 t (A9 b p m).1).2.1=false
    · rw [if_pos h5,h5]
      exact ⟨_,_,rfl,fun h=>by cases h⟩
    rw [if_neg h5,show (V8 t (A9 b p m).1).2.1=true by simpa using h5];simp only [Bool.not_true,cond_false,bSl,e1,bO];by_cases h3:(G6 b (A9 b p m).2.1.toNat).2.2.1=false
    · rw [if_pos h3,h3]
      exact ⟨_,_,rfl,fun h=>by cases h⟩
    have h3':(G6 b (A9 b p m).2.1.toNat).2.2.1=true:=by simpa using h3
    have r5:=A4f (A9 b p m).2.1.toNat h3';rw [if_neg h3,h3'];exact ⟨_,_,rfl,fun _=>⟨rfl,by simp only;omega⟩⟩
def E7C(c:Int)(l:List A4):Int:=if c=0 then (if (l.length:Int)>100 then 4 else 0) else c
theorem C8g(t:B2)(p:Nat)(l:List A4)(f:A4):E7C 0 (l ++ [f])=(B0H t p l f).1:=by
  unfold E7C B0H;rw [if_pos rfl];simp only [List.length_append,List.length_singleton];by_cases h:100<l.length+1
  · rw [if_pos h,if_pos (by omega)]
  · rw [if_neg h,if_neg (by omega)]
theorem B86{c:Int}(h:c≠0)(l:List A4):E7C c l=c:=if_neg h
theorem F5H{t:B2}(ht:W6 t){f:A4}(h1:f.1.size<=10000)(h2:f.2.size<=10000):A12 t f=some (E0l t f,()):=by
  obtain ⟨q0,q1,q2⟩:=ht;obtain ⟨T,e1,e2,hT⟩:=F7v t f q0 (by omega) (by unfold ofF;omega);have hv:E0l t f=(t.1,T):=by unfold E0l;rw [e1]
  rw [hv];exact e2
theorem F7N{t:B2}(ht:W6 t):Q8 t=some (true,()):=E3f ht
theorem F5I{t:B2}(ht:W6 t){n:Int}(h1:0<=n)(h2:n<=4096):A28 t n=some (E0m t n,()):=by
  have htl:=A60 ht;have htk:=F7N ht;obtain ⟨q0,q1,q2⟩:=ht;obtain ⟨k,e1,e2,_⟩:=F4n n t.2 h1 (by omega) (by omega);have hv:E0m t n=(n,t.2.take k):=by unfold E0m;rw [e1]
  rw [hv];simp only [A28,A8m,B5t t (by omega),htk,U1,A0 (show 0<=n/\n<=4096 from ⟨h1,h2⟩),bO,Bool.not_true,cond_false,bSl,e2]
theorem F0V{R:Type}{n:Nat}{X:Option R}(h:n<=1000000000000):(bif decide (n<=9223372036854775807) then bif decide (n*32<=140737488355328) then X else none else none)=X:=by
  rw [A0 (by omega),A0 (by omega)];rfl
theorem F5J{b:List Int}(hb:Byt b)(hl:b.length<=500000000)(most:Int)(hmost:0<=most/\most<=4096)(t:B2)(p:Nat)(l:List A4)(hk:RdK b t p l)(hp:p<b.length) :
    ∃ c t' q l',O3 (t,most,b,(p:Int),l)=some (c,(t',most,b,q,l'),())/\E7C c l' = (B0I b most t p l).1/\((B0I b most t p l).1=0->t' = (B0I b most t p l).2.1/\q=((B0I b most t p l).2.2.1:Int)/\l' = (B0I b most t p l).2.2.2):=by
  obtain ⟨ht,hpl,hll,hlf⟩:=hk;have htl:=A60 ht;obtain ⟨q1,q2⟩:=B0d hb hp;have e7:=A7s hb hl p 7 (by omega) (by omega);have e5:=A7s hb hl p 5 (by omega) (by omega);rw [show ((7:Nat):Int)=7 from rfl] at e7;rw [show ((5:Nat):Int)=5 from rfl] at e5;simp only [O3,A5G,q1,A0 (show (0:Int)<=(p:Int) by omega),A0 (show (p:Int)<(b.length:Int) by omega),cond_true];unfold B0I;by_cases h128:128<=byN b p
  · rw [if_pos h128,A0 (show (byN b p:Int)>=128 by omega)]
    simp only [cond_true,e7,bO];by_cases h1:(A9 b p 7).2.2.1=false
    · rw [if_pos h1,h1]
      exact ⟨_,_,_,_,rfl,B86 (by omega) _,fun h=>by cases h⟩
    have h1':(A9 b p 7).2.2.1=true:=by simpa using h1
    obtain ⟨r1,r2,r3,r4⟩:=A06 b p 7 (by omega) h1';rw [if_neg h1,h1',C5u t (A9 b p 7).1 (by omega) (by omega)];simp only [Bool.not_true,cond_false,bO];by_cases h2:(V8 t (A9 b p 7).1).2.1=false
    · rw [if_pos h2,h2]
      exact ⟨_,_,_,_,rfl,B86 (by omega) _,fun h=>by cases h⟩
    rw [if_neg h2,show (V8 t (A9 b p 7).1).2.1=true by simpa using h2,F0V (by simp;omega)];refine ⟨_,_,_,_,rfl,C8g _ _ _ _,fun _=>⟨rfl,?_,rfl⟩⟩;simp only [B0H];omega
  rw [if_neg h128,A1 (show ¬ (byN b p:Int)>=128 by omega)];simp only [cond_false];by_cases h64:64<=byN b p
  · obtain ⟨x,q,e,hz⟩:=E42 hb hl p 6 (by omega) (by omega) ht
    rw [show ((6:Nat):Int)=6 from rfl] at e;rw [if_pos h64,A0 (show (byN b p:Int)>=32 by omega),A1 (show ¬ (byN b p:Int)<64 by omega),A0 (show (byN b p:Int)>=64 by omega)];simp only [cond_true,cond_false,bSl,bO,e];by_cases hc:(A2s t b p 6).1=0
    · obtain ⟨z1,z2⟩:=hz hc
      have hsz:=D2B ht (by omega) hc;subst z1 z2;rw [if_pos hc,A0 hc];simp only [Bool.not_true,cond_false,F5H ht hsz.1 hsz.2.1,bO];rw [F0V (by simp;omega)];exact ⟨_,_,_,_,rfl,C8g _ _ _ _,fun _=>⟨rfl,rfl,rfl⟩⟩
    · rw [if_neg hc,A1 hc]
      exact ⟨_,_,_,_,rfl,B86 hc _,fun h=>absurd h hc⟩
  rw [if_neg h64];by_cases h32:32<=byN b p
  · rw [if_pos h32,A0 (show (byN b p:Int)>=32 by omega),A0 (show (byN b p:Int)<64 by omega)]
    simp only [cond_true,A1E,A48,e5,bO];by_cases h1:(A9 b p 5).2.2.1=false
    · rw [if_pos h1,h1]
      exact ⟨_,_,_,_,rfl,B86 (by omega) _,fun h=>by cases h⟩
    have h1':(A9 b p 5).2.2.1=true:=by simpa using h1
    obtain ⟨r1,r2,r3,r4⟩:=A06 b p 5 (by omega) h1';rw [if_neg h1,h1'];simp only [Bool.not_true,cond_false];by_cases h2:(A9 b p 5).1>most
    · rw [if_pos (.inl h2),A0 h2]
      exact ⟨_,_,_,_,rfl,B86 (by omega) _,fun h=>by cases h⟩
    rw [A1 h2];by_cases h3:0<l.length
    · rw [if_pos (.inr h3),A0 (show (l.length:Int)>0 by omega)]
      exact ⟨_,_,_,_,rfl,B86 (by omega) _,fun h=>by cases h⟩
    rw [if_neg (by omega),A1 (show ¬ (l.length:Int)>0 by omega)];simp only [cond_false,bSl,F5I ht r1 (by omega),bO];refine ⟨_,_,_,_,rfl,?_,fun _=>⟨rfl,?_,rfl⟩⟩
    · unfold E7C
      rw [if_pos rfl,if_neg (by omega)]
    · show (A9 b p 5).2.1=(((A9 b p 5).2.1.toNat:Nat):Int)
      omega
  · obtain ⟨x,q,e,hz⟩:=E42 hb hl p 4 (by omega) (by omega) ht
    rw [show ((4:Nat):Int)=4 from rfl] at e;rw [if_neg h32,A1 (show ¬ (byN b p:Int)>=32 by omega),A1 (show ¬ (byN b p:Int)>=64 by omega)];simp only [cond_true,cond_false,bSl,bO,e];by_cases hc:(A2s t b p 4).1=0
    · obtain ⟨z1,z2⟩:=hz hc
      subst z1 z2;rw [if_pos hc,A0 hc];simp only [Bool.not_true,cond_false,bO];rw [F0V (by simp;omega)];exact ⟨_,_,_,_,rfl,C8g _ _ _ _,fun _=>⟨rfl,rfl,rfl⟩⟩
    · rw [if_neg hc,A1 hc]
      exact ⟨_,_,_,_,rfl,B86 hc _,fun h=>absurd h hc⟩
theorem D99{b:List Int}(hb:Byt b)(hl:b.length<=500000000)(most:Int)(hmost:0<=most/\most<=4096){t0:B2}(ht0:W6 t0):∀ (k:Nat) (t:B2) (p:Nat) (l:List A4),RdK b t p l->b.length<=p+k->
    ∃ m' b' q',C3 (U3 A1b O3 b t0) (t.1,t.2,most,b,(p:Int),l,())=(if (gfM b most k t p l).1=0 then some (.inl ((gfM b most k t p l).2.1.1,(gfM b most k t p l).2.1.2,m',b',q',(gfM b most k t p l).2.2,())) else some (.inr ([],t0,(gfM b most k t p l).1,())))
  | 0,t,p,l,hk,hle=>by
    have h1:¬ (p:Int)<(b.length:Int):=by omega
    rw [C8];simp only [U3,A1 h1,cond_false];exact ⟨_,_,_,rfl⟩
  | k+1,t,p,l,hk,hle=>by
    have htl:=A60 ht0;rw [C8];unfold gfM;by_cases h1:p<b.length
    · obtain ⟨c,t',q,l',e,hc,hz⟩:=F5J hb hl most hmost t p l hk h1
      have e':O3 ((t.1,t.2),most,b,(p:Int),l)=some (c,(t',most,b,q,l'),()):=e;have hf:∀ {R:Type} (K:Int×Unit->Option R),A3 (bif (decide (c=0)) then bif (decide ((l'.length:Int)>100)) then some (4,()) else some (c,()) else some (c,())) K=K (E7C c l',()):=fun K=>by
        unfold E7C;by_cases h:c=0
        · subst h
          rw [A0 rfl,if_pos rfl];by_cases h2:(l'.length:Int)>100
          · rw [A0 h2,if_pos h2];rfl
          · rw [A1 h2,if_neg h2];rfl
        · rw [A1 h,if_neg h];rfl
      simp only [U3,A0 (show (p:Int)<(b.length:Int) by omega),cond_true,e',bO,hf,hc];rw [if_pos h1];by_cases h2:(B0I b most t p l).1=0
      · obtain ⟨z1,z2,z3⟩:=hz h2
        subst z1 z2 z3;rw [if_pos h2,A0 h2];have hk2:=E0o hmost.2 hk h2;exact D99 hb hl most hmost ht0 k _ _ _ hk2.1 (by omega)
      · rw [if_neg h2,A1 h2]
        simp only [Bool.not_false,cond_true,B5t t0 (by omega),bO,if_neg h2];exact ⟨0,[],0,trivial⟩
    · have h1':¬ (p:Int)<(b.length:Int):=by omega
      rw [if_neg h1];simp only [U3,A1 h1',cond_false];exact ⟨_,_,_,rfl⟩
theorem D41{t:B2}(ht:W6 t){b:List Int}(hb:Byt b)(hl:b.length<=500000000){most:Int}(hmost:0<=most/\most<=4096):A0A t most b=some (I0 t most b):=by
  have htl:=A60 ht;obtain ⟨m',b',q',e⟩:=D99 hb hl most hmost ht b.length t 0 [] ⟨ht,by omega,by simp,fun f hf=>by cases hf⟩ (by omega);rw [show ((0:Nat):Int)=0 from rfl] at e;simp only [A0A,A5H,U1,A0 hmost,F7N ht,B5t t (by omega),bO,Bool.not_true,cond_false,bSl,e];unfold I0;by_cases h:(gfM b most b.length t 0 []).1=0
  · have hk:=E70 hmost.2 b.length t 0 [] ⟨ht,by omega,by simp,fun f hf=>by cases hf⟩ h
    rw [if_pos h,if_pos h];simp only [bSl];rw [F0V (by simp;omega)];rfl
  · rw [if_neg h,if_neg h]
    rfl
set_option maxRecDepth 100000
theorem C4i(l:List A4)(name:X0)(hl:l.length<=1000000):S6 l name=some ((L7 l name l.length:Int),()):=by
  have e:=F6 (A7j l name) (fun k=>((L7 l name k:Int),(k:Int),())) l.length ((L7 l name l.length:Int),()) (fun k hk=>by
    have h1:(k:Int)<(l.length:Int):=by omega
    have h2:(0:Int)<=(k:Int):=by omega
    have h3:=E0p l name k;have w1:i64.wrap ((k:Int)+1)=((k+1:Nat):Int):=by rw [w64 (by omega) (by omega)];omega
    have w2:i64.wrap ((L7 l name k:Int)+1)=((L7 l name k+1:Nat):Int):=by rw [w64 (by omega) (by omega)];omega
    simp only [A7j,A0 h1,A0 h2,cond_true,w1,w2,L7];rw [show (rd A5 l (k:Int)).1=nmA l k from rfl];cases hq:((nmA l k).toList == name.toList) with
    | false=>simp only [cond_false,Bool.false_eq_true,if_false,Nat.add_zero]
    | true=>simp only [cond_true,if_true]) (by
    have h1:¬ ((l.length:Nat):Int)<(l.length:Int):=by omega
    simp only [A7j,A1 h1,cond_false])
  simp only [S6,B7s];exact e
theorem F6w{l:List A4}{j k:Nat}(h:j<k):rd A5 (l.take k) (j:Int)=rd A5 l (j:Int):=by
  simp [rd,List.getD,List.getElem?_take,h]
theorem D9A(l:List A4)(name:X0)(k:Nat):∀ j,j<=k->L7 (l.take k) name j=L7 l name j
  | 0,_=>rfl
  | j+1,h=>by
    have e:nmA (l.take k) j=nmA l j:=by unfold nmA;rw [F6w (by omega)]
    simp only [L7,D9A l name k j (by omega),e]
theorem C8h(l:List A4)(name:X0):∀ n k,k<=n->L7 l name k<=L7 l name n
  | 0,k,h=>by rw [show k=0 by omega];exact Nat.le_refl _
  | n+1,k,h=>by
    by_cases e:k=n+1
    · rw [e];exact Nat.le_refl _
    · have:=C8h l name n k (by omega)
      have h2:L7 l name n<=L7 l name (n+1):=by rw [L7];omega
      omega
theorem D9B(l:List A4)(name:X0):∀ n,L7 l name n=0->T9 l name n=⟨#[]⟩
  | 0,_=>rfl
  | n+1,h=>by
    unfold L7 at h;unfold T9;by_cases hq:((nmA l n).toList == name.toList)=true
    · rw [if_pos hq] at h;omega
    · rw [if_neg hq]
      exact D9B l name n (by omega)
theorem D42(l:List A4)(name:X0){i:Nat}(h0:L7 l name i=0)(hi:((nmA l i).toList == name.toList)=true):∀ n,i<n->T9 l name n=(rd A5 l (i:Int)).2
  | 0,h=>by omega
  | n+1,h=>by
    unfold T9;by_cases e:n=i
    · subst e
      rw [if_pos hi,if_pos h0]
    · have ih:=D42 l name h0 hi n (by omega)
      have hc:1<=L7 l name n:=by
        have h1:=C8h l name n (i+1) (by omega);have h2:L7 l name (i+1)=L7 l name i+1:=by rw [L7,if_pos hi]
        omega
      by_cases hq:((nmA l n).toList == name.toList)=true
      · rw [if_pos hq,if_neg (by omega)];exact ih
      · rw [if_neg hq];exact ih
theorem C67(l:List A4)(name:X0)(hl:l.length<=1000000):∀ k i,i+k=l.length->L7 l name i=0->C3 (A7k l name) ((i:Int),())=some (T9 l name l.length,())
  | 0,i,h,h0=>by
    have h1:¬ (i:Int)<(l.length:Int):=by omega
    rw [C8];simp only [A7k,A1 h1,cond_false];rw [<- h,Nat.add_zero,D9B l name i h0]
  | k+1,i,h,h0=>by
    have h1:(i:Int)<(l.length:Int):=by omega
    have h2:(0:Int)<=(i:Int):=by omega
    have w1:i64.wrap ((i:Int)+1)=((i+1:Nat):Int):=by rw [w64 (by omega) (by omega)];omega
    rw [C8];simp only [A7k,A0 h1,A0 h2,cond_true,w1];rw [show (rd A5 l (i:Int)).1=nmA l i from rfl];cases hq:((nmA l i).toList == name.toList) with
    | true=>
      rw [D42 l name h0 hq l.length (by omega)];rfl
    | false=>
      simp only [cond_false];exact C67 l name hl k (i+1) (by omega) (by rw [L7,hq,h0];simp)
theorem C4j(l:List A4)(name:X0)(hl:l.length<=1000000):A2f l name=some (T9 l name l.length,()):=by
  have e:=C67 l name hl l.length 0 (by omega) rfl;simp only [A2f,B7t];exact e
def F0W(l:List A4)(k:Nat):Bool:=C5w (nmA l k)&&(bif decide (bt (nmA l k) 0=58) then !plN l k&&C4g (nmA l k)&&decide (L7 l (nmA l k) k=0) else true)
theorem D9C(l:List A4):(∀ k,k<l.length->F0W l k=true)↔(∀ k,k<l.length->B8n l k=true):=by
  have hparts:∀ (P:Prop) [Decidable P] (k:Nat),(C5w (nmA l k)&&(bif decide (bt (nmA l k) 0=58) then !plN l k&&C4g (nmA l k)&&decide P else true))=true↔C5w (nmA l k)=true/\(bt (nmA l k) 0=58->plN l k=false/\C4g (nmA l k)=true/\P):=fun P _ k=>by
    by_cases h58:bt (nmA l k) 0=58
    · rw [A0 h58]
      simp [h58,and_assoc]
    · rw [A1 h58]
      simp [h58]
  constructor
  · intro h k hk
    have hk1:=(hparts _ k).1 (h k hk);refine (hparts _ k).2 ⟨hk1.1,fun h58=>⟨(hk1.2 h58).1,(hk1.2 h58).2.1,?_⟩⟩;have key:∀ j,j<=l.length->L7 l (nmA l k) j<=1:=by
      intro j
      induction j with
      | zero=>intro _;simp [L7]
      | succ j ih=>
        intro hj;unfold L7;by_cases hq:((nmA l j).toList == (nmA l k).toList)=true
        · have e:nmA l j=nmA l k:=C5m (by simpa using hq)
          have hj1:=((hparts _ j).1 (h j hj)).2 (by rw [e];exact h58);have h0:=hj1.2.2;rw [e] at h0;rw [if_pos hq,h0];omega
        · rw [if_neg hq]
          exact ih (by omega)
    exact key l.length (Nat.le_refl _)
  · intro h k hk
    have hk1:=(hparts _ k).1 (h k hk);refine (hparts _ k).2 ⟨hk1.1,fun h58=>⟨(hk1.2 h58).1,(hk1.2 h58).2.1,?_⟩⟩;have h1:=(hk1.2 h58).2.2;have h2:=C8h l (nmA l k) l.length (k+1) hk;have h3:L7 l (nmA l k) (k+1)=L7 l (nmA l k) k+1:=by rw [L7,if_pos (by simp)]
    omega
theorem F81(s:X0)(h:s.size<=1000000000)(l:List A4)(l0:Bool×Int×Unit)(e:(rd A5 l l0.2.1).1=s) :
    C3 (A3D E6 l l0) (0,())=some (if (List.range s.size).all (fun i=>!C1v s i)=true then .inl () else .inr (.inr (.inr (false,())))):=by
  obtain ⟨i,h1,h2,h3,h4⟩:=A1e (A3D E6 l l0) (fun i=>((i:Int),())) s.size (fun i=>if i<s.size then .inr (.inr (.inr (false,()))) else .inl ()) (fun i=>!C1v s i) (fun i hi=>by
    have a1:(i:Int)<(s.size:Int):=by omega
    have a2:(0:Int)<=(i:Int):=by omega
    have w1:i64.wrap ((i:Int)+1)=((i+1:Nat):Int):=by rw [w64 (by omega) (by omega)];omega
    have ec:decide (65<=bt s (i:Int)/\bt s (i:Int)<=90)=C1v s i:=by unfold C1v;rw [Bool.decide_and]
    simp only [A3D,e,A0 a1,A0 a2,cond_true,w1,E6l,U1,bO,ec,if_pos hi];cases C1v s i<;>rfl) (by
    have a1:¬ (s.size:Int)<(s.size:Int):=by omega
    simp only [A3D,e,A1 a1,cond_false,Nat.lt_irrefl,if_false])
  have h4':C3 (A3D E6 l l0) (0,())=some (if i<s.size then .inr (.inr (.inr (false,()))) else .inl ()):=h4;rw [h4'];by_cases hi:i<s.size
  · have:¬ (List.range s.size).all (fun i=>!C1v s i)=true:=by
      rw [Bool.not_eq_true,List.all_eq_false];exact ⟨i,List.mem_range.2 hi,by simp [h3 hi]⟩
    rw [if_pos hi,if_neg this]
  · have:(List.range s.size).all (fun i=>!C1v s i)=true:=by
      rw [List.all_eq_true];intro j hj;exact h2 j (by have:=List.mem_range.1 hj;omega)
    rw [if_neg hi,if_pos this]
theorem E43(l:List A4)(hl:l.length<=1000000)(hn:∀ f∈l,f.1.size<=1000000000)(k:Nat)(hk:k<l.length) :
    A3E S6 E6 l (plN l k,(k:Int),())=if F0W l k then some (.inl (plN l (k+1),((k+1:Nat):Int),())) else some (.inr (.inr (false,()))):=by
  have h1:(k:Int)<(l.length:Int):=by omega
  have h2:(0:Int)<=(k:Int):=by omega
  have h3:(k:Int)<=(l.length:Int):=by omega
  have w1:i64.wrap ((k:Int)+1)=((k+1:Nat):Int):=by rw [w64 (by omega) (by omega)];omega
  have hz:(nmA l k).size<=1000000000:=by
    have e:rd A5 l (k:Int)=l[k]:=T8 (k:=A5) hk;unfold nmA;rw [e];exact hn _ (List.getElem_mem hk)
  have hcap:=F81 (nmA l k) hz l (plN l k,(k:Int),()) rfl;have hcnt:S6 ((l.take k).drop 0) (nmA l k)=some ((L7 l (nmA l k) k:Int),()):=by
    rw [List.drop_zero,C4i _ _ (by rw [List.length_take];omega),List.length_take,Nat.min_eq_left (by omega),D9A l _ k k (Nat.le_refl _)]
  simp only [A3E,A0 h1,A0 h2,A0 h3,cond_true,w1,Int.toNat_natCast];rw [show (rd A5 l (k:Int)).1=nmA l k from rfl,hcap,hcnt];unfold F0W;have hname:C5w (nmA l k)=((List.range (nmA l k).size).all (fun i=>!C1v (nmA l k) i)&&!((nmA l k).toList == (⟨#[]⟩:X0).toList)):=rfl;cases hem:((nmA l k).toList == (⟨#[]⟩:X0).toList) with
  | true=>
    rw [hname,hem];simp
  | false=>
    have h0:=D3m (s:=nmA l k) (by rw [hem];rfl);rw [hname,hem];cases (List.range (nmA l k).size).all (fun i=>!C1v (nmA l k) i) with
    | false=>rfl
    | true=>
      rw [A0 (show (0:Int)<((nmA l k).size:Int) by omega)];simp only [if_true,D7,cond_true,cond_false,Bool.not_false,Bool.and_self,Bool.true_and,plN];by_cases h58:bt (nmA l k) 0=58
      · rw [A0 h58]
        simp only [Bool.not_true,cond_false,cond_true,Bool.or_false,bO];cases plN l k with
        | true=>rfl
        | false=>
          unfold C4g;have hd:decide ((L7 l (nmA l k) k:Int)>0)=!decide (L7 l (nmA l k) k=0):=by
            by_cases h:L7 l (nmA l k) k=0
            · rw [A0 h,A1 (by omega)];rfl
            · rw [A1 h,A0 (by omega)];rfl
          rw [hd];cases ((nmA l k).toList == nM.toList)<;>cases ((nmA l k).toList == nS.toList)<;>cases ((nmA l k).toList == nP.toList)<;>cases ((nmA l k).toList == nA.toList)<;>cases decide (L7 l (nmA l k) k=0)<;>rfl
      · rw [A1 h58]
        simp
theorem C4k{l:List A4}(h:∀ k,k<l.length->B8n l k=true){name:X0}(h58:bt name 0=58):L7 l name l.length<=1:=by
  by_cases h0:L7 l name l.length=0
  · omega
  have:∃ k,k<l.length/\nmA l k=name:=by
    have key:∀ n,n<=l.length->L7 l name n≠0->∃ k,k<l.length/\nmA l k=name:=by
      intro n
      induction n with
      | zero=>intro _ h;exact absurd rfl h
      | succ n ih=>
        intro hn hne;by_cases hq:((nmA l n).toList == name.toList)=true
        · exact ⟨n,hn,C5m (by simpa using hq)⟩
        · unfold L7 at hne
          rw [if_neg hq] at hne;exact ih (by omega) hne
    exact key _ (Nat.le_refl _) h0
  obtain ⟨k,hk,e⟩:=this;have h1:=h k hk;unfold B8n at h1;rw [e,A0 h58] at h1;simp at h1;omega
theorem F22(l:List A4)(hl:l.length<=1000000)(hn:∀ f∈l,f.1.size<=1000000000):B0B l=some (D3n l,()):=by
  simp only [B0B,C08];obtain ⟨i,h1,h2,h3,h4⟩:=A1e (A3E S6 E6 l) (fun i=>(plN l i,(i:Int),())) l.length (fun i=>if i<l.length then .inr (false,()) else .inl ()) (F0W l) (fun i hi=>by
    simp only [if_pos hi];exact E43 l hl hn i hi) (by
    have h1:¬ ((l.length:Nat):Int)<(l.length:Int):=by omega
    simp only [Nat.lt_irrefl,if_false,A3E,A1 h1,cond_false])
  have h4':C3 (A3E S6 E6 l) (false,0,())=some (if i<l.length then .inr (false,()) else .inl ()):=h4;rw [h4'];unfold D3n;by_cases hi:i<l.length
  · rw [if_pos hi]
    have:(List.range l.length).all (B8n l)=false:=by
      cases hA:(List.range l.length).all (B8n l) with
      | false=>rfl
      | true=>
        have hall:=(D9C l).2 fun k hk=>List.all_eq_true.1 hA k (List.mem_range.2 hk)
        have:=h3 hi;rw [hall i hi] at this;cases this
    simp [D7,this]
  · rw [if_neg hi]
    have hF:=(D9C l).1 fun k hk=>h2 k (by omega)
    have:(List.range l.length).all (B8n l)=true:=by
      rw [List.all_eq_true];intro j hj;exact hF j (List.mem_range.1 hj)
    have c1:=C4k hF (name:=nM) (by kernel_rfl);have c2:=C4k hF (name:=nS) (by kernel_rfl);have c3:=C4k hF (name:=nP) (by kernel_rfl);have hd:∀ n:Nat,n<=1->decide ((n:Int)=1)=decide (1<=n):=fun n h=>by
      by_cases q:1<=n
      · rw [A0 q,A0 (by omega)]
      · rw [A1 q,A1 (by omega)]
    simp only [D7,this,Bool.true_and,C4i l _ hl,bO,hd _ c1,hd _ c2,hd _ c3];cases decide (1<=L7 l nM l.length)<;>cases decide (1<=L7 l nS l.length)<;>rfl
set_option maxRecDepth 100000
theorem E44(a b:X0):bytesOf (a++b)=bytesOf a++bytesOf b:=by
  unfold bytesOf;rw [ByteArray.data_append,Array.toList_append,List.map_append]
theorem C0O{s:X0}{k:Nat}(h:k<(bytesOf s).length):(bytesOf s)[k]=bt s (k:Int):=by
  have hl:=bytesOf_length s;have h2:k<s.data.toList.length:=by rw [hl] at h;exact h
  have hc:bytesOf s=s.data.toList.map fun b=>(b.toNat:Int):=rfl
  rw [List.getElem_of_eq hc h];unfold bt;simp [List.getD,List.getElem?_eq_getElem h2]
theorem A61{n:Nat}(h:n<10):bytesOf (itB (n:Int)) = [48+(n:Int)]:=by
  rw [F1d (by omega) (by omega),w64 (by omega) (by omega),show u8.wrap (48+(n:Int))=48+(n:Int) by rw [show 48+(n:Int)=((48+n:Nat):Int) by omega];exact C9t (by omega)];exact C2Q fun x hx=>by rcases List.mem_singleton.1 hx with rfl;omega
theorem C2a{n:Nat}(h:¬ n<10):bytesOf (itB (n:Int))=bytesOf (itB ((n / 10:Nat):Int)) ++ [48+((n % 10:Nat):Int)]:=by
  rw [F6q (by omega),E44,show (n:Int) / 10=((n / 10:Nat):Int) by omega,show (n:Int) % 10=((n % 10:Nat):Int) by omega,w64 (by omega) (by omega),show u8.wrap (48+((n % 10:Nat):Int))=48+((n % 10:Nat):Int) by rw [show 48+((n % 10:Nat):Int)=((48+n % 10:Nat):Int) by omega];exact C9t (by omega)];rw [C2Q fun x hx=>by rcases List.mem_singleton.1 hx with rfl;omega]
theorem F0a:∀ (m n:Nat),n<10 ^ (m+1)->(bytesOf (itB (n:Int))).length<=m+1
  | 0,n,h=>by rw [A61 (by omega)];simp
  | m+1,n,h=>by
    by_cases hn:n<10
    · rw [A61 hn];simp
    · rw [C2a hn,List.length_append,List.length_singleton]
      have:=F0a m (n / 10) (by rw [Nat.pow_succ] at h;omega);omega
theorem E11{s:X0}{j:Nat}(h:B3J s j=true):48<=bt s (j:Int)/\bt s (j:Int)<=57:=by
  simpa only [B3J,Bool.and_eq_true,decide_eq_true_eq] using h
theorem D9D{s:X0}(hd:∀ j,j<s.size->B3J s j=true)(h0:bt s 0≠48):∀ k,k+1<=s.size->1<=A0g s (k+1)/\bytesOf (itB (A0g s (k+1):Int))=(bytesOf s).take (k+1)
  | 0,h=>by
    have d:=E11 (hd 0 (by omega));have hl:=bytesOf_length s;have hn:A0g s 1=(bt s 0-48).toNat:=by simp [A0g]
    rw [show ((0:Nat):Int)=0 from rfl] at d;have e1:(bytesOf s).take 1 = [bt s 0]:=by
      rw [List.take_succ_eq_append_getElem (by omega),C0O];rfl
    rw [hn,A61 (by omega),e1];refine ⟨by omega,?_⟩
    congr 1
    omega
  | k+1,h=>by
    have d:=E11 (hd (k+1) (by omega));have hl:=bytesOf_length s;obtain ⟨i1,i2⟩:=D9D hd h0 k (by omega);have hn:A0g s (k+1+1)=A0g s (k+1)*10+(bt s ((k+1:Nat):Int)-48).toNat:=rfl;have h10:¬ A0g s (k+1+1)<10:=by omega
    refine ⟨by omega,?_⟩;rw [C2a h10,show A0g s (k+1+1) / 10=A0g s (k+1) by omega,i2,List.take_succ_eq_append_getElem (show k+1<(bytesOf s).length by omega),C0O]
    congr 2
    omega
theorem F0b{s:X0}(hd:∀ j,j<s.size->B3J s j=true)(h0:bt s 0=48):∀ k,k+1<=s.size->A0g s (k+1)<10 ^ k
  | 0,h=>by
    have hn:A0g s 1=(bt s 0-48).toNat:=by simp [A0g]
    rw [hn,h0];decide
  | k+1,h=>by
    have d:=E11 (hd (k+1) (by omega));have ih:=F0b hd h0 k (by omega);have hn:A0g s (k+1+1)=A0g s (k+1)*10+(bt s ((k+1:Nat):Int)-48).toNat:=rfl;rw [hn,Nat.pow_succ];omega
theorem D00{a b:X0}(h:bytesOf a=bytesOf b):a=b:=by rw [<- C2R a,<- C2R b,h]
theorem F5K{s:X0}(hd:∀ j,j<s.size->B3J s j=true)(hs:1<=s.size):((itB (A0g s s.size:Int)).toList == s.toList)=!(decide (1<s.size)&&decide (bt s 0=48)):=by
  have hl:=bytesOf_length s;have good:itB (A0g s s.size:Int)=s->((itB (A0g s s.size:Int)).toList == s.toList)=true:=fun e=>by rw [e];simp
  obtain ⟨k,hk⟩:∃ k,s.size=k+1:=⟨s.size-1,by omega⟩;by_cases h0:bt s 0=48
  · by_cases h1:1<s.size
    · rw [A0 h1,A0 h0]
      have h2:itB (A0g s s.size:Int)≠s:=fun e=>by
        have h3:=F0b hd h0 k (by omega);rw [<- hk] at h3;obtain ⟨m,rfl⟩:∃ m,k=m+1:=⟨k-1,by omega⟩;have h4:=F0a m _ h3;rw [e] at h4;omega
      cases hq:((itB (A0g s s.size:Int)).toList == s.toList) with
      | false=>rfl
      | true=>exact absurd (C5m (by simpa using hq)) h2
    · rw [A1 h1]
      refine good (D00 ?_);have hk0:s.size=1:=by omega
      have hn:A0g s 1=(bt s 0-48).toNat:=by simp [A0g]
      rw [hk0,hn,h0];have e1:bytesOf s = [bt s 0]:=by
        rw [<- List.take_length (l:=bytesOf s),hl,hk0,List.take_succ_eq_append_getElem (by omega),C0O];rfl
      rw [e1,h0];exact A61 (n:=0) (by omega)
  · rw [A1 h0,Bool.and_false]
    refine good (D00 ?_);have h2:=(D9D hd h0 k (by omega)).2;rw [<- hk] at h2;rw [h2,<- hl,List.take_length]
theorem E45(s:X0)(most:Int):∃ n,A5W s most=some (n,E3l s most,())/\(E3l s most=true->n=(A0g s s.size:Int)):=by
  simp only [A5W,B5H,U1,bO];unfold E3l;by_cases hr:1<=(s.size:Int)/\(s.size:Int)<=10
  · rw [A0 hr]
    simp only [Bool.not_true,cond_false,Bool.true_and];obtain ⟨i,h1,h2,h3,h4⟩:=A1e (A2r E6 s) (fun i=>((A0g s i:Int),(i:Int),())) s.size (fun i=>if i<s.size then .inr (0,false,()) else .inl ((A0g s s.size:Int),())) (B3J s) (fun i hi=>by
      have h1:(i:Int)<(s.size:Int):=by omega
      have h2:(0:Int)<=(i:Int):=by omega
      have w1:i64.wrap ((i:Int)+1)=((i+1:Nat):Int):=by rw [w64 (by omega) (by omega)];omega
      have b1:=D8k s (i:Int);have b2:=C2M s (i:Int);have hn:=E0q s i;have hp:10 ^ i<=10 ^ 10:=Nat.pow_le_pow_right (by omega) (by omega);have ed:decide (48<=bt s (i:Int)/\bt s (i:Int)<=57)=B3J s i:=by unfold B3J;rw [Bool.decide_and]
      simp only [if_pos hi,A2r,A0 h1,A0 h2,cond_true,w1,E6l,U1,bO,ed];cases hdg:B3J s i with
      | false=>rfl
      | true=>
        have d:=E11 hdg;simp only [Bool.not_true,cond_false,if_true];have e1:u8.wrap (bt s (i:Int)-48)=bt s (i:Int)-48:=by
          rw [show bt s (i:Int)-48=(((bt s (i:Int)-48).toNat:Nat):Int) by omega];exact C9t (by omega)
        rw [e1,w64 (n:=bt s (i:Int)-48) (by omega) (by omega),w64 (n:=(A0g s i:Int)*10) (by omega) (by omega),w64 (by omega) (by omega),A0g];rw [show (A0g s i:Int)*10+(bt s (i:Int)-48)=((A0g s i*10+(bt s (i:Int)-48).toNat:Nat):Int) by omega]) (by
      have h1:¬ ((s.size:Nat):Int)<(s.size:Int):=by omega
      simp only [Nat.lt_irrefl,if_false,A2r,A1 h1,cond_false])
    have h4':C3 (A2r E6 s) (0,0,())=some (if i<s.size then .inr (0,false,()) else .inl ((A0g s s.size:Int),())):=h4;rw [h4'];have hlead:(bif (decide ((s.size:Int)>1)) then bif decide (0<(s.size:Int)) then bif (decide ((bt s 0)=48)) then some (.inr (0,false,())) else some (.inl ()) else none else some (.inl ()))=some (if decide (1<s.size)&&decide (bt s 0=48) then (.inr (0,false,()):Unit⊕(Int×Bool×Unit)) else .inl ()):=by
      rw [A0 (show (0:Int)<(s.size:Int) by omega)];by_cases q:1<s.size
      · rw [A0 (show (s.size:Int)>1 by omega),A0 q]
        cases decide (bt s 0=48)<;>rfl
      · rw [A1 (show ¬ (s.size:Int)>1 by omega),A1 q]
        rfl
    rw [hlead];by_cases hi:i<s.size
    · rw [if_pos hi]
      have:(List.range s.size).all (B3J s)=false:=by
        rw [List.all_eq_false];exact ⟨i,List.mem_range.2 hi,by simp [h3 hi]⟩
      rw [this];cases decide (1<s.size)&&decide (bt s 0=48)<;>exact ⟨_,rfl,fun h=>by cases h⟩
    · rw [if_neg hi]
      have hall:∀ j,j<s.size->B3J s j=true:=fun j hj=>h2 j (by omega)
      have ha:(List.range s.size).all (B3J s)=true:=by
        rw [List.all_eq_true];intro j hj;exact hall j (List.mem_range.1 hj)
      rw [ha,F5K hall (by omega)];cases hq:decide (1<s.size)&&decide (bt s 0=48) with
      | true=>
        refine ⟨0,?_,fun h=>?_⟩
        · simp [D7]
        · simp at h
      | false=>
        refine ⟨_,?_,fun _=>rfl⟩;simp [D7]
  · rw [A1 hr]
    exact ⟨_,rfl,fun h=>by cases h⟩
def opL(a:X0):Int:=bif ((⟨#[68,69,76,69,84,69]⟩:X0).toList == a.toList) then 6 else bif ((⟨#[71,69,84]⟩:X0).toList == a.toList) then 5 else bif ((⟨#[80,85,84]⟩:X0).toList == a.toList) then 4 else bif ((⟨#[80,65,84,67,72]⟩:X0).toList == a.toList) then 3 else bif ((⟨#[72,69,65,68]⟩:X0).toList == a.toList) then 2 else bif ((⟨#[80,79,83,84]⟩:X0).toList == a.toList) then 1 else 0
theorem F8M:opL ⟨#[80,79,83,84]⟩=opB ⟨#[80,79,83,84]⟩:=by kernel_rfl
theorem F8N:opL ⟨#[72,69,65,68]⟩=opB ⟨#[72,69,65,68]⟩:=by kernel_rfl
theorem F8O:opL ⟨#[80,65,84,67,72]⟩=opB ⟨#[80,65,84,67,72]⟩:=by kernel_rfl
theorem F8P:opL ⟨#[80,85,84]⟩=opB ⟨#[80,85,84]⟩:=by kernel_rfl
theorem F8Q:opL ⟨#[71,69,84]⟩=opB ⟨#[71,69,84]⟩:=by kernel_rfl
theorem F8R:opL ⟨#[68,69,76,69,84,69]⟩=opB ⟨#[68,69,76,69,84,69]⟩:=by kernel_rfl
theorem F82(a:X0):opL a=opB a:=by
  by_cases h1:(⟨#[80,79,83,84]⟩:X0)=a
  · rw [<- h1];exact F8M
  by_cases h2:(⟨#[72,69,65,68]⟩:X0)=a
  · rw [<- h2];exact F8N
  by_cases h3:(⟨#[80,65,84,67,72]⟩:X0)=a
  · rw [<- h3];exact F8O
  by_cases h4:(⟨#[80,85,84]⟩:X0)=a
  · rw [<- h4];exact F8P
  by_cases h5:(⟨#[71,69,84]⟩:X0)=a
  · rw [<- h5];exact F8Q
  by_cases h6:(⟨#[68,69,76,69,84,69]⟩:X0)=a
  · rw [<- h6];exact F8R
  have ne:∀ x:X0,¬ x=a->(x.toList == a.toList)=false:=fun x h=>by
    cases hq:(x.toList == a.toList) with
    | false=>rfl
    | true=>exact absurd (C5m (by simpa using hq)) h
  unfold opL opB;rw [ne _ h1,ne _ h2,ne _ h3,ne _ h4,ne _ h5,ne _ h6];rfl
theorem F70(l:List A4)(hl:l.length<=1000000):C3 (B0C A3C A2f l) (1,0,(⟨#[]⟩:X0),0,())=some (opB (T9 l nM l.length),(⟨#[]⟩:X0),0,()):=by
  have hv:=C4j l nM hl;have st:∀ (k k2:Int) (lit:X0) (op:Int),1<=k->k<=6->k+1=k2->A3C k=some (lit,())->B0C A3C A2f l (k,op,(⟨#[]⟩:X0),0,())=some (.inl (k2,(bif lit.toList == (T9 l nM l.length).toList then k else op),(⟨#[]⟩:X0),0,())):=fun k k2 lit op h1 h6 hk2 hm=>by
    have w:i64.wrap (k+1)=k2:=by rw [w64 (by omega) (by omega),hk2]
    simp only [B0C,A0 h6,cond_true,hm,hv,bO,w];cases lit.toList == (T9 l nM l.length).toList<;>rfl
  rw [A3F (st 1 2 ⟨#[80,79,83,84]⟩ _ (by omega) (by omega) (by omega) rfl)];rw [A3F (st 2 3 ⟨#[72,69,65,68]⟩ _ (by omega) (by omega) (by omega) rfl)];rw [A3F (st 3 4 ⟨#[80,65,84,67,72]⟩ _ (by omega) (by omega) (by omega) rfl)];rw [A3F (st 4 5 ⟨#[80,85,84]⟩ _ (by omega) (by omega) (by omega) rfl)];rw [A3F (st 5 6 ⟨#[71,69,84]⟩ _ (by omega) (by omega) (by omega) rfl)];rw [A3F (st 6 7 ⟨#[68,69,76,69,84,69]⟩ _ (by omega) (by omega) (by omega) rfl)];rw [C8];simp only [B0C,show decide ((7:Int)<=6)=false from rfl,cond_false];exact congrArg (fun x=>some (x,(⟨#[]⟩:X0),(0:Int),())) (F82 (T9 l nM l.length))
theorem F23(op:Int):B0A op=some ((A6o op).1,()):=by
  simp only [B0A,C07];unfold A6o;by_cases h1:op=1
  · rw [A0 h1,if_pos h1];rfl
  rw [A1 h1,if_neg h1];by_cases h3:op=3
  · rw [A0 h3,if_pos h3];rfl
  rw [A1 h3,if_neg h3];by_cases h4:op=4
  · rw [A0 h4,if_pos h4];rfl
  · rw [A1 h4,if_neg h4];rfl
theorem F24(op:Int)(h:((A6o op).1.toList == (⟨#[]⟩:X0).toList)=false):B09 op=some ((A6o op).2,()):=by
  simp only [B09,C06];unfold A6o at h ⊢;by_cases h1:op=1
  · rw [A0 h1,if_pos h1];rfl
  rw [A1 h1,if_neg h1];rw [if_neg h1] at h;by_cases h3:op=3
  · rw [A0 h3,if_pos h3];rfl
  rw [A1 h3,if_neg h3];rw [if_neg h3] at h;by_cases h4:op=4
  · rw [A0 h4,if_pos h4];rfl
  · rw [if_neg h4] at h
    simp at h
theorem E7D(l:List A4)(hl:l.length<=1000)(hn:∀ f∈l,f.1.size<=10000/\f.2.size<=10000):B5r l=some ((A2C l).1,(A2C l).2,()):=by
  have hv:=fun name=>E0r hn name l.length (Nat.le_refl _)
  have hP:=hv nP;have v2:=C4j l nP (by omega);simp only [B5r,C8T,F22 l (by omega) (fun f hf=>by have:=(hn f hf).1;omega),bO];unfold A2C;cases D3n l
  case false=>rfl
  simp only [Bool.not_true,cond_false,cond_true,F70 l (by omega),v2,bO];generalize opB (T9 l nM l.length)=op;by_cases h0:op=0
  · rw [A0 h0,if_pos h0];rfl
  rw [A1 h0,if_neg h0];simp only [cond_false];generalize T9 l nP l.length=s at *
  have hid:∀ x:X0,x.size<=10000->B29 x=some (idB x,()):=fun x hx=>F4U x (by simp only [maxLen];omega)
  have hex:(s.extract 4 s.size).size=s.size-4:=by rw [ByteArray.size_extract];omega
  unfold B5v;by_cases h5:(s.size:Int)<5
  · rw [A0 h5]
    have:((bif decide (4<=s.size)&&((s.extract 0 4).toList == nUp.toList) then (s.extract 4 s.size,true) else (s,false)).2&&idB (bif decide (4<=s.size)&&((s.extract 0 4).toList == nUp.toList) then (s.extract 4 s.size,true) else (s,false)).1)=false:=by
      cases hq:decide (4<=s.size)&&((s.extract 0 4).toList == nUp.toList) with
      | false=>rfl
      | true=>
        simp only [cond_true,Bool.true_and,idB];rw [A1 (show ¬ (1<=((s.extract 4 s.size).size:Int)/\((s.extract 4 s.size).size:Int)<=8) by omega),Bool.and_false]
    rw [this];rfl
  rw [A1 h5,A0 (show 4<=s.size by omega),A0 (show (4:Int)<=(s.size:Int) by omega)];simp only [cond_false,cond_true,Bool.true_and];rw [show ((⟨#[47,117,112,47]⟩:X0))=nUp from rfl];cases ((s.extract 0 4).toList == nUp.toList)
  case false=>rfl
  simp only [Bool.not_true,cond_false,cond_true,Bool.true_and,hid _ (show (s.extract 4 s.size).size<=10000 by omega),bO];cases idB (s.extract 4 s.size)
  case false=>rfl
  simp only [Bool.not_true,cond_false,cond_true,bSl,F23,bO];cases hnm:((A6o op).1.toList == (⟨#[]⟩:X0).toList)
  case true=>rfl
  obtain ⟨n,hq,hz⟩:=E45 (T9 l (A6o op).1 l.length) (A6o op).2;simp only [Bool.not_false,cond_true,cond_false,C4j l _ (show l.length<=1000000 by omega),F24 op hnm,C4i l _ (show l.length<=1000000 by omega),hq,bO];cases hb:E3l (T9 l (A6o op).1 l.length) (A6o op).2 with
  | false=>
    rw [Bool.and_false];rfl
  | true=>
    rw [hz hb,Bool.and_true];by_cases h1:L7 l (A6o op).1 l.length=1
    · rw [A0 (show (L7 l (A6o op).1 l.length:Int)=1 by omega),A0 h1];rfl
    · rw [A1 (show ¬ (L7 l (A6o op).1 l.length:Int)=1 by omega),A1 h1];rfl
set_option maxRecDepth 100000
def E46(pre:Nat)(inn:List Int)(enc:B2)(r:Int×HM):B6:=if r.1=0 then mkH (pre:Int) inn enc 0 r.2 else bsH enc (B3K pre r.2 r.1)
section
variable (pre:Nat) (inn:List Int) (enc:B2)
theorem C8i(p dead:Int)(m:HM)(f:C1)(h:A2B f=true)(ho:m.out.length<=100000000000000):A45 (mkH p inn enc dead m) f=some (mkH p inn enc dead {m with out:=m.out++B2w f},()):=by
  have hl:=D3V f h;have hb:=E3T h;simp only [A45,C00,D6i f (by omega),if_pos h,bO];rw [gA (show m.out.length+(B2w f).length<=_ by omega)]
theorem A4g(dead:Int)(m:HM)(code:Int)(ho:m.out.length<=100000000000000):H9 (mkH (pre:Int) inn enc dead m) code=some (bsH enc (B3K pre m code),()):=by
  have e1:=B44 [] m.last 4 (by omega) (by omega) (by simp);have e2:=B44 ([]++big (A6d m.last) 4) code 4 (by omega) (by omega) (by simp [A9T]);rw [show ((4:Nat):Int)=4 from rfl] at e1 e2;simp only [List.nil_append] at e1 e2;have hf:A2B (7,0,0,big (A6d m.last) 4++big (A6d code) 4)=true:=fok 7 0 0 _ (by omega) (by omega) (by omega) (by simp [A9T]);simp only [H9,C01,A9J,B5C,e1,e2,bO,List.nil_append];rw [C8i inn enc (pre:Int) dead m _ hf ho];rfl
theorem D43(p dead:Int)(m:HM)(i:Nat)(hi:i<m.strs.length)(hc:m.calls.length<=1000000000)(hs:(sAt m.strs i).2.2.2.length<=1000000):A2a (mkH p inn enc dead m) (i:Int)=some (mkH p inn enc dead (A3O m (sAt m.strs i)),()):=by
  have d1:decide ((0:Int)<=(i:Int))=true:=A0 (by omega);have d2:decide ((i:Int)<(m.strs.length:Int))=true:=A0 (by omega);have e1:(rd B7 m.strs (i:Int))=sAt m.strs i:=rfl;simp only [A2a,B7p,mkH,mkC,d1,d2,cond_true,e1];unfold A3O;by_cases h:(sAt m.strs i).2.1=2
  · rw [A0 h,if_pos h,cond_true,gA (by simp;omega),D6k (by simp;omega)]
    rfl
  · rw [A1 h,if_neg h];rfl
theorem F71(ev:Int)(h:1<=ev/\ev<=4):stV 2 ev=(2,2):=by
  have:ev=1\/ev=2\/ev=3\/ev=4:=by omega
  obtain ⟨_,_,_,_,a,b,c,d,_⟩:=E0u;rcases this with rfl | rfl | rfl | rfl<;>assumption
theorem F72(ev:Int)(h:1<=ev/\ev<=4):stV 1 ev=(1,1)\/stV 1 ev=(2,0)\/stV 1 ev=(1,0):=by
  have:ev=1\/ev=2\/ev=3\/ev=4:=by omega
  obtain ⟨a,b,c,d,_⟩:=E0u;rcases this with rfl | rfl | rfl | rfl
  · exact .inl a
  · exact .inr (.inl b)
  · exact .inr (.inr c)
  · exact .inr (.inl d)
theorem F0c{strs:List F7}{i:Nat}(hi:i<strs.length)(s:F7):sAt (strs.set i s) i=s:=by
  rw [A1r (by rw [List.length_set];exact hi),List.getElem_set_self]
theorem D44(m:HM)(i:Nat)(ev:Int)(hi:i<m.strs.length)(hc:m.calls.length<=1000000000)(ho:m.out.length<=100000000000000)(hs:(sAt m.strs i).2.2.2.length<=1000000)(h12:(sAt m.strs i).2.1=1\/(sAt m.strs i).2.1=2)(hev:1<=ev/\ev<=4) :
    A2b (mkH (pre:Int) inn enc 0 m) (i:Int) ev=some (E46 pre inn enc (A7t m i ev),()):=by
  have d1:decide ((0:Int)<=(i:Int))=true:=A0 (by omega);have d2:decide ((i:Int)<(m.strs.length:Int))=true:=A0 (by omega);have e1:(rd B7 m.strs (i:Int))=sAt m.strs i:=rfl;have dies:=fun c=>A4g pre inn enc 0 m c ho
  simp only [mkH,mkC] at dies;have ended:=fun s=>D43 inn enc (pre:Int) 0 (A07 m i s) i (by simp only [A07,List.length_set];exact hi) hc
  simp only [A07,mkH,mkC,F0c hi] at ended;simp only [A2b,B7q,mkH,mkC,d1,d2,cond_true,e1,F20,bO,dies];unfold A7t;rcases h12 with h12 | h12
  · rw [h12]
    rcases F72 ev hev with e | e | e
    · rw [e]
      simp only [decide_true,cond_true,if_true];rfl
    · rw [e]
      simp only [show decide ((0:Int)=1)=false from rfl,show decide ((0:Int)=2)=false from rfl,show decide ((2:Int)=1)=false from rfl,cond_false,Bool.not_false,cond_true,if_neg (show ¬ (0:Int)=1 by omega),if_neg (show ¬ (0:Int)=2 by omega),Int.toNat_natCast];rw [ended _ (by simp only;exact hs)];rfl
    · rw [e]
      simp only [show decide ((0:Int)=1)=false from rfl,show decide ((0:Int)=2)=false from rfl,decide_true,cond_false,Bool.not_true,cond_true,if_neg (show ¬ (0:Int)=1 by omega),if_neg (show ¬ (0:Int)=2 by omega),Int.toNat_natCast];unfold A3O;simp only [show ¬ (1:Int)=2 by omega,if_false,A07];rfl
  · rw [h12,F71 ev hev]
    simp only [show decide ((2:Int)=1)=false from rfl,decide_true,cond_false,cond_true,if_neg (show ¬ (2:Int)=1 by omega),if_true];rfl
theorem E12(p dead:Int)(m:HM)(id:Int)(hs:B5w m.strs m.last):A3B (mkC p inn enc dead m) id=some (if B9B m.strs id=true then (atM m.strs id:Int) else -1,()):=by
  have hl:=hs.1;obtain ⟨i,has,h1,h2,h3⟩:=at_eq (mkC p inn enc dead m) id (by simp only;omega) (E3v hs);have h4:=C1h p inn enc dead m id (by omega);rw [h3] at h4;simp only [Option.some.injEq,Prod.mk.injEq] at h4;rw [h2,h4.2.1];cases hq:B9B m.strs id with
  | false=>rfl
  | true=>simp only [if_true,h4.1]
theorem E47(m:HM)(h:HI m)(hl:HL m)(id:Int)(fin:Bool)(l:List A4)(hll:l.length<=1000)(hn:∀ f∈l,f.1.size<=10000/\f.2.size<=10000) :
    A5a (mkH (pre:Int) inn enc 0 m) id fin l=some (E46 pre inn enc (C8d m id fin l),()):=by
  have hc:=hl.1;have ho:=hl.2;have hsl:=h.strs.1;have dies:=fun c=>A4g pre inn enc 0 m c (by omega)
  simp only [mkH,mkC] at dies;have hcond:∀ {R:Type} (K:Bool×Unit->Option R),A3 (bif (decide ((id.tmod 2)=0)) then some (true,()) else some ((decide (id<=m.last)),())) K=K (decide (id.tmod 2=0\/id<=m.last),()):=fun K=>by
    by_cases q:id.tmod 2=0
    · rw [A0 q,A0 (Or.inl q:id.tmod 2=0\/id<=m.last)];rfl
    · rw [A1 q]
      by_cases q2:id<=m.last
      · rw [A0 q2,A0 (Or.inr q2:id.tmod 2=0\/id<=m.last)];rfl
      · rw [A1 q2,A1 (fun q3:id.tmod 2=0\/id<=m.last=>q3.elim q q2)];rfl
  simp only [A5a,B5I,mkH,mkC,hcond,dies,bO,E7D l hll hn];unfold C8d;by_cases h1:id.tmod 2=0\/id<=m.last
  · rw [A0 h1,if_pos h1];rfl
  rw [A1 h1,if_neg h1];by_cases h2:100<=m.strs.length
  · rw [if_pos h2,A0 (show (m.strs.length:Int)=100 by omega)];rfl
  rw [if_neg h2,A1 (show ¬ (m.strs.length:Int)=100 by omega)];simp only [cond_false,bSl];by_cases h3:(A2C l).2=0
  · rw [A0 h3,if_neg (by simpa using h3)]
    simp only [Bool.not_true,cond_false];have hfin:∀ {R:Type} (K:Int×Int×Int×X0×Int×Unit->Option R),A3 (bif fin then some (id,2,(A2C l).1.1,(A2C l).1.2.1,(A2C l).1.2.2,()) else some (id,1,(A2C l).1.1,(A2C l).1.2.1,(A2C l).1.2.2,())) K=K (id,(if fin then 2 else 1),(A2C l).1.1,(A2C l).1.2.1,(A2C l).1.2.2,()):=fun K=>by cases fin<;>rfl
    rw [hfin];simp only [];rw [D6k (by simp;omega)];have e:=D43 inn enc (pre:Int) 0 {m with last:=id,strs:=m.strs ++ [(id,(if fin then 2 else 1),(A2C l).1,[])]} m.strs.length (by simp) hc (by rw [A1r (by simp)];simp);have hsa:sAt (m.strs ++ [(id,(if fin then 2 else 1),(A2C l).1,[])]) m.strs.length=(id,(if fin then 2 else 1),(A2C l).1,[]):=by rw [A1r (by simp)];simp
    simp only [hsa,mkH,mkC] at e;have hw:i64.wrap (((m.strs ++ [((id,(if fin then 2 else 1),((A2C l).1.1,((A2C l).1.2.1,(A2C l).1.2.2)),[]):F7)]).length:Int)-1)=(m.strs.length:Int):=by
      have hls:(m.strs ++ [((id,(if fin then 2 else 1),((A2C l).1.1,((A2C l).1.2.1,(A2C l).1.2.2)),[]):F7)]).length=m.strs.length+1:=by rw [List.length_append,List.length_singleton]
      rw [hls,w64 (by omega) (by omega)];omega
    rw [hw];rw [show ((A2C l).1.1,((A2C l).1.2.1,(A2C l).1.2.2))=(A2C l).1 from rfl,e];rfl
  · rw [A1 h3,if_pos h3]
    simp only [Bool.not_false,cond_true];rw [D6k (by simp;omega)];rfl
theorem E7E(m:HM)(h:HI m)(hl:HL m)(id:Int)(fin:Bool)(b:List Int)(hb:Byt b)(hbl:b.length<=100000) :
    A1F (mkH (pre:Int) inn enc 0 m) id fin b=some (E46 pre inn enc (B5K m id fin b),()):=by
  have hc:=hl.1;have ho:=hl.2;have dies:=fun c=>A4g pre inn enc 0 m c (by omega)
  have hg:=D41 h.dec hb (by omega) (most:=4096) (by omega);obtain ⟨k1,k2,k3⟩:=C4f h.dec (most:=4096) (by omega) b;have hm2:HI {m with dec:=(I0 m.dec 4096 b).2.1}:=⟨h.strs,h.last,k1,h.g,h.gb⟩;have hat:=E12 inn enc (pre:Int) 0 {m with dec:=(I0 m.dec 4096 b).2.1} id h.strs;have hbeg:=E47 pre inn enc {m with dec:=(I0 m.dec 4096 b).2.1} hm2 hl id fin (I0 m.dec 4096 b).1 (by omega) k3;simp only [mkH,mkC] at dies hat hbeg;simp only [A1F,A7m,mkH,mkC,hg,bO,dies];unfold B5K;by_cases h1:(I0 m.dec 4096 b).2.2.1=0
  · rw [A0 h1,if_neg (by simpa using h1)]
    simp only [Bool.not_true,cond_false,hat,bO];cases hq:B9B m.strs id with
    | false=>
      simp only [Bool.false_eq_true,if_false,show decide ((-1:Int)<0)=true from rfl,cond_true,hbeg,bO]
    | true=>
      obtain ⟨a1,a2⟩:=A9U hq;have hs:=h.strs.2.2 _ (List.getElem_mem a1);rw [<- A1r a1] at hs;unfold E0s at hs;have hmv:=fun ev hev=>D44 pre inn enc {m with dec:=(I0 m.dec 4096 b).2.1} (atM m.strs id) ev a1 hc (by simp only;omega) (by simp only;omega) hs.2.2.2.1 hev
      simp only [mkH,mkC] at hmv;simp only [if_true,A1 (show ¬ (atM m.strs id:Int)<0 by omega),cond_false];cases fin with
      | true=>simp only [cond_true,hmv 2 (by omega),bO,if_true]
      | false=>simp only [cond_false,hmv 1 (by omega),bO,Bool.false_eq_true,if_false]
  · rw [A1 h1,if_pos h1];rfl
end
set_option maxRecDepth 100000
theorem F25(g:D6)(f:C1):(J2 g f).2.2=0\/(J2 g f).2.2=1\/(J2 g f).2.2=2\/(J2 g f).2.2=3\/(J2 g f).2.2=4:=by
  have hB:∀ g2,(B32 f g g2).2.2=0\/(B32 f g g2).2.2=1\/(B32 f g g2).2.2=4:=fun g2=>by
    unfold B32;split
    · exact .inr (.inr rfl)
    · cases A0l f 4
      · exact .inl rfl
      · exact .inr (.inl rfl)
  unfold J2;cases !decide (fcV f=0)||!A6L g f
  · simp only [cond_false]
    unfold D92;split
    · split
      · exact .inr (.inr (.inr (.inl rfl)))
      · rcases hB (f.2.2.1,A0l f 1,(A6K f).1) with h | h | h<;>simp [h]
    · split
      · rcases hB (g.1,g.2.1,g.2.2++f.2.2.2) with h | h | h<;>simp [h]
      · exact .inl rfl
  · exact .inr (.inr (.inl rfl))
theorem F26{g:D6}{f:C1}(h:(J2 g f).2.2=1):(if g.1=0 then f.2.2.1 else g.1)=f.2.2.1/\(f.1=1\/f.1=9)/\(g.1=0->f.1=1)/\(g.1≠0->f.1=9):=by
  unfold J2 at h;cases hq:!decide (fcV f=0)||!A6L g f with
  | true=>rw [hq] at h;cases h
  | false=>
    have hin:A6L g f=true:=by
      cases hi:A6L g f with
      | true=>rfl
      | false=>rw [hi] at hq;simp at hq
    rw [hq] at h;simp only [cond_false] at h;have h19:f.1=1\/f.1=9:=by
      unfold D92 at h;by_cases h1:f.1=1
      · exact .inl h1
      · rw [if_neg h1] at h
        by_cases h9:f.1=9
        · exact .inr h9
        · rw [if_neg h9] at h;cases h
    unfold A6L at hin;by_cases hg:g.1=0
    · rw [if_pos hg] at hin ⊢
      have:¬ f.1=9:=by simpa using hin
      exact ⟨rfl,h19,fun _=>by omega,fun q=>absurd hg q⟩
    · rw [if_neg hg] at hin ⊢
      simp only [Bool.and_eq_true,decide_eq_true_eq] at hin;exact ⟨hin.2.symm,h19,fun q=>absurd q hg,fun _=>hin.1⟩
section
variable (pre:Nat) (inn:List Int) (enc:B2)
theorem F27(m:HM)(h:HI m)(hl:HL m)(f:C1)(hf:FrI f)(hc0:fcV f=0)(hh:m.g.1≠0\/f.1=1\/f.1=9) :
    A29 (mkH (pre:Int) inn enc 0 m) f=some (E46 pre inn enc (C2U m f),()):=by
  have ho:=hl.2;have dies:=fun c=>A4g pre inn enc 0 m c (by omega)
  have hg:GaI m.g:=h.g;have hfd:=C62 hg h.gb hf (by
    by_cases h1:f.1=1
    · exact .inl (D2C hc0 h1)
    · exact .inr h1)
  have hfe:=F1w hg hf;have hm2:HI {m with g:=(J2 m.g f).1}:=⟨h.strs,h.last,h.dec,hfd.1,hfd.2.1⟩;have hbl:=fun fin=>E7E pre inn enc {m with g:=(J2 m.g f).1} hm2 hl f.2.2.1 fin (J2 m.g f).2.1 hfd.2.2.1 (by omega)
  simp only [mkH,mkC] at dies hbl;have hfin:∀ {R:Type} (K:Bool×Unit->Option R),A3 (bif (decide (f.1=1)) then some ((!decide ((N8 .i64 f.2.1 1)=0)),()) else some (m.g.2.1,())) K=K (bif decide (f.1=1) then A0l f 1 else m.g.2.1,()):=fun K=>by
    cases decide (f.1=1)<;>rfl
  have h23:∀ {R:Type} (c:Int) (K:Bool×Unit->Option R),A3 (bif (decide (c=2)) then some ((decide (c=2)),()) else some ((decide (c=3)),())) K=K (decide (c=2\/c=3),()):=fun c K=>by
    by_cases q:c=2
    · rw [A0 q,A0 (Or.inl q:c=2\/c=3)];rfl
    · rw [A1 q]
      by_cases q2:c=3
      · rw [A0 q2,A0 (Or.inr q2:c=2\/c=3)];rfl
      · rw [A1 q2,A1 (fun q3:c=2\/c=3=>q3.elim q q2)];rfl
  simp only [A29,A8n,mkH,mkC,hfin,hfe,bO,h23,dies];unfold C2U;by_cases c23:(J2 m.g f).2.2=2\/(J2 m.g f).2.2=3
  · rw [A0 c23,if_pos c23];rfl
  rw [A1 c23,if_neg c23];by_cases c4:(J2 m.g f).2.2=4
  · rw [A0 c4,if_pos c4];rfl
  rw [A1 c4,if_neg c4];by_cases c0:(J2 m.g f).2.2=0
  · rw [A0 c0,if_neg (by omega)];rfl
  have c1:(J2 m.g f).2.2=1:=by have:=F25 m.g f;omega
  obtain ⟨k1,k2,k3,k4⟩:=F26 c1;rw [A1 c0,if_pos c1];simp only [cond_false,hbl,bO];have hfn:(bif decide (f.1=1) then A0l f 1 else m.g.2.1)=(if m.g.1=0 then A0l f 1 else m.g.2.1):=by
    by_cases hg0:m.g.1=0
    · rw [if_pos hg0,A0 (k3 hg0)];rfl
    · rw [if_neg hg0,A1 (by have:=k4 hg0;omega)];rfl
  rw [k1,hfn]
theorem F28(m:HM)(h:HI m)(hl:HL m)(f:C1)(hf:FrI f):B0D (mkH (pre:Int) inn enc 0 m) f=some (E46 pre inn enc (C0K m f),()):=by
  have hc:=hl.1;have ho:=hl.2;have hn:=hf.n;have hu:=E3n f;have dies:=fun c=>A4g pre inn enc 0 m c (by omega)
  have hat:=E12 inn enc (pre:Int) 0 m f.2.2.1 h.strs;simp only [mkH,mkC] at dies hat;simp only [B0D,C09,mkH,mkC,hat,bO,dies,D40 hf];unfold C0K;cases hq:B9B m.strs f.2.2.1 with
  | false=>
    simp only [Bool.false_eq_true,if_false,show decide ((-1:Int)<0)=true from rfl,cond_true];unfold D3q;by_cases hk:f.2.2.1>m.last
    · rw [A0 hk,if_pos hk];rfl
    · rw [A1 hk,if_neg hk];rfl
  | true=>
    obtain ⟨a1,a2⟩:=A9U hq;have hs:=h.strs.2.2 _ (List.getElem_mem a1);rw [<- A1r a1] at hs;unfold E0s at hs;have e1:(rd B7 m.strs (atM m.strs f.2.2.1:Int))=sAt m.strs (atM m.strs f.2.2.1):=rfl;simp only [if_true,A1 (show ¬ (atM m.strs f.2.2.1:Int)<0 by omega),cond_false,e1];cases hun:(A6K f).2 with
    | false=>rfl
    | true=>
      simp only [Bool.not_true,cond_false,Bool.true_eq_false,if_false];rw [A0 (show (0:Int)<=(atM m.strs f.2.2.1:Int) by omega),A0 (show (atM m.strs f.2.2.1:Int)<(m.strs.length:Int) by omega),w64 (n:=((sAt m.strs (atM m.strs f.2.2.1)).2.2.2.length:Int)+((A6K f).1.length:Int)) (by omega) (by omega)];simp only [cond_true];by_cases h2:((sAt m.strs (atM m.strs f.2.2.1)).2.2.2.length:Int)+((A6K f).1.length:Int)>2000
      · rw [A0 h2,if_pos h2];rfl
      · rw [A1 h2,if_neg h2]
        simp only [cond_false,decide_true,cond_true];rw [gA (by omega)];simp only [bO,Int.toNat_natCast];have hsat:=F0c a1 ((sAt m.strs (atM m.strs f.2.2.1)).1,(sAt m.strs (atM m.strs f.2.2.1)).2.1,(sAt m.strs (atM m.strs f.2.2.1)).2.2.1,(sAt m.strs (atM m.strs f.2.2.1)).2.2.2++(A6K f).1);have hmv:=fun ev hev=>D44 pre inn enc (A07 m (atM m.strs f.2.2.1) ((sAt m.strs (atM m.strs f.2.2.1)).1,(sAt m.strs (atM m.strs f.2.2.1)).2.1,(sAt m.strs (atM m.strs f.2.2.1)).2.2.1,(sAt m.strs (atM m.strs f.2.2.1)).2.2.2++(A6K f).1)) (atM m.strs f.2.2.1) ev (by simp only [A07,List.length_set];exact a1) hc (by simp only [A07];omega) (by simp only [A07,hsat,List.length_append];omega) (by simp only [A07,hsat];exact hs.2.2.2.1) hev
        simp only [A07,mkH,mkC] at hmv ⊢;rw [show (!decide (N8 .i64 f.2.1 1=0))=A0l f 1 from rfl];cases A0l f 1 with
        | true=>simp only [cond_true,hmv 4 (by omega),bO]
        | false=>simp only [cond_false,hmv 3 (by omega),bO]
theorem E48(b:List Int)(hb:Byt b)(hl:b.length<=1000):∃ n,A7n b=some (n,E3p b,()):=by
  have e:=E3L b hb (by omega) 0 4 (by omega);rw [show ((4:Nat):Int)=4 from rfl] at e;simp only [A7n,B7u,e,bO];unfold E3p;cases (A05 b 0 4).2.1<;>cases decide ((b.length:Int)=4)<;>cases decide (N8 .i64 (A05 b 0 4).1 2147483647=0)<;>exact ⟨_,rfl⟩
theorem F29(m:HM)(i:Nat)(hi:i<m.strs.length)(hl:m.strs.length<=1000000):A1w (mkH (pre:Int) inn enc 0 m) (i:Int)=some (mkH (pre:Int) inn enc 0 {m with strs:=m.strs.take i++m.strs.drop (i+1)},()):=by
  have d1:decide ((0:Int)<=(i:Int))=true:=A0 (by omega);have d2:decide ((i:Int)<(m.strs.length:Int))=true:=A0 (by omega);have d3:decide (m.strs.length<=1000000000000)=true:=A0 (by omega);have e:A1w (mkH (pre:Int) inn enc 0 m) (i:Int)=bif decide ((0:Int)<=(i:Int)) then bif decide ((i:Int)<(m.strs.length:Int)) then bif decide (m.strs.length<=1000000000000) then some ((((pre:Int),inn,m.g,m.dec,enc,(m.strs.take ((i:Int)).toNat++m.strs.drop (((i:Int)).toNat+1)),m.last,0),m.calls,m.out),()) else none else none else none:=rfl
  rw [e,d1,d2,d3,Int.toNat_natCast];rfl
theorem E7F(m:HM)(h:HI m)(hl:HL m)(f:C1)(hf:FrI f)(hg:m.g.1=0)(hc0:fcV f=0)(h1:f.1≠1)(h9:f.1≠9)(h0:f.1≠0) :
    A1G (mkH (pre:Int) inn enc 0 m) f=some (E46 pre inn enc (frM m f),()):=by
  have ho:=hl.2;have hn:=hf.n;have dies:=fun c=>A4g pre inn enc 0 m c (by omega)
  have hat:=E12 inn enc (pre:Int) 0 m f.2.2.1 h.strs;have says4:=C8i inn enc (pre:Int) 0 m (4,1,0,[]) rfl (by omega);have says6:=C8i inn enc (pre:Int) 0 m (6,1,0,f.2.2.2) (fok 6 1 0 _ (by omega) (by omega) (by omega) (by omega)) (by omega);obtain ⟨n,hw⟩:=E48 f.2.2.2 hf.b hn;simp only [mkC] at hat;have hflag:decide (N8 .i64 f.2.1 1=0)=!A0l f 1:=by unfold A0l;rw [Bool.not_not]
  simp only [A1G,A7o,dies,hat,bO,hw,hflag,says4,says6];have hno:¬ (m.g.1≠0\/f.1=1\/f.1=9):=fun q=>q.elim (fun q=>q hg) fun q=>q.elim h1 h9
  have e:frM m f=if f.1=4 then (0,D1P m f []) else if f.1=6 then (0,D1P m f f.2.2.2) else if f.1=5 then (1,m) else if f.1=8 then (if E3p f.2.2.2=true then (0,m) else (1,m))
      else if f.1=0 then C0K m f else if f.1=3 then B84 m f else (0,m):=by
    unfold frM;rw [hc0,if_neg (by omega),if_neg (by omega),if_neg hno]
  rw [e];by_cases c4:f.1=4
  · rw [A0 c4,if_pos c4]
    unfold D1P;cases A0l f 1
    · simp only [Bool.not_false,cond_true,cond_false,c4];rfl
    · rfl
  rw [A1 c4,if_neg c4];by_cases c6:f.1=6
  · rw [A0 c6,if_pos c6]
    unfold D1P;cases A0l f 1
    · simp only [Bool.not_false,cond_true,cond_false,c6];rfl
    · rfl
  rw [A1 c6,if_neg c6];by_cases c5:f.1=5
  · rw [A0 c5,if_pos c5];rfl
  rw [A1 c5,if_neg c5];by_cases c8:f.1=8
  · rw [A0 c8,if_pos c8]
    cases E3p f.2.2.2<;>rfl
  rw [A1 c8,if_neg c8,if_neg h0];by_cases c3:f.1=3
  · rw [A0 c3,if_pos c3]
    unfold B84;cases hq:B9B m.strs f.2.2.1 with
    | false=>
      simp only [Bool.false_eq_true,if_false,show decide ((-1:Int)>=0)=false from rfl,cond_true,cond_false];unfold D3q;by_cases hk:f.2.2.1>m.last
      · rw [A0 hk,if_pos hk];rfl
      · rw [A1 hk,if_neg hk];rfl
    | true=>
      obtain ⟨a1,a2⟩:=A9U hq;simp only [if_true,A0 (show (atM m.strs f.2.2.1:Int)>=0 by omega),cond_true,F29 pre inn enc m _ a1 (by have:=h.strs.1;omega),bO];rfl
  · rw [A1 c3,if_neg c3];rfl
theorem E7G(m:HM)(h:HI m)(hl:HL m)(f:C1)(hf:FrI f):A1H (mkH (pre:Int) inn enc 0 m) f=some (E46 pre inn enc (frM m f),()):=by
  have ho:=hl.2;have hg:=h.g;have dies:=fun c=>A4g pre inn enc 0 m c (by omega)
  simp only [A1H,A7p,C0M,bO,dies];by_cases c2:fcV f=2
  · have e:frM m f=(6,m):=by unfold frM;rw [if_pos c2]
    rw [A0 c2,e];rfl
  by_cases c3:fcV f=3
  · have e:frM m f=(1,m):=by unfold frM;rw [if_neg c2,if_pos c3]
    rw [A1 c2,A0 c3,e];rfl
  have c0:fcV f=0:=by have:=E0v f;omega
  rw [A1 c2,A1 c3];simp only [cond_false];have hcond:∀ {R:Type} (K:Bool×Unit->Option R),A3 (bif (decide (m.g.1>0)) then some (true,()) else bif (decide (f.1=1)) then some (true,()) else some ((decide (f.1=9)),())) K=K (decide (m.g.1≠0\/f.1=1\/f.1=9),()):=fun K=>by
    have hgs:m.g.1>0↔m.g.1≠0:=by
      rcases hg with ⟨q,_⟩ | ⟨q,_⟩<;>omega
    by_cases q1:m.g.1>0
    · rw [A0 q1,A0 (Or.inl (hgs.1 q1):m.g.1≠0\/f.1=1\/f.1=9)];rfl
    · rw [A1 q1]
      have q1':¬ m.g.1≠0:=fun q=>q1 (hgs.2 q)
      by_cases q2:f.1=1
      · rw [A0 q2,A0 (Or.inr (Or.inl q2):m.g.1≠0\/f.1=1\/f.1=9)];rfl
      · rw [A1 q2]
        by_cases q3:f.1=9
        · rw [A0 q3,A0 (Or.inr (Or.inr q3):m.g.1≠0\/f.1=1\/f.1=9)];rfl
        · rw [A1 q3,A1 (fun q:m.g.1≠0\/f.1=1\/f.1=9=>q.elim q1' fun q=>q.elim q2 q3)];rfl
  have hcond':A3 (bif (decide ((mkH (pre:Int) inn enc 0 m).1.2.2.1.1>0)) then some (true,()) else bif (decide (f.1=1)) then some (true,()) else some ((decide (f.1=9)),()))=fun (K:Bool×Unit->Option (B6×Unit))=>K (decide (m.g.1≠0\/f.1=1\/f.1=9),()):=funext fun K=>hcond K
  rw [hcond'];simp only [];by_cases hh:m.g.1≠0\/f.1=1\/f.1=9
  · have e:frM m f=C2U m f:=by unfold frM;rw [if_neg c2,if_neg c3,if_pos hh]
    rw [A0 hh,e,cond_true,F27 pre inn enc m h hl f hf c0 hh];rfl
  · rw [A1 hh,cond_false]
    have hg0:m.g.1=0:=Classical.byContradiction fun q=>hh (.inl q)
    have hn1:f.1≠1:=fun q=>hh (.inr (.inl q))
    have hn9:f.1≠9:=fun q=>hh (.inr (.inr q))
    by_cases h0:f.1=0
    · have e:frM m f=C0K m f:=by
        unfold frM;rw [if_neg c2,if_neg c3,if_neg hh,if_neg (by omega),if_neg (by omega),if_neg (by omega),if_neg (by omega),if_pos h0]
      rw [A0 h0,e,cond_true,F28 pre inn enc m h hl f hf];rfl
    · rw [A1 h0,cond_false,E7F pre inn enc m h hl f hf hg0 c0 hn1 hn9 h0]
      rfl
end
theorem F2A(enc:B2){st:BS}(h:BI st)(hd:st.dead=0)(hl:HL st.m){x:Int}(hx:0<=x/\x<256):Q9 (bsH enc st) x=some (bsH enc (A1J st x),()):=by
  have ho:=hl.2;have hpre:=h.pre;have hil:=C1k h.more;obtain ⟨pre,inn,dead,m⟩:=st;simp only at hd hpre hil hl ho;subst hd;have hm:HI m:=h.hi;unfold A1J;simp only [ne_eq,not_true,if_false];by_cases hp:pre<24
  · have dies:=fun c=>A4g pre inn enc 0 m c (by omega)
    have hsz:((⟨#[80,82,73,32,42,32,72,84,84,80,47,50,46,48,13,10,13,10,83,77,13,10,13,10]⟩:X0).size:Int)=24:=rfl;simp only [mkH,mkC] at dies;simp only [Q9,A4d,bsH,mkH,mkC,hsz,A0 (show (pre:Int)<24 by omega),A0 (show (0:Int)<=(pre:Int) by omega),cond_true,dies,bO,w64 (n:=(pre:Int)+1) (by omega) (by omega)];rw [if_pos hp];by_cases hq:x=bt priS (pre:Int)
    · rw [A0 hq,if_pos hq];rfl
    · rw [A1 hq,if_neg hq];rfl
  · rw [if_neg hp]
    have hb:Byt (inn ++ [x]):=D3s h.inb hx;have hge:=C0C (inn ++ [x]) hb (by rw [List.length_append,List.length_singleton];omega) 0 (by omega);obtain ⟨g1,g2⟩:=B47 (b:=inn ++ [x]) (a:=0) (by omega);rw [List.drop_zero,show ((0:Nat):Int)=0 from rfl] at g1 g2;simp only [Q9,A4d,bsH,mkH,mkC,A1 (show ¬ (pre:Int)<24 by omega),cond_false];rw [gA (by simp;omega),hge];simp only [bO,g1];rcases B60 (inn ++ [x]) with hc | hc | hc
    · have hfr:=C1i hb hc
      rw [hc,A1 (show ¬ ((0:Nat):Int)=2 by omega),A0 (show ((0:Nat):Int)=0 by omega),if_neg (by omega),if_neg (by omega),(g2 hc).1];have e:=E7G pre [] enc m hm hl (P4 (inn ++ [x])) hfr;simp only [mkH,mkC] at e;simp only [cond_false,cond_true,e,bO];unfold E46;by_cases hz:(frM m (P4 (inn ++ [x]))).1=0
      · rw [if_pos hz,if_pos hz]
      · rw [if_neg hz,if_neg hz]
    · rw [hc,A1 (show ¬ ((1:Nat):Int)=2 by omega),A1 (show ¬ ((1:Nat):Int)=0 by omega),if_pos rfl]
      rfl
    · rw [hc,A0 (show ((2:Nat):Int)=2 by omega),if_neg (by omega),if_pos rfl]
      have dies:=A4g pre (inn ++ [x]) enc 0 m 6 (by omega);simp only [mkH,mkC] at dies;simp only [cond_true,dies,bO]
set_option maxRecDepth 100000
abbrev E49(enc:B2)(st:BS):Int×Int×Bool×Int×List A4×Int×Int×Int×List Int×List Int×List A4×List F7×List H0×List Int×Unit:=
  ((st.pre:Int),st.m.g.1,st.m.g.2.1,st.m.dec.1,st.m.dec.2,enc.1,st.m.last,st.dead,st.inn,st.m.g.2.2,enc.2,st.m.strs,st.m.calls,st.m.out,())
theorem D01(enc:B2)(b:List Int)(hb:Byt b)(hl:b.length<=900000000):∀ (k i:Nat) (st:BS),i+k=b.length->BI st->st.m.calls.length<=i->st.m.out.length<=1200*i->
    C3 (L6 Q9 b (true,())) ((i:Int),E49 enc st)=some (E49 enc (K8 st (b.drop i)))
  | 0,i,st,hi,h,hc,ho=>by
    have h1:¬ (i:Int)<(b.length:Int):=by omega
    rw [C8];simp only [L6,E49,A1 h1,cond_false];rw [List.drop_eq_nil_of_le (by omega)];rfl
  | k+1,i,st,hi,h,hc,ho=>by
    have h1:(i:Int)<(b.length:Int):=by omega
    have h2:(0:Int)<=(i:Int):=by omega
    have w1:i64.wrap ((i:Int)+1)=((i+1:Nat):Int):=by rw [w64 (by omega) (by omega)];omega
    have hx:=hb _ (List.getElem_mem (show i<b.length by omega));have hr:rd (.int .u8) b (i:Int)=b[i]:=C0B (by omega);have hd:b.drop i=b[i]::b.drop (i+1):=List.drop_eq_getElem_cons (by omega);rw [C8];by_cases h0:st.dead=0
    · obtain ⟨k1,k2,k3⟩:=D3t h hx
      have e:=F2A enc h h0 ⟨by omega,by omega⟩ hx;have ih:=D01 enc b hb hl k (i+1) (A1J st b[i]) (by omega) k1 (by omega) (by omega);simp only [bsH,mkH,mkC] at e;simp only [L6,E49,A0 h1,A0 h2,A0 h0,cond_true,bSl,hr,w1];rw [show (((st.pre:Int),(st.inn,((st.m.g.1,(st.m.g.2.1,st.m.g.2.2)),((st.m.dec.1,st.m.dec.2),((enc.1,enc.2),(st.m.strs,(st.m.last,st.dead))))))),(st.m.calls,st.m.out))=(((st.pre:Int),st.inn,st.m.g,st.m.dec,enc,st.m.strs,st.m.last,st.dead),st.m.calls,st.m.out) from rfl,e];simp only [bO];rw [hd];exact ih
    · simp only [L6,E49,A0 h1,A1 h0,cond_true,cond_false]
      rw [A6g st h0];rfl
theorem F7O{enc:B2}(he:W6 enc){st:BS}(h:BI st):C2S (bsC enc st):=by
  have hsl:=h.hi.strs.1;have hdl:=A60 h.hi.dec;have hel:=A60 he;have hgl:=h.hi.g;have hil:=C1k h.more;exact ⟨by simp only;omega,(by rcases hgl with ⟨_,_,q⟩ | ⟨_,_,q⟩;(simp only [q];simp);(simp only;omega)),by simp only;omega,by simp only;omega,by simp only;omega,fun x hx=>by have:=(h.hi.strs.2.2 x hx).2.2.2.2;omega⟩
theorem D45{enc:B2}(he:W6 enc){st:BS}(h:BI st)(hc:st.m.calls = [])(ho:st.m.out = [])(hok:A2U (bsC enc st)=some (true,())){b:List Int}(hb:Byt b)(hl:b.length<=900000000) :
    L4 (bsC enc st) b=some (bsC enc (K8 st b),(K8 st b).m.calls,(K8 st b).m.out,()):=by
  have hcp:=D3W (bsC enc st) (F7O he h);have e:=D01 enc b hb hl b.length 0 st (by omega) h (by rw [hc];simp) (by rw [ho];simp);rw [List.drop_zero,show ((0:Nat):Int)=0 from rfl] at e;obtain ⟨k1,k2,k3⟩:=C1j h hb;rw [hc] at k2;rw [ho] at k3;simp only [List.length_nil,Nat.zero_add] at k2 k3;simp only [L4,A1q,hcp,hok,bO];have e':C3 (L6 Q9 b (true,())) (0,(st.pre:Int),st.m.g.1,st.m.g.2.1,st.m.dec.1,st.m.dec.2,enc.1,st.m.last,st.dead,st.inn,st.m.g.2.2,enc.2,st.m.strs,[],[],())=some (E49 enc (K8 st b)):=by
    have e2:=e;simp only [E49,hc,ho] at e2;exact e2
  rw [e'];simp only [bO,E49];rw [D6k (by simp;omega),gA (by simp;omega)];rfl
theorem E7H(c:E9)(hS:C2S c)(hok:A2U c=some (false,()))(b:List Int):L4 c b=some (c,[],[],()):=by
  have hcp:=D3W c hS;simp only [L4,A1q,hcp,hok,bO];rw [C8];simp only [L6];cases decide ((0:Int)<(b.length:Int))<;>rfl
theorem E7I(c:E9)(hS:C2S c)(hok:A3v c=some (false,()))(b:List Int):A0c c b=some (c,[],[],()):=by
  have hcp:=C9r c hS;simp only [A0c,A9F,hcp,hok,bO];cases decide (c.2.2.2.2.2.2.2>0)<;>rfl
set_option maxRecDepth 100000
theorem B0J{p:Prop}(h:(some (false,()):Option (Bool×Unit))=some (true,())):p:=by cases h
theorem F5L{c:E9}(h:B8m c=true):B5w c.2.2.2.2.2.1 c.2.2.2.2.2.2.1:=by
  unfold B8m at h;simp only [Bool.and_eq_true,decide_eq_true_eq] at h;obtain ⟨h1,h2⟩:=h;have hgo:∀ i,i<c.2.2.2.2.2.1.length->A7q c i=true:=fun i hi=>B46 (A7q c) c.2.2.2.2.2.1.length 0 i (by omega) (by omega)
  have hone:∀ i (hi:i<c.2.2.2.2.2.1.length),E0s c.2.2.2.2.2.2.1 (c.2.2.2.2.2.1[i])/\(0<i->(c.2.2.2.2.2.1[i-1]'(by omega)).1<(c.2.2.2.2.2.1[i]).1):=fun i hi=>by
    have h3:=hgo i hi;unfold A7q at h3;have e:rd B7 c.2.2.2.2.2.1 (i:Int)=c.2.2.2.2.2.1[i]:=T8 (k:=B7) hi;rw [e] at h3;simp only [Bool.and_eq_true,Bool.or_eq_true,decide_eq_true_eq,Bool.not_eq_true',decide_eq_false_iff_not] at h3;obtain ⟨⟨⟨⟨a1,a2⟩,a3⟩,a4⟩,a5⟩:=h3;refine ⟨⟨a1,a2.1,a2.2,a4,by omega⟩,fun h0=>?_⟩;have e1:rd B7 c.2.2.2.2.2.1 ((i:Int)-1)=c.2.2.2.2.2.1[i-1]'(by omega):=by
      rw [show (i:Int)-1=((i-1:Nat):Int) by omega];exact T8 (k:=B7) (by omega)
    rw [e1] at a3;rcases a3 with a3 | a3
    · omega
    · exact Int.not_le.1 a3
  refine ⟨by omega,?_,fun s hs=>?_⟩
  · rw [List.pairwise_iff_getElem]
    intro i j hi hj hij;simp only [List.getElem_map];have key:∀ d k (hk:k+d+1<c.2.2.2.2.2.1.length),(c.2.2.2.2.2.1[k]'(by omega)).1<(c.2.2.2.2.2.1[k+d+1]).1:=by
      intro d
      induction d with
      | zero=>
        intro k hk;have:=(hone (k+0+1) hk).2 (by omega);simpa using this
      | succ d ih=>
        intro k hk;have a:=ih k (by omega);have b:=(hone (k+(d+1)+1) hk).2 (by omega);have e:k+(d+1)+1-1=k+d+1:=by omega
        simp only [e] at b;exact Int.lt_trans a b
    simp only [List.length_map] at hi hj;have:=key (j-i-1) i (by omega);have e:i+(j-i-1)+1=j:=by omega
    simp only [e] at this;exact this
  · obtain ⟨i,hi,rfl⟩:=List.mem_iff_getElem.1 hs
    exact (hone i hi).1
theorem F2B(c:E9)(h:Sm 1048576 B5i c)(hb:Byt c.2.1)(hgb:Byt c.2.2.1.2.2)(z1:szT c.2.2.2.1.2<=10000000000000)(z2:szT c.2.2.2.2.1.2<=10000000000000)(hk:A2U c=some (true,())) :
    ∃ enc st,c=bsC enc st/\W6 enc/\BI st/\st.m.calls = []/\st.m.out = []:=by
  have hin:List.length c.2.1<=1048576:=(Sm.l (Sm.r h)).1;have hst:List.length c.2.2.2.2.2.1<=1048576:=(Sm.l (Sm.r (Sm.r (Sm.r (Sm.r (Sm.r h)))))).1;have hd:List.length c.2.2.2.1.2<=1048576:=(Sm.r (Sm.l (Sm.r (Sm.r (Sm.r h))))).1;have he:List.length c.2.2.2.2.1.2<=1048576:=(Sm.r (Sm.l (Sm.r (Sm.r (Sm.r (Sm.r h)))))).1;obtain ⟨g,hg⟩:=C2O c.2.2.1;obtain ⟨t1,ht1⟩:=B1b c.2.2.2.1 (by simp only [maxLen];omega);obtain ⟨t2,ht2⟩:=B1b c.2.2.2.2.1 (by simp only [maxLen];omega);have e6:=C2P _ hb hin 0 (by omega);have e7:=(B47 (b:=c.2.1) (a:=0) (by omega)).1;rw [List.drop_zero,show ((0:Nat):Int)=0 from rfl] at e7;simp only [A2U,B7j,hg,ht1,ht2,U1] at hk;rw [D8m c (by simp only [maxLen];omega),e6] at hk;simp only [bO,e7] at hk;cases q1:decide (0<=c.1/\c.1<=24)
  case false=>rw [q1] at hk;exact B0J hk
  rw [q1] at hk;cases g
  case false=>exact B0J hk
  cases t1
  case false=>exact B0J hk
  cases t2
  case false=>exact B0J hk
  cases q2:decide (0<=c.2.2.2.2.2.2.1/\c.2.2.2.2.2.2.1<=2147483647)
  case false=>rw [q2] at hk;exact B0J hk
  rw [q2] at hk;cases q3:B8m c
  case false=>rw [q3] at hk;exact B0J hk
  rw [q3] at hk;cases q4:decide ((c.2.1.length:Int)>1100)
  case true=>rw [q4] at hk;exact B0J hk
  rw [q4] at hk;cases q5:decide (0<=c.2.2.2.2.2.2.2/\c.2.2.2.2.2.2.2<=20)
  case false=>rw [q5] at hk;exact B0J hk
  rw [q5] at hk;simp only [Bool.not_true,cond_false,bSl] at hk;cases q6:decide ((codeF c.2.1:Int)=1)
  case false=>rw [q6] at hk;exact B0J hk
  rw [q6] at hk;simp only [Bool.not_true,cond_false] at hk;simp only [decide_eq_true_eq] at q1 q2 q5 q6;have hin0:c.1<24->c.2.1.length=0:=fun h24=>by
    rw [A0 h24] at hk;cases q7:decide ((c.2.1.length:Int)>0)
    case true=>rw [q7] at hk;exact B0J hk
    simp only [decide_eq_false_iff_not] at q7;omega
  have hm:∀ {R:Type} (K:Unit->Option R) (x:R),D7 (bif (decide (c.1<24)) then bif (decide ((c.2.1.length:Int)>0)) then some (.inr x) else some (.inl ()) else some (.inl ())) K=K ():=fun K x=>by
    by_cases h24:c.1<24
    · rw [A0 h24,A1 (show ¬ (c.2.1.length:Int)>0 by have:=hin0 h24;omega)];rfl
    · rw [A1 h24];rfl
  rw [hm] at hk;have hdead:c.2.2.2.2.2.2.2≠0->c.2.1.length=0/\c.2.2.2.2.2.1.length=0/\c.2.2.1.1=0:=fun hne=>by
    rw [A1 hne] at hk;cases q8:decide ((c.2.1.length:Int)=0)
    case false=>rw [q8] at hk;exact B0J hk
    rw [q8] at hk;cases q9:decide ((c.2.2.2.2.2.1.length:Int)=0)
    case false=>rw [q9] at hk;exact B0J hk
    rw [q9] at hk;cases q10:decide (c.2.2.1.1=0)
    case false=>rw [q10] at hk;exact B0J hk
    simp only [decide_eq_true_eq] at q8 q9 q10;exact ⟨by omega,by omega,q10⟩
  have hgI:GaI c.2.2.1:=by
    simp only [S5,A7c,U1,bO] at hg;by_cases g0:c.2.2.1.1=0
    · rw [A0 g0] at hg
      cases g1:c.2.2.1.2.1
      case true=>rw [g1] at hg;exact B0J hg
      rw [g1] at hg;cases g2:decide ((c.2.2.1.2.2.length:Int)=0)
      case false=>rw [g2] at hg;exact B0J hg
      simp only [decide_eq_true_eq] at g2;exact .inl ⟨g0,g1,List.length_eq_zero_iff.1 (by omega)⟩
    · rw [A1 g0] at hg
      cases g1:decide (1<=c.2.2.1.1/\c.2.2.1.1<=2147483647)
      case false=>rw [g1] at hg;exact B0J hg
      rw [g1] at hg;cases g2:decide ((c.2.2.1.2.2.length:Int)<=3000)
      case false=>rw [g2] at hg;exact B0J hg
      simp only [decide_eq_true_eq] at g1 g2;exact .inr ⟨g1.1,g1.2,by omega⟩
  refine ⟨c.2.2.2.2.1,⟨c.1.toNat,c.2.1,c.2.2.2.2.2.2.2,⟨c.2.2.1,c.2.2.2.1,c.2.2.2.2.2.1,c.2.2.2.2.2.2.1,[],[]⟩⟩,?_,F4o z2 ht2,?_,rfl,rfl⟩
  · show c=((c.1.toNat:Int),c.2.1,c.2.2.1,c.2.2.2.1,c.2.2.2.2.1,c.2.2.2.2.2.1,c.2.2.2.2.2.2.1,c.2.2.2.2.2.2.2)
    rw [show (c.1.toNat:Int)=c.1 by omega]
  · refine ⟨by simp only;omega,⟨F5L q3,q2,F4o z1 ht1,hgI,hgb⟩,hb,by simp only;omega,fun hq=>?_,fun hne=>?_,q5⟩
    · rcases hq with hq | hq
      · exact List.length_eq_zero_iff.1 (hin0 (by simp only at hq;omega))
      · exact List.length_eq_zero_iff.1 (hdead hq).1
    · obtain ⟨a,b,d⟩:=hdead hne
      exact ⟨List.length_eq_zero_iff.1 b,d⟩
set_option maxRecDepth 100000
theorem E13(a:List A4)(h:a.length<=2000000):A77 a a=some (true,()):=by
  simp only [A77,B79,decide_true,Bool.not_true,cond_false];refine E0O _ a.length (by simp only [maxLen];omega) (fun i hi=>?_) (by simp [B2S]);have h1:((i:Int)<(a.length:Int)):=by omega
  have h2:(0:Int)<=(i:Int):=by omega
  simp only [B2S,A0 h1,A0 h2,cond_true];rw [T8 (k:=A5) (xs:=a) hi,show B00 a[i] a[i]=some (true,()) by simp [B00,B9k,A3]];rfl
theorem D02(a:B2)(h:a.2.length<=2000000):B01 a a=some (true,()):=by
  simp [B01,B9l,A3,E13 a.2 h]
theorem D9E(a:B4w):A8W a a=some (true,()):=by simp [A8W,C8N,A3]
theorem E7J(a:List F7)(h:a.length<=2000000)(hb:∀ x∈a,x.2.2.2.length<=2000000):B2T a a=some (true,()):=by
  simp only [B2T,C4A,decide_true,Bool.not_true,cond_false];refine E0O _ a.length (by simp only [maxLen];omega) (fun i hi=>?_) (by simp [B7B]);have h1:((i:Int)<(a.length:Int)):=by omega
  have h2:(0:Int)<=(i:Int):=by omega
  have h3:=hb _ (List.getElem_mem hi);simp only [B7B,A0 h1,A0 h2,cond_true];rw [T8 (k:=B7) (xs:=a) hi,show B5p a[i] a[i]=some (true,()) by simp [B5p,C8O,A3,D9E,A4e a[i].2.2.2 (by simp only [maxLen];omega)]];rfl
theorem E4A(a:List H0)(h:a.length<=2000000)(hb:∀ x∈a,x.2.2.1.length<=2000000):B0E a a=some (true,()):=by
  simp only [B0E,C0A,decide_true,Bool.not_true,cond_false];refine E0O _ a.length (by simp only [maxLen];omega) (fun i hi=>?_) (by simp [B5J]);have h1:((i:Int)<(a.length:Int)):=by omega
  have h2:(0:Int)<=(i:Int):=by omega
  have h3:=hb _ (List.getElem_mem hi);simp only [B5J,A0 h1,A0 h2,cond_true];rw [T8 (k:=G2) (xs:=a) hi,show B2v a[i] a[i]=some (true,()) by simp [B2v,C4W,A3,D9E,A4e a[i].2.2.1 (by simp only [maxLen];omega)]];rfl
theorem D46(c:E9)(h:C2S c):B2U c c=some (true,()):=by
  obtain ⟨h1,h2,h3,h4,h5,h6⟩:=h;simp [B2U,C4B,A3,B1G,B7A,A4e c.2.1 (by simp only [maxLen];omega),A4e c.2.2.1.2.2 (by simp only [maxLen];omega),D02 _ h3,D02 _ h4,E7J _ h5 h6]
theorem F5M(a:List H0)(h:a.length<=1048576):MH (A9Q a) A9S (cost (fun u=>List.length u.2.2.1+5) a):=by
  refine F0A (A5v H3 F2) (A5w H4 F2) (fun u=>List.length u.2.2.1+5) a h (fun i hi m h0 h1=>?_) (fun m b hb=>by simp [A5v,hb]) (fun m b hb=>by simp [A5w,hb]);obtain ⟨m1,d,e1,b1,b2,e2⟩:=B5s a[i].2.2.1 (m+1+1+1+1) (by omega) (by omega);have w1:i64.wrap (m+1)=m+1:=w64 (by omega) (by omega);have w2:i64.wrap (m+1+1)=m+1+1:=w64 (by omega) (by omega);have w3:i64.wrap (m+1+1+1)=m+1+1+1:=w64 (by omega) (by omega);have w4:i64.wrap (m+1+1+1+1)=m+1+1+1+1:=w64 (by omega) (by omega);have w5:i64.wrap (m1+1)=m1+1:=w64 (by omega) (by omega);have wi:i64.wrap ((i:Int)+1)=(i:Int)+1:=w64 (by omega) (by omega);have g1:(0:Int)<=(i:Int):=by omega
  have ht:=A6e (m+1+1) (by omega);refine ⟨m1+1,(m,(m+1,mt (m+1+1),m+1+1+1),d,m1),by omega,by omega,fun b hb e=>?_,fun b hb e=>?_⟩
  · have hib:i<b.length:=by omega
    have g2:(i:Int)<(b.length:Int):=by omega
    have hr:rd G2 b (i:Int)=a[i]:=by rw [T8 (k:=G2) (xs:=b) (by omega)];exact e
    simp only [A5v,A3,List.length_set,A0 g1,A0 g2,cond_true,Int.toNat_natCast,w1,w2,w3,w4,wi,List.set_set,F4b (k:=G2) hib,hr,ht,e1,w5]
  · have g2:(i:Int)<(b.length:Int):=by omega
    have hr:rd G2 b (i:Int)=(m,(m+1,mt (m+1+1),m+1+1+1),d,m1):=by rw [T8 (k:=G2) (xs:=b) (by omega)];exact e
    simp only [A5w,A3,A0 g1,A0 g2,cond_true,w1,w2,w3,w4,w5,wi,hr,ht,e2];rw [A1 (show ¬ m1<0 by omega)];simp
theorem D47:∀ a:List H0,(∀ x∈a,x.2.2.1.length<=2000)->cost (fun u:H0=>List.length u.2.2.1+5) a<=2005*a.length
  | [],_=>by simp [cost]
  | x::a,h=>by
    have h1:=D47 a fun y hy=>h y (List.mem_cons_of_mem _ hy)
    have h2:=h x List.mem_cons_self;simp only [cost,List.map_cons,List.sum_cons,List.length_cons] at h1 ⊢;omega
theorem F2C(c:E9)(hs:Sm 1048576 B5i c)(hS:C2S c)(hl5:c.2.2.2.2.2.1.length<=1048576)(hb:Byt c.2.1)(hgb:Byt c.2.2.1.2.2)(z1:szT c.2.2.2.1.2<=10000000000000)(z2:szT c.2.2.2.2.1.2<=10000000000000)(b:List Int)(hbb:Byt b)(hl:b.length<=1048576) :
    ∃ C K o,L4 c b=some (C,K,o,())/\A0c c b=some (C,K,o,())/\C2S C/\C.2.2.2.2.2.1.length<=1048576/\K.length<=1048576/\(∀ x∈K,x.2.2.1.length<=2000)/\o.length<=1300000000:=by
  obtain ⟨r,k1,k2⟩:=F1T c hs hb;cases r with
  | false=>exact ⟨c,[],[],E7H c hS k1 b,E7I c hS k2 b,hS,hl5,by simp,(fun x hx=>by cases hx),by simp⟩
  | true=>
    obtain ⟨enc,st,rfl,he,h,hc,ho⟩:=F2B c hs hb hgb z1 z2 k1;obtain ⟨m1,m2,m3⟩:=C1j h hbb;have hci:=D96 h hbb (by rw [hc];exact fun x hx=>by cases hx);rw [hc] at m2;rw [ho] at m3;simp only [List.length_nil,Nat.zero_add] at m2 m3;have hsl:=m1.hi.strs.1;exact ⟨_,_,_,D45 he h hc ho k1 hbb (by omega),D3w enc he h hc ho hbb (by omega),F7O he m1,by simp only;omega,by omega,hci,by omega⟩
theorem exactHearBytes(c:E9)(b:List Int)(hw:Sm maxLen B5i c)(hb:Byt c.2.1)(hgb:Byt c.2.2.1.2.2)(hbb:Byt b):A4A c b=some (true,()):=by
  simp only [A4A,A49];by_cases hlb:(b.length:Int)>1048576
  · rw [A0 hlb];rfl
  rw [A1 hlb];simp only [cond_false];obtain ⟨l,e,h1,h2⟩:=F1N c hw 1048576 (by omega) (by omega);rw [e];simp only [bO];by_cases hl:l<0
  · rw [A0 hl];rfl
  rw [A1 hl];have hs:Sm 1048576 B5i c:=h2 (by omega);have hs':=hs;obtain ⟨m0,m1,m2,m3,m4,m5,m6⟩:=hs';have l1:List.length c.2.1<=1048576:=m1.1;have l2:List.length c.2.2.1.2.2<=1048576:=m2.2.2.1;have l3:List.length c.2.2.2.1.2<=1048576:=m3.2.1;have l4:List.length c.2.2.2.2.1.2<=1048576:=m4.2.1;have l5:List.length c.2.2.2.2.2.1<=1048576:=m5.1;have l6:∀ x∈c.2.2.2.2.2.1,x.2.2.2.length<=2000000:=fun x hx=>by
    have:List.length x.2.2.2<=1048576:=(m5.2 x hx).2.2.2.1;omega
  have hS:C2S c:=⟨by omega,by omega,by omega,by omega,by omega,l6⟩;have z1:szT c.2.2.2.1.2<=10000000000000:=by
    have:=E6v 1048576 c.2.2.2.1.2 m3.2.2;omega
  have z2:szT c.2.2.2.2.1.2<=10000000000000:=by
    have:=E6v 1048576 c.2.2.2.2.1.2 m4.2.2;omega
  obtain ⟨C,K,o,g1,g2,g3,g4,g5,g6,g7⟩:=F2C c hs hS l5 hb hgb z1 z2 b hbb (by omega);obtain ⟨n1,y1,y2,y3,y4,y5,k1,k2,k3,k4⟩:=F0I c hS l5;obtain ⟨n2,yb,r1,r2,r3,r4⟩:=B5s b n1 (by omega) (by omega);obtain ⟨n3,w1,w2,w3,w4,w5,p1,p2,p3,p4⟩:=F0I C g3 g4;have hck:=D47 K g6;obtain ⟨n4,v,t1,t2,t3,t4⟩:=F5M K g5 n3 (by omega) (by omega);obtain ⟨n5,u,u1,u2,u3,u4⟩:=B5s o n4 (by omega) (by omega);have q1:=D46 c hS;have q2:=D46 C g3;have q3:=A4e o (by simp only [maxLen];omega);have q4:=A4e b (by simp only [maxLen];omega);have q5:=E4A K (by omega) (fun x hx=>by have:=g6 x hx;omega);have q6:=D3L b (by omega);simp only [cond_false,F1P c hs,q6,bO,g1,g2,q1,q2,q3,q4,q5,Bool.not_true,bSl,k1,r1];rw [A1 (show ¬ n2<0 by omega)];simp only [cond_false,bSl,p1,t1,u1,bO,p4];rw [A1 (show ¬ n3<0 by omega)];simp only [cond_false,t4,bO];rw [A1 (show ¬ n4<0 by omega)];simp only [cond_false,u4,bO];rw [A1 (show ¬ n5<0 by omega)];simp
end Go.Proofs.YthnfghmjipikhaaGreatDoor.Ev
