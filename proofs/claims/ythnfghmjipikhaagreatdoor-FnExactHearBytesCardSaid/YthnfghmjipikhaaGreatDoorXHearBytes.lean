/- What the plain functions of the program and of the reference answer: laws of plain data. -/
import Derived.Test.YthnfghmjipikhaaGreatDoorXHearBytesa
set_option linter.unusedVariables false
set_option linter.unusedSimpArgs false
set_option linter.unusedSectionVars false
namespace Go.Proofs.YthnfghmjipikhaaGreatDoor.Ev
open IntKind (i64 u8 u64 u32)
set_option maxRecDepth 100000
set_option maxRecDepth 100000
set_option maxRecDepth 100000
set_option maxRecDepth 100000
set_option maxRecDepth 100000
set_option maxRecDepth 100000
set_option maxRecDepth 100000
set_option maxRecDepth 100000
set_option maxRecDepth 100000
set_option maxRecDepth 100000
set_option maxRecDepth 100000
set_option maxRecDepth 100000
set_option maxRecDepth 100000
set_option maxRecDepth 100000
set_option maxRecDepth 100000
set_option maxRecDepth 100000
set_option maxRecDepth 100000
set_option maxRecDepth 100000
set_option maxRecDepth 100000
section
variable {b:List Int} (hb:Byt b) (hl:b.length<=500000000)
include hb hl
end
set_option maxRecDepth 100000
set_option maxRecDepth 100000
set_option maxRecDepth 100000
theorem D5a(st ev:Int):A08 st ev=some ((stV st ev).1,(stV st ev).2,()):=by
  have:∃ a b,A08 st ev=some (a,b,()):=by
    obtain ⟨a1,b1,e1⟩:=E5M ev;obtain ⟨a2,b2,e2⟩:=E5N ev;obtain ⟨a3,b3,e3⟩:=E1R ev;obtain ⟨a4,b4,e4⟩:=E5O ev;simp only [A08,A9P,R5,bO,e1,e2,e3,e4];cases decide (1<=ev/\ev<=10)<;>cases decide (st=0)<;>cases decide (st=1)<;>cases decide (st=2)<;>cases decide (st=3)<;>cases decide (st=4)<;>cases decide (ev=5)<;>exact ⟨_,_,rfl⟩
  obtain ⟨a,b,e⟩:=this;unfold stV;rw [e]
set_option maxRecDepth 100000
structure HM where
  g:I1
  dec:D6
  strs:List L7
  last:Int
  calls:List N3
  out:List Int
abbrev mkC(pre:Int)(inn:List Int)(enc:D6)(dead:Int)(m:HM):J5:=(pre,inn,m.g,m.dec,enc,m.strs,m.last,dead)
abbrev mkH(pre:Int)(inn:List Int)(enc:D6)(dead:Int)(m:HM):E5:=(mkC pre inn enc dead m,m.calls,m.out)
def D6w(last:Int)(s:L7):Prop:=s.1.tmod 2=1/\1<=s.1/\s.1<=last/\(s.2.1=1\/s.2.1=2)/\s.2.2.2.length<=2000
def B8V(strs:List L7)(last:Int):Prop:=strs.length<=100/\(strs.map (·.1)).Pairwise (· < ·)/\∀ s∈strs,D6w last s
def sAt(strs:List L7)(i:Nat):L7:=rd E6 strs (i:Int)
theorem A3r{strs:List L7}{i:Nat}(h:i<strs.length):sAt strs i=strs[i]:=A15 (k:=E6) h
theorem D5b{strs:List L7}{last:Int}(h:B8V strs last){i:Nat}(hi:i<strs.length){s:L7}(h1:s.1=(sAt strs i).1)(h2:s.2.1=1\/s.2.1=2)(h3:s.2.2.2.length<=2000):B8V (strs.set i s) last:=by
  obtain ⟨a,b,c⟩:=h;rw [A3r hi] at h1;refine ⟨by simpa using a,?_,fun x hx=>?_⟩
  · rw [List.map_set,h1]
    have:(strs.map (·.1)).set i strs[i].1=strs.map (·.1):=by
      apply A75 (by simp);intro j hj1 hj2;rw [List.getElem_set];split
      · rename_i e;subst e;simp
      · rfl
    rw [this];exact b
  · rcases List.mem_or_eq_of_mem_set hx with q | q
    · exact c x q
    · subst q
      have:=c _ (F3 hi);unfold D6w at this ⊢;rw [h1];exact ⟨this.1,this.2.1,this.2.2.1,h2,h3⟩
theorem E1S{strs:List L7}{last:Int}(h:B8V strs last)(hl:strs.length<100){s:L7}(h0:last<s.1)(h1:s.1.tmod 2=1)(h2:s.2.1=1\/s.2.1=2)(h3:s.2.2.2.length<=2000)(hp:1<=s.1):B8V (strs ++ [s]) s.1:=by
  obtain ⟨a,b,c⟩:=h;refine ⟨by simp;omega,?_,fun x hx=>?_⟩
  · rw [A4p,List.pairwise_append]
    refine ⟨b,by simp,fun x hx y hy=>?_⟩;obtain ⟨t,ht,rfl⟩:=E0.1 hx;have:=c t ht;simp only [H2,B4N,B2] at hy;unfold D6w at this;omega
  · rcases D9.1 hx with q | q
    · have:=c x q
      unfold D6w at this ⊢;omega
    · rcases B2.1 q with rfl
      exact ⟨h1,hp,by omega,h2,h3⟩
theorem E5P{strs:List L7}{last:Int}(h:B8V strs last)(i:Nat):B8V (strs.take i++strs.drop (i+1)) last:=by
  obtain ⟨a,b,c⟩:=h;have hs:(strs.take i++strs.drop (i+1)).Sublist strs:=by
    rw [<- List.eraseIdx_eq_take_drop_succ];exact List.eraseIdx_sublist strs i
  exact ⟨A4b hs.length_le a,b.sublist (hs.map _),fun x hx=>c x (hs.subset hx)⟩
theorem E1T{strs:List L7}{last last':Int}(h:B8V strs last)(hl:last<=last'):B8V strs last':=by
  obtain ⟨a,b,c⟩:=h;refine ⟨a,b,fun x hx=>?_⟩;have:=c x hx;unfold D6w at this ⊢;omega
theorem E5Q(last:Int):B8V [] last:=⟨by simp,by simp,fun x hx=>by cases hx⟩
def atM(strs:List L7)(id:Int):Nat:=A3f (fun j=>decide ((sAt strs j).1<id)) 0 strs.length
def C1v(strs:List L7)(id:Int):Bool:=decide (atM strs id<strs.length)&&decide ((sAt strs (atM strs id)).1=id)
theorem C4L(pre:Int)(inn:List Int)(enc:D6)(dead:Int)(m:HM)(id:Int)(h:m.strs.length<=2000000) :
    A3H (mkC pre inn enc dead m) id=some ((atM m.strs id:Int),C1v m.strs id,mkC pre inn enc dead m,()):=by
  obtain ⟨i,h1,h2,h3,h4⟩:=str_eq (mkC pre inn enc dead m) id h;have e:atM m.strs id=i:=D09 _ _ i h1 (fun j hj=>A0 (h2 j hj)) (fun hi=>A1 (h3 hi));rw [h4,C1v,e];rfl
theorem B1t{strs:List L7}{id:Int}(h:C1v strs id=true):atM strs id<strs.length/\(sAt strs (atM strs id)).1=id:=by
  unfold C1v at h;simpa using h
def A5F(m:HM)(s:L7):HM:=if s.2.1=2 then {m with calls:=m.calls ++ [(s.1,s.2.2.1,s.2.2.2,0)]} else m
def A1t(m:HM)(i:Nat)(s:L7):HM:={m with strs:=m.strs.set i s}
noncomputable def A9r(m:HM)(i:Nat)(ev:Int):Int×HM:=
  if (stV (sAt m.strs i).2.1 ev).2=1 then (1,m) else if (stV (sAt m.strs i).2.1 ev).2=2 then (5,m)
  else (0,A5F (A1t m i ((sAt m.strs i).1,(stV (sAt m.strs i).2.1 ev).1,(sAt m.strs i).2.2)) ((sAt m.strs i).1,(stV (sAt m.strs i).2.1 ev).1,(sAt m.strs i).2.2))
structure HI (m:HM):Prop where
  strs:B8V m.strs m.last
  last:0<=m.last/\m.last<=2147483647
  dec:A1S m.dec
  g:(m.g.1=0/\m.g.2.1=false/\m.g.2.2 = [])\/(1<=m.g.1/\m.g.1<=2147483647/\m.g.2.2.length<=3000)
  gb:Byt m.g.2.2
def HL(m:HM):Prop:=m.calls.length<=1000000000/\m.out.length<=10000000000000
section
variable (pre:Int) (inn:List Int) (enc:D6) (dead:Int)
theorem E1U(m:HM)(s:L7)(hc:m.calls.length<=2000000000)(hs:s.2.2.2.length<=1000000):A6L (mkH pre inn enc dead m) s=some (mkH pre inn enc dead (A5F m s),()):=by
  simp only [A6L,B0k,B11 s.2.2.2 (by omega),bO];unfold A5F;by_cases h:s.2.1=2
  · rw [A0 h,A6 h]
    simp only [mkH,A8];rw [D42 (by simp;omega)]
  · rw [A1 h,A4 h];rfl
theorem D70(m:HM)(i:Nat)(s:L7)(hi:i<m.strs.length)(hsi:sAt m.strs i=s)(hc:m.calls.length<=2000000000)(hs:s.2.2.2.length<=1000000) :
    A0c (mkH pre inn enc dead m) (s.1,s.2.1,s.2.2.1) (i:Int)=some (mkH pre inn enc dead (A5F m s),()):=by
  have d1:decide ((0:Int)<=(i:Int))=true:=A0 (by omega);have d2:decide ((i:Int)<(m.strs.length:Int))=true:=A0 (by omega);have e1:(rd E6 m.strs (i:Int))=s:=hsi;simp only [A0c,A4P,mkH,mkC,d1,d2,A8,e1];rw [B11 s.2.2.2 (by omega)];simp only [bO];unfold A5F;by_cases h:s.2.1=2
  · rw [A0 h,A6 h]
    simp only [A8];rw [D42 (by simp;omega)]
  · rw [A1 h,A4 h];rfl
theorem C7q(m:HM)(i:Nat)(ev:Int)(hi:i<m.strs.length)(hc:m.calls.length<=2000000000)(hs:(sAt m.strs i).2.2.2.length<=1000000) :
    A2i (mkH pre inn enc dead m) (i:Int) ev=some ((A9r m i ev).1,mkH pre inn enc dead (A9r m i ev).2,()):=by
  have d1:decide ((0:Int)<=(i:Int))=true:=A0 (by omega);have d2:decide ((i:Int)<(m.strs.length:Int))=true:=A0 (by omega);have e1:(rd E6 m.strs (i:Int))=sAt m.strs i:=rfl;simp only [A2i,A8C,mkH,mkC,d1,d2,A8,e1,D5a,bO];unfold A9r;by_cases h1:(stV (sAt m.strs i).2.1 ev).2=1
  · rw [A0 h1,A6 h1];rfl
  rw [A1 h1,A4 h1];by_cases h2:(stV (sAt m.strs i).2.1 ev).2=2
  · rw [A0 h2,A6 h2];rfl
  rw [A1 h2,A4 h2];simp only [A3,D5];have hset:sAt (m.strs.set i ((sAt m.strs i).1,(stV (sAt m.strs i).2.1 ev).1,(sAt m.strs i).2.2)) i=((sAt m.strs i).1,(stV (sAt m.strs i).2.1 ev).1,(sAt m.strs i).2.2):=by
    rw [A3r (by simpa using hi)];simp
  have e2:rd E6 (m.strs.set i ((sAt m.strs i).1,(stV (sAt m.strs i).2.1 ev).1,(sAt m.strs i).2.2)) (i:Int)=((sAt m.strs i).1,(stV (sAt m.strs i).2.1 ev).1,(sAt m.strs i).2.2):=hset;rw [e2];have key:=D70 pre inn enc dead (A1t m i ((sAt m.strs i).1,(stV (sAt m.strs i).2.1 ev).1,(sAt m.strs i).2.2)) i ((sAt m.strs i).1,(stV (sAt m.strs i).2.1 ev).1,(sAt m.strs i).2.2) (by simpa [A1t] using hi) hset hc hs;simp only [mkH,mkC,A1t] at key;rw [key];rfl
end
theorem D0G(m:HM)(s:L7):(A5F m s).strs=m.strs/\(A5F m s).last=m.last/\(A5F m s).dec=m.dec/\(A5F m s).g=m.g/\(A5F m s).out=m.out/\(A5F m s).calls.length<=m.calls.length+1:=by
  unfold A5F;split<;>simp
theorem D71:stV 1 1=(1,1)/\stV 1 2=(2,0)/\stV 1 3=(1,0)/\stV 1 4=(2,0)/\stV 2 1=(2,2)/\stV 2 2=(2,2)/\stV 2 3=(2,2)/\stV 2 4=(2,2)/\stV 0 1=(1,0)/\stV 0 2=(2,0):=⟨rfl,rfl,rfl,rfl,rfl,rfl,rfl,rfl,rfl,rfl⟩
theorem E8R{m:HM}(h:HI m){i:Nat}{ev:Int}(hi:i<m.strs.length)(hev:1<=ev/\ev<=4):((A9r m i ev).1=0->HI (A9r m i ev).2)/\0<=(A9r m i ev).1/\(A9r m i ev).1<=20/\
    (A9r m i ev).2.last=m.last/\(A9r m i ev).2.out=m.out/\(A9r m i ev).2.dec=m.dec/\(A9r m i ev).2.calls.length<=m.calls.length+1:=by
  unfold A9r;by_cases h1:(stV (sAt m.strs i).2.1 ev).2=1
  · rw [A6 h1];exact ⟨(fun h=>by cases h),(by simp only [];omega),(by simp only [];omega),rfl,rfl,rfl,Nat.le_succ _⟩
  rw [A4 h1];by_cases h2:(stV (sAt m.strs i).2.1 ev).2=2
  · rw [A6 h2];exact ⟨(fun h=>by cases h),(by simp only [];omega),(by simp only [];omega),rfl,rfl,rfl,Nat.le_succ _⟩
  rw [A4 h2];obtain ⟨q1,q2,q3,q4,q5,q6⟩:=D0G (A1t m i ((sAt m.strs i).1,(stV (sAt m.strs i).2.1 ev).1,(sAt m.strs i).2.2)) ((sAt m.strs i).1,(stV (sAt m.strs i).2.1 ev).1,(sAt m.strs i).2.2);have hs:=h.strs.2.2 _ (F3 hi);rw [<- A3r hi] at hs;refine ⟨fun _=>⟨?_,?_,?_,?_,?_⟩,(by simp only [];omega),(by simp only [];omega),q2,q5,q3,q6⟩
  · rw [q1,q2]
    refine D5b h.strs hi rfl ?_ hs.2.2.2.2;have ht:=D71;have he:ev=1\/ev=2\/ev=3\/ev=4:=by omega
    rcases hs.2.2.2.1 with e | e<;>rw [e] at h1 h2 ⊢<;>rcases he with rfl | rfl | rfl | rfl<;>simp_all
  · rw [q2];exact h.last
  · rw [q3];exact h.dec
  · rw [q4];exact h.g
  · rw [q4];exact h.gb
set_option maxRecDepth 100000
structure FrI (f:F6):Prop where
  k:0<=f.1/\f.1<=255
  fl:0<=f.2.1/\f.2.1<=255
  st:0<=f.2.2.1/\f.2.2.1<=2147483647
  n:f.2.2.2.length<=1000
  b:Byt f.2.2.2
def A2k(f:F6)(k:Int):Bool:=!decide (W9 .i64 f.2.1 k=0)
theorem A7U(f:F6)(k:Int):A2O f k=some (A2k f k,()):=rfl
noncomputable def fcV(f:F6):Int:=match T1 f with
  | some x=>x.1
  | none=>0
theorem A47(f:F6):T1 f=some (fcV f,()):=by
  have:∃ c,T1 f=some (c,()):=by
    have h1:∃ b,A12 f=some (b,()):=by
      simp only [A12,A5n,R5,bO];cases decide (0<=f.1/\f.1<=255)<;>cases decide (0<=f.2.1/\f.2.1<=255)<;>cases decide (0<=f.2.2.1/\f.2.2.1<=2147483647)<;>exact ⟨_,rfl⟩
    have h2:∃ b,A1n f=some (b,()):=by
      simp only [A1n,A8B,A7U,bO];cases decide (f.1=2)<;>cases decide (f.1=3)<;>cases decide (f.1=8)<;>cases decide (f.1=6)<;>cases decide (f.1=4)<;>cases decide (f.1=7)<;>cases decide ((f.2.2.2.length:Int).tmod 6=0)<;>cases decide ((f.2.2.2.length:Int)=0)<;>exact ⟨_,rfl⟩
    obtain ⟨b1,e1⟩:=h1;obtain ⟨b2,e2⟩:=h2;simp only [T1,A3a,e1,e2,bO];cases b1
    case false=>exact ⟨_,rfl⟩
    cases b2
    case false=>exact ⟨_,rfl⟩
    simp only [C3,A3,bSl];cases decide (f.2.2.1=0)<;>cases decide (f.1=0)<;>cases decide (f.1=1)<;>cases decide (f.1=2)<;>cases decide (f.1=3)<;>cases decide (f.1=5)<;>cases decide (f.1=9)<;>cases decide (f.1=4)<;>cases decide (f.1=6)<;>cases decide (f.1=7)<;>exact ⟨_,rfl⟩
  obtain ⟨c,e⟩:=this;unfold fcV;rw [e]
def C0W(f:F6):Int:=if f.1=1 then (bif A2k f 32 then 5 else 0) else 0
def C7r(b:List Int)(ahead more:Int):List Int×Bool:=if ahead+more>(b.length:Int) then ([],false) else ((b.take ((b.length:Int)-more).toNat).drop ahead.toNat,true)
def A8K(f:F6):List Int×Bool:=bif A2k f 8 then (if f.2.2.2.length=0 then ([],false) else C7r (f.2.2.2.drop 1) (C0W f) (byN f.2.2.2 0:Int)) else C7r f.2.2.2 (C0W f) 0
theorem D9C(b:List Int)(a m:Int):(C7r b a m).1.length<=b.length:=by
  unfold C7r;split
  · simp
  · simp only [C9,B4];omega
theorem D9D(f:F6):(A8K f).1.length<=f.2.2.2.length:=by
  unfold A8K;cases A2k f 8
  · exact D9C _ _ _
  · simp only [A8]
    split
    · simp
    · have:=D9C (f.2.2.2.drop 1) (C0W f) (byN f.2.2.2 0:Int)
      simp only [C9] at this;omega
theorem E8S{f:F6}(h:Byt f.2.2.2):Byt (A8K f).1:=by
  have hB:∀ b a m,Byt b->Byt (C7r b a m).1:=fun b a m hb=>by
    unfold C7r;split
    · exact fun x hx=>by cases hx
    · exact C2w (D2L hb _) _
  unfold A8K;cases A2k f 8
  · exact hB _ _ _ h
  · simp only [A8]
    split
    · exact fun x hx=>by cases hx
    · exact hB _ _ _ (C2w h _)
theorem E8T(b:List Int)(a m:Int)(ha:0<=a/\a<=5)(hm:0<=m/\m<256)(hl:b.length<=1000000) :
    (bif (decide ((i64.wrap (a+m))>(b.length:Int))) then some ([],false,()) else bif decide (0<=a) then bif decide (a<=(i64.wrap ((b.length:Int)-m))) then bif decide ((i64.wrap ((b.length:Int)-m))<=(b.length:Int)) then A5 (H1 ((b.take ((i64.wrap ((b.length:Int)-m)).toNat)).drop a.toNat)) fun c40=>some (c40.1,true,()) else none else none else none)=some ((C7r b a m).1,(C7r b a m).2,()):=by
  rw [w64 (n:=a+m) (by omega) (by omega),w64 (n:=(b.length:Int)-m) (by omega) (by omega)];unfold C7r;by_cases h:a+m>(b.length:Int)
  · rw [A0 h,A6 h];rfl
  · rw [A1 h,A4 h,A0 (show 0<=a by omega),A0 (show a<=(b.length:Int)-m by omega),A0 (show (b.length:Int)-m<=(b.length:Int) by omega),B11 _ (by simp;omega)]
    rfl
theorem E8U(f:F6):0<=C0W f/\C0W f<=5:=by
  unfold C0W;split
  · cases A2k f 32<;>simp
  · simp
theorem D2m{f:F6}(hf:FrI f):B8O f=some ((A8K f).1,(A8K f).2,()):=by
  have ha:(bif (decide (f.1=1)) then bif A2k f 32 then some ((5:Int),()) else some (0,()) else some (0,()))=some (C0W f,()):=by
    unfold C0W;by_cases h:f.1=1
    · rw [A0 h,A6 h];cases A2k f 32<;>rfl
    · rw [A1 h,A4 h];rfl
  have hr:=E8U f;have hn:=hf.n;simp only [B8O,C8s,A7U,bO,ha];unfold A8K;cases A2k f 8
  · simp only [A3,bSl,bO]
    exact E8T f.2.2.2 (C0W f) 0 hr (by omega) (by omega)
  · simp only [A8]
    by_cases h0:f.2.2.2.length=0
    · rw [A0 (show (f.2.2.2.length:Int)=0 by omega),A6 h0];rfl
    · have h1:=B2t hf.b (show 0<f.2.2.2.length by omega)
      rw [show ((0:Nat):Int)=0 from rfl] at h1;rw [A1 (show ¬ (f.2.2.2.length:Int)=0 by omega),A4 h0,A0 (show (0:Int)<(f.2.2.2.length:Int) by omega),A0 (show (1:Int)<=(f.2.2.2.length:Int) by omega),h1.1,w64 (n:=(byN f.2.2.2 0:Int)) (by omega) (by omega),A2g];simp only [A3,A8,bSl,bO];exact E8T (f.2.2.2.drop 1) (C0W f) (byN f.2.2.2 0:Int) hr (by omega) (by simp;omega)
def A8L(g:I1)(f:F6):Bool:=if g.1=0 then !decide (f.1=9) else decide (f.1=9)&&decide (f.2.2.1=g.1)
def B5H(f:F6)(g:I1)(g2:I1):I1×List Int×Int:=
  if (g2.2.2.length:Int)>3000 then (g,[],4) else bif A2k f 4 then ((0,false,[]),g2.2.2,1) else (g2,[],0)
def D5c(g:I1)(f:F6):I1×List Int×Int:=
  if f.1=1 then (if (A8K f).2=false then (g,[],3) else B5H f g (f.2.2.1,A2k f 1,(A8K f).1)) else if f.1=9 then B5H f g (g.1,g.2.1,g.2.2++f.2.2.2) else (g,[],0)
noncomputable def P9(g:I1)(f:F6):I1×List Int×Int:=bif !decide (fcV f=0)||!A8L g f then (g,[],2) else D5c g f
theorem E1V(g:I1)(f:F6):B1O g f=some (A8L g f,()):=by
  simp only [B1O,B7M];unfold A8L;by_cases h:g.1=0
  · rw [A0 h,A6 h];rfl
  · rw [A1 h,A4 h]
    cases decide (f.1=9)<;>rfl
def GaI(g:I1):Prop:=(g.1=0/\g.2.1=false/\g.2.2 = [])\/(1<=g.1/\g.1<=2147483647/\g.2.2.length<=3000)
theorem C1n{g:I1}(h:GaI g):A6G g=some (true,()):=by
  simp only [A6G,B9g,R5,bO];rcases h with ⟨h1,h2,h3⟩ | ⟨h1,h2,h3⟩
  · rw [A0 h1,h2,h3];rfl
  · rw [A1 (show ¬ g.1=0 by omega),A0 (show 1<=g.1/\g.1<=2147483647 from ⟨h1,h2⟩),A0 (show (g.2.2.length:Int)<=3000 by omega)]
    rfl
theorem GaI.len{g:I1}(h:GaI g):g.2.2.length<=3000:=by
  rcases h with ⟨_,_,h3⟩ | ⟨_,_,h3⟩
  · rw [h3];simp
  · exact h3
theorem E5R{g:I1}(hg:GaI g){f:F6}(hf:FrI f):C7O g f=some ((P9 g f).1,(P9 g f).2.1,(P9 g f).2.2,()):=by
  have hl:=hg.len;have hn:=hf.n;have hcp:=C59 g (by omega);simp only [C7O,D22,C1n hg,A47,E1V,hcp,D2m hf,A7U,bO,C3,A3];unfold P9;cases decide (fcV f=0)
  case false=>rfl
  cases A8L g f
  case false=>rfl
  simp only [C3,A3,bO,bSl,Bool.or_self];unfold D5c;by_cases h1:f.1=1
  · rw [A0 h1,A6 h1]
    simp only [A8];cases hu:(A8K f).2 with
    | false=>rfl
    | true=>
      simp only [C3,A3,bSl,A8R,L5];unfold B5H;by_cases h3:((A8K f).1.length:Int)>3000
      · rw [A0 h3,A6 h3];rfl
      · rw [A1 h3,A4 h3]
        cases A2k f 4<;>rfl
  · rw [A1 h1,A4 h1]
    simp only [A3];by_cases h9:f.1=9
    · rw [A0 h9,A6 h9,gA (by omega)]
      simp only [A8,bSl];unfold B5H;by_cases h3:((g.2.2++f.2.2.2).length:Int)>3000
      · rw [A0 h3,A6 h3];rfl
      · rw [A1 h3,A4 h3]
        cases A2k f 4<;>rfl
    · rw [A1 h9,A4 h9];rfl
theorem D9E{f:F6}{g g2:I1}(h1:GaI g)(h2:1<=g2.1/\g2.1<=2147483647)(hb:Byt g.2.2)(hb2:Byt g2.2.2):GaI (B5H f g g2).1/\Byt (B5H f g g2).1.2.2/\Byt (B5H f g g2).2.1/\(B5H f g g2).2.1.length<=3000:=by
  have hn:Byt ([]:List Int):=fun x hx=>by cases hx
  unfold B5H;by_cases h3:(g2.2.2.length:Int)>3000
  · rw [A6 h3];exact ⟨h1,hb,hn,by simp⟩
  · rw [A4 h3]
    cases A2k f 4
    · exact ⟨.inr ⟨h2.1,h2.2,by simp only [A3];omega⟩,hb2,hn,by simp⟩
    · exact ⟨.inl ⟨rfl,rfl,rfl⟩,hn,hb2,by simp only [A8];omega⟩
theorem C7s{g:I1}(hg:GaI g)(hb:Byt g.2.2){f:F6}(hf:FrI f)(h0:f.2.2.1≠0\/f.1≠1):GaI (P9 g f).1/\Byt (P9 g f).1.2.2/\Byt (P9 g f).2.1/\(P9 g f).2.1.length<=3000:=by
  have hn:Byt ([]:List Int):=fun x hx=>by cases hx
  unfold P9;cases hd:(!decide (fcV f=0)||!A8L g f) with
  | true=>exact ⟨hg,hb,hn,by simp⟩
  | false=>
    simp only [A3];unfold D5c;by_cases h1:f.1=1
    · rw [A6 h1]
      by_cases hu:(A8K f).2=false
      · rw [A6 hu];exact ⟨hg,hb,hn,by simp⟩
      · rw [A4 hu]
        have hs:=hf.st;exact D9E hg (by simp only;omega) hb (E8S hf.b)
    · rw [A4 h1]
      by_cases h9:f.1=9
      · rw [A6 h9]
        have hi:A8L g f=true:=by
          simp only [A64,Bool.not_eq_false'] at hd;exact hd.2
        unfold A8L at hi;by_cases hg0:g.1=0
        · rw [A6 hg0,A0 h9] at hi;cases hi
        · rcases hg with ⟨q,_⟩ | ⟨q1,q2,q3⟩
          · exact absurd q hg0
          · exact D9E (.inr ⟨q1,q2,q3⟩) ⟨q1,q2⟩ hb (D6a hb hf.b)
      · rw [A4 h9];exact ⟨hg,hb,hn,by simp⟩
set_option maxRecDepth 100000
theorem D17{f:F6}(h:fcV f=0)(h1:f.1=1):f.2.2.1≠0:=by
  intro h0;have e:=A47 f;rw [h] at e;have h2:∃ b,A12 f=some (b,()):=by
    simp only [A12,A5n,R5,bO];cases decide (0<=f.1/\f.1<=255)<;>cases decide (0<=f.2.1/\f.2.1<=255)<;>cases decide (0<=f.2.2.1/\f.2.2.1<=2147483647)<;>exact ⟨_,rfl⟩
  have h3:∃ b,A1n f=some (b,()):=by
    simp only [A1n,A8B,A7U,bO];cases decide (f.1=2)<;>cases decide (f.1=3)<;>cases decide (f.1=8)<;>cases decide (f.1=6)<;>cases decide (f.1=4)<;>cases decide (f.1=7)<;>cases decide ((f.2.2.2.length:Int).tmod 6=0)<;>cases decide ((f.2.2.2.length:Int)=0)<;>exact ⟨_,rfl⟩
  obtain ⟨b1,e1⟩:=h2;obtain ⟨b2,e2⟩:=h3;simp only [T1,A3a,e1,e2,bO,A0 h0,A0 h1] at e;cases b1
  case false=>simp [bSr] at e
  cases b2
  case false=>simp [bSr] at e
  simp only [C3,A3,bSl] at e;cases hq:decide (f.1=0)<;>rw [hq] at e<;>simp [bO] at e
noncomputable def C98(m:HM)(id:Int)(fin:Bool)(l:List B1):Int×HM:=
  if id.tmod 2=0\/id<=m.last then (1,m) else if 100<=m.strs.length then (11,m)
  else if (A46 l).2≠0 then (0,{m with last:=id,calls:=m.calls ++ [(id,(0,⟨#[]⟩,0),[],(A46 l).2)]})
  else (0,A5F {m with last:=id,strs:=m.strs ++ [(id,(if fin then 2 else 1),(A46 l).1,[])]} (id,(if fin then 2 else 1),(A46 l).1,[]))
noncomputable def B7g(m:HM)(id:Int)(fin:Bool)(b:List Int):Int×HM:=
  if (O2 m.dec 4096 b).2.2.1≠0 then (9,m)
  else if C1v m.strs id=true then A9r {m with dec:=(O2 m.dec 4096 b).2.1} (atM m.strs id) (if fin then 2 else 1)
  else C98 {m with dec:=(O2 m.dec 4096 b).2.1} id fin (O2 m.dec 4096 b).1
noncomputable def C5A(m:HM)(f:F6):Int×HM:=
  if (P9 m.g f).2.2=2\/(P9 m.g f).2.2=3 then (1,{m with g:=(P9 m.g f).1}) else if (P9 m.g f).2.2=4 then (11,{m with g:=(P9 m.g f).1})
  else if (P9 m.g f).2.2=1 then B7g {m with g:=(P9 m.g f).1} (if m.g.1=0 then f.2.2.1 else m.g.1) (if m.g.1=0 then A2k f 1 else m.g.2.1) (P9 m.g f).2.1
  else (0,{m with g:=(P9 m.g f).1})
def D0S(m:HM)(f:F6)(body:List Int):HM:=bif A2k f 1 then m else {m with out:=m.out++B5E (f.1,1,0,body)}
def D2n(m:HM)(f:F6):Int×HM:=if f.2.2.1>m.last then (1,m) else (0,m)
noncomputable def C36(m:HM)(f:F6):Int×HM:=
  if C1v m.strs f.2.2.1=true then
    (if (A8K f).2=false then (1,m) else if ((sAt m.strs (atM m.strs f.2.2.1)).2.2.2.length:Int)+((A8K f).1.length:Int)>2000 then (11,m)
     else A9r (A1t m (atM m.strs f.2.2.1) ((sAt m.strs (atM m.strs f.2.2.1)).1,(sAt m.strs (atM m.strs f.2.2.1)).2.1,(sAt m.strs (atM m.strs f.2.2.1)).2.2.1,(sAt m.strs (atM m.strs f.2.2.1)).2.2.2++(A8K f).1)) (atM m.strs f.2.2.1) (bif A2k f 1 then 4 else 3))
  else D2n m f
def C0a(m:HM)(f:F6):Int×HM:=
  if C1v m.strs f.2.2.1=true then (0,{m with strs:=m.strs.take (atM m.strs f.2.2.1)++m.strs.drop (atM m.strs f.2.2.1+1)}) else D2n m f
def D9F(b:List Int):Bool:=(A1r b 0 4).2.1&&decide ((b.length:Int)=4)&&!decide (W9 .i64 (A1r b 0 4).1 2147483647=0)
noncomputable def frM(m:HM)(f:F6):Int×HM:=
  if fcV f=2 then (6,m) else if fcV f=3 then (1,m) else if m.g.1≠0\/f.1=1\/f.1=9 then C5A m f
  else if f.1=4 then (0,D0S m f []) else if f.1=6 then (0,D0S m f f.2.2.2) else if f.1=5 then (1,m) else if f.1=8 then (if D9F f.2.2.2=true then (0,m) else (1,m))
  else if f.1=0 then C36 m f else if f.1=3 then C0a m f else (0,m)
section
variable (pre:Int) (inn:List Int) (enc:D6) (dead:Int)
theorem E1W(m:HM)(h:HI m)(hl:m.calls.length<=1000000000)(id:Int)(fin:Bool)(b:List Int)(hb:Byt b)(hbl:b.length<=100000) :
    A6P (mkH pre inn enc dead m) id fin b=some ((B7g m id fin b).1,mkH pre inn enc dead (B7g m id fin b).2,()):=by
  have hg:=C69 h.dec (by omega:(4096:Int)<=4096) b;have hsl:=h.strs.1;have e0:=D2i h.dec hb (by omega) (most:=4096) (by omega);simp only [A6P,B0l,e0,bO];unfold B7g;by_cases h9:(O2 m.dec 4096 b).2.2.1=0
  case neg=>rw [A1 h9,A6 h9];rfl
  rw [A0 h9,A4 (by simpa using h9)];have e1:=C4L pre inn enc dead {m with dec:=(O2 m.dec 4096 b).2.1} id (by simp only;omega);simp only [mkC] at e1;simp only [C3,A3,e1,bO];cases hh:C1v m.strs id with
  | true=>
    have hlt:=B1t hh;have hst:=h.strs.2.2 _ (F3 hlt.1);rw [<- A3r hlt.1] at hst;have eh:C01 fin=some ((if fin then 2 else 1),()):=by cases fin<;>rfl
    have e2:=C7q pre inn enc dead {m with dec:=(O2 m.dec 4096 b).2.1} (atM m.strs id) (if fin then 2 else 1) hlt.1 (by simp only;omega) (by have:=hst.2.2.2.2;simp only;omega);simp only [mkH,mkC] at e2;simp only [A8,eh,bO,e2,bSr,M0]
  | false=>
    simp only [A3,J7,L5];unfold C98;have ho:(bif (decide ((id.tmod 2)=0)) then some (true,()) else some ((decide (id<=m.last)),()))=some (decide (id.tmod 2=0\/id<=m.last),()):=by
      by_cases q1:id.tmod 2=0
      · rw [A0 q1,A0 (show id.tmod 2=0\/id<=m.last from .inl q1)];rfl
      · rw [A1 q1]
        by_cases q2:id<=m.last
        · rw [A0 q2,A0 (show id.tmod 2=0\/id<=m.last from .inr q2)];rfl
        · rw [A1 q2,A1 (show ¬ (id.tmod 2=0\/id<=m.last) by omega)];rfl
    simp only [ho,bO];by_cases q:id.tmod 2=0\/id<=m.last
    · rw [A0 q,A6 q];rfl
    rw [A1 q,A4 q];simp only [A3];by_cases q2:100<=m.strs.length
    · rw [A0 (show (m.strs.length:Int)>=100 by omega),A6 q2];rfl
    rw [A1 (show ¬ (m.strs.length:Int)>=100 by omega),A4 q2];simp only [A3,bSl];rw [E1Q _ (by have:=hg.2.1;omega) hg.2.2];simp only [bO];by_cases q3:(A46 (O2 m.dec 4096 b).1).2=0
    · rw [A0 q3,A4 (by simpa using q3)]
      have eh:C01 fin=some ((if fin then 2 else 1),()):=by cases fin<;>rfl
      have es:A08 0 (if fin then 2 else 1)=some ((if fin then 2 else 1),0,()):=by cases fin<;>rfl
      simp only [C3,A3,eh,bO,es];rw [D42 (by simp;omega)];have e3:=E1U pre inn enc dead {m with dec:=(O2 m.dec 4096 b).2.1,last:=id,strs:=m.strs ++ [(id,(if fin then 2 else 1),(A46 (O2 m.dec 4096 b).1).1,[])]} (id,(if fin then 2 else 1),(A46 (O2 m.dec 4096 b).1).1,[]) (by simp only;omega) (by simp);simp only [mkH,mkC] at e3;rw [e3];rfl
    · rw [A1 q3,A6 (by simpa using q3)]
      simp only [J1,A8];rw [D42 (by simp;omega)]
theorem C99(m:HM)(h:HI m)(hl:m.calls.length<=1000000000)(f:F6)(hf:FrI f)(hc:fcV f=0) :
    A7p (mkH pre inn enc dead m) f=some ((C5A m f).1,mkH pre inn enc dead (C5A m f).2,()):=by
  have hok:=C7s h.g h.gb hf (by by_cases h1:f.1=1;exact .inl (D17 hc h1);exact .inr h1);have ho:(bif (decide (m.g.1=0)) then some (f.2.2.1,A2k f 1,()) else some (m.g.1,m.g.2.1,()))=some ((if m.g.1=0 then f.2.2.1 else m.g.1),(if m.g.1=0 then A2k f 1 else m.g.2.1),()):=by
    by_cases q:m.g.1=0
    · rw [A0 q,A6 q,A6 q];rfl
    · rw [A1 q,A4 q,A4 q];rfl
  simp only [A7p,B2p,A7U,bO,ho,E5R h.g hf];unfold C5A;by_cases q2:(P9 m.g f).2.2=2
  · rw [A0 q2,A6 (show (P9 m.g f).2.2=2\/(P9 m.g f).2.2=3 from .inl q2)];rfl
  rw [A1 q2];simp only [A3,bO];by_cases q3:(P9 m.g f).2.2=3
  · rw [A0 q3,A6 (show (P9 m.g f).2.2=2\/(P9 m.g f).2.2=3 from .inr q3)];rfl
  rw [A1 q3,A4 (show ¬ ((P9 m.g f).2.2=2\/(P9 m.g f).2.2=3) by omega)];by_cases q4:(P9 m.g f).2.2=4
  · rw [A0 q4,A6 q4];rfl
  rw [A1 q4,A4 q4];by_cases q1:(P9 m.g f).2.2=1
  · rw [A0 q1,A6 q1]
    have e:=E1W pre inn enc dead {m with g:=(P9 m.g f).1} ⟨h.strs,h.last,h.dec,hok.1,hok.2.1⟩ hl (if m.g.1=0 then f.2.2.1 else m.g.1) (if m.g.1=0 then A2k f 1 else m.g.2.1) (P9 m.g f).2.1 hok.2.2.1 (by omega);simp only [mkH,mkC] at e;simp only [A8,A3,e,bO]
  · rw [A1 q1,A4 q1];rfl
theorem D0H(m:HM)(ho:m.out.length<=100000000000000)(f:F6)(b:List Int)(hb:b.length<=1000):A5L (mkH pre inn enc dead m) f b=some (mkH pre inn enc dead (D0S m f b),()):=by
  simp only [A5L,A9S,A7U,bO,mkH];unfold D0S;cases A2k f 1 with
  | true=>rfl
  | false=>
    simp only [J1,A8,A3];rw [C53 _ _ (by simp only;omega)];rfl
theorem C7t(m:HM)(f:F6):A2j (mkH pre inn enc dead m) f=some ((D2n m f).1,mkH pre inn enc dead (D2n m f).2,()):=by
  simp only [A2j,A8E,mkH,mkC];unfold D2n;by_cases h:f.2.2.1>m.last
  · rw [A0 h,A6 h];rfl
  · rw [A1 h,A4 h];rfl
theorem E5S(m:HM)(h:HI m)(hl:m.calls.length<=1000000000)(f:F6)(hf:FrI f) :
    A7r (mkH pre inn enc dead m) f=some ((C36 m f).1,mkH pre inn enc dead (C36 m f).2,()):=by
  have hsl:=h.strs.1;have hn:=hf.n;have hu:=D9D f;have e1:=C4L pre inn enc dead m f.2.2.1 (by omega);have e2:=C7t pre inn enc dead m f;simp only [mkC] at e1;simp only [mkH,mkC] at e2;simp only [A7r,B2q,mkH,mkC,e1,bO,D2m hf,A7U];unfold C36;cases hh:C1v m.strs f.2.2.1 with
  | false=>
    simp only [J1,A8,J7,L5,e2,bO]
  | true=>
    have hlt:=B1t hh;have hst:=h.strs.2.2 _ (F3 hlt.1);rw [<- A3r hlt.1] at hst;have h5:=hst.2.2.2.2;have d1:decide ((0:Int)<=(atM m.strs f.2.2.1:Int))=true:=A0 (by omega);have d2:decide ((atM m.strs f.2.2.1:Int)<(m.strs.length:Int))=true:=A0 (by omega);have e3:rd E6 m.strs (atM m.strs f.2.2.1:Int)=sAt m.strs (atM m.strs f.2.2.1):=rfl;simp only [C3,A3,M0,d1,d2,A8,e3];cases hq:(A8K f).2 with
    | false=>rfl
    | true=>
      simp only [C3,A3,A8R,L5];rw [w64 (by omega) (by omega)];by_cases q:((sAt m.strs (atM m.strs f.2.2.1)).2.2.2.length:Int)+((A8K f).1.length:Int)>2000
      · rw [A0 q,A6 q];rfl
      · rw [A1 q,A4 q]
        simp only [A3];rw [gA (by omega)];simp only [D5,bO];have e4:=fun ev=>C7q pre inn enc dead (A1t m (atM m.strs f.2.2.1) ((sAt m.strs (atM m.strs f.2.2.1)).1,(sAt m.strs (atM m.strs f.2.2.1)).2.1,(sAt m.strs (atM m.strs f.2.2.1)).2.2.1,(sAt m.strs (atM m.strs f.2.2.1)).2.2.2++(A8K f).1)) (atM m.strs f.2.2.1) ev (by simpa [A1t] using hlt.1) (by simp only [A1t];omega) (by
          simp only [A1t];rw [A3r (by simpa using hlt.1),A1E];simp only [B0];omega)
        simp only [mkH,mkC,A1t] at e4;cases A2k f 1
        · simp only [A3,e4,bO];rfl
        · simp only [A8,e4,bO];rfl
theorem E1a(m:HM)(h:HI m)(f:F6):A6S (mkH pre inn enc dead m) f=some ((C0a m f).1,mkH pre inn enc dead (C0a m f).2,()):=by
  have hsl:=h.strs.1;have e1:=C4L pre inn enc dead m f.2.2.1 (by omega);have e2:=C7t pre inn enc dead m f;simp only [mkC] at e1;simp only [mkH,mkC] at e2;simp only [A6S,B0n,mkH,mkC,e1,bO];unfold C0a;cases hh:C1v m.strs f.2.2.1 with
  | false=>simp only [J1,A8,J7,L5,e2,bO]
  | true=>
    have hlt:=B1t hh;have w1:i64.wrap ((atM m.strs f.2.2.1:Int)+1)=((atM m.strs f.2.2.1+1:Nat):Int):=by rw [w64 (by omega) (by omega)];omega
    have e3:S9 m.strs (atM m.strs f.2.2.1:Int) ((atM m.strs f.2.2.1+1:Nat):Int)=some (m.strs.take (atM m.strs f.2.2.1)++m.strs.drop (atM m.strs f.2.2.1+1),()):=by
      rw [show S9=D8O from rfl];simp only [D8O];rw [A0 (by omega),A0 (by omega),A0 (by omega)];simp only [A8,D5]
    simp only [C3,A3,w1,e3,bO,M0]
theorem D9G(b:List Int)(hb:Byt b)(hl:b.length<=1000):∃ n,B3m b=some (n,D9F b,()):=by
  have e:=D8h b hb (by omega) 0 4 (by omega);rw [show ((4:Nat):Int)=4 from rfl] at e;simp only [B3m,C09,e,bO];unfold D9F;cases (A1r b 0 4).2.1<;>cases decide ((b.length:Int)=4)<;>cases decide (W9 .i64 (A1r b 0 4).1 2147483647=0)<;>exact ⟨_,rfl⟩
theorem E1b(m:HM)(h:HI m)(hl:HL m)(f:F6)(hf:FrI f):A2a (mkH pre inn enc dead m) f=some ((frM m f).1,mkH pre inn enc dead (frM m f).2,()):=by
  have hn:=hf.n;simp only [A2a,B0o,A47,bO];unfold frM;by_cases c2:fcV f=2
  · rw [A0 c2,A6 c2];rfl
  rw [A1 c2,A4 c2];by_cases c3:fcV f=3
  · rw [A0 c3,A6 c3];rfl
  rw [A1 c3,A4 c3];have hc:fcV f=0:=by
    have e:=A47 f;have hall:∃ c,T1 f=some (c,())/\(c=0\/c=2\/c=3):=by
      have h2:∃ b,A12 f=some (b,()):=by
        simp only [A12,A5n,R5,bO];cases decide (0<=f.1/\f.1<=255)<;>cases decide (0<=f.2.1/\f.2.1<=255)<;>cases decide (0<=f.2.2.1/\f.2.2.1<=2147483647)<;>exact ⟨_,rfl⟩
      have h3:∃ b,A1n f=some (b,()):=by
        simp only [A1n,A8B,A7U,bO];cases decide (f.1=2)<;>cases decide (f.1=3)<;>cases decide (f.1=8)<;>cases decide (f.1=6)<;>cases decide (f.1=4)<;>cases decide (f.1=7)<;>cases decide ((f.2.2.2.length:Int).tmod 6=0)<;>cases decide ((f.2.2.2.length:Int)=0)<;>exact ⟨_,rfl⟩
      obtain ⟨b1,e1⟩:=h2;obtain ⟨b2,e2⟩:=h3;simp only [T1,A3a,e1,e2,bO];cases b1
      case false=>exact ⟨_,rfl,.inr (.inl rfl)⟩
      cases b2
      case false=>exact ⟨_,rfl,.inr (.inl rfl)⟩
      simp only [C3,A3,bSl];cases decide (f.2.2.1=0)<;>cases decide (f.1=0)<;>cases decide (f.1=1)<;>cases decide (f.1=2)<;>cases decide (f.1=3)<;>cases decide (f.1=5)<;>cases decide (f.1=9)<;>cases decide (f.1=4)<;>cases decide (f.1=6)<;>cases decide (f.1=7)<;>first | exact ⟨_,rfl,.inl rfl⟩ | exact ⟨_,rfl,.inr (.inr rfl)⟩
    obtain ⟨c,e1,e2⟩:=hall;rw [e1] at e;injection e with e
    injection e with e _
    omega
  simp only [A3];by_cases g0:m.g.1=0
  case neg=>
    rw [A1 g0,A6 (.inl g0)];simp only [J1,A8,C99 pre inn enc dead m h hl.1 f hf hc,bO]
  rw [A0 g0];simp only [C3,A3];by_cases k1:f.1=1
  · rw [A0 k1,A6 (.inr (.inl k1))]
    simp only [A8,bO,C99 pre inn enc dead m h hl.1 f hf hc]
  rw [A1 k1];simp only [A3,bO];by_cases k9:f.1=9
  · rw [A0 k9,A6 (.inr (.inr k9))]
    simp only [A8,bO,C99 pre inn enc dead m h hl.1 f hf hc]
  rw [A1 k9,A4 (by omega)];simp only [A3];by_cases k4:f.1=4
  · rw [A0 k4,A6 k4]
    simp only [A8,D0H pre inn enc dead m (by have:=hl.2;omega) f [] (by simp),bO]
  rw [A1 k4,A4 k4];simp only [A3];by_cases k6:f.1=6
  · rw [A0 k6,A6 k6]
    simp only [A8,D0H pre inn enc dead m (by have:=hl.2;omega) f f.2.2.2 hn,bO]
  rw [A1 k6,A4 k6];simp only [A3];by_cases k5:f.1=5
  · rw [A0 k5,A6 k5];rfl
  rw [A1 k5,A4 k5];simp only [A3];by_cases k8:f.1=8
  · rw [A0 k8,A6 k8]
    obtain ⟨n,e⟩:=D9G f.2.2.2 hf.b hn;simp only [A8,e,bO];cases D9F f.2.2.2<;>rfl
  rw [A1 k8,A4 k8];simp only [A3];by_cases k0:f.1=0
  · rw [A0 k0,A6 k0]
    simp only [A8,E5S pre inn enc dead m h hl.1 f hf,bO]
  rw [A1 k0,A4 k0];simp only [A3];by_cases k3:f.1=3
  · rw [A0 k3,A6 k3]
    simp only [A8,E1a pre inn enc dead m h f,bO]
  · rw [A1 k3,A4 k3];rfl
end
set_option maxRecDepth 100000
structure FrO (m:HM) (r:Int×HM):Prop where
  code:0<=r.1/\r.1<=20
  hi:r.1=0->HI r.2
  last:0<=r.2.last/\r.2.last<=2147483647
  dec:A1S r.2.dec
  calls:r.2.calls.length<=m.calls.length+1
  out:r.2.out.length<=m.out.length+1100
theorem C0b{m:HM}(h:HI m){c:Int}(hc:0<c/\c<=20):FrO m (c,m):=⟨by simp only;omega,fun e=>by simp only at e;omega,h.last,h.dec,by simp only;omega,by simp only;omega⟩
theorem C7u{m:HM}(h:HI m):FrO m (0,m):=⟨by simp only;omega,fun _=>h,h.last,h.dec,by simp only;omega,by simp only;omega⟩
theorem D9H{m m0:HM}(h:HI m){i:Nat}{ev:Int}(hi:i<m.strs.length)(hev:1<=ev/\ev<=4)(h1:m.calls=m0.calls)(h2:m.out=m0.out):FrO m0 (A9r m i ev):=by
  obtain ⟨a1,a2,a3,a4,a5,a6,a7⟩:=E8R h hi hev;exact ⟨⟨a2,a3⟩,a1,by rw [a4];exact h.last,by rw [a6];exact h.dec,by rw [<- h1];exact a7,by rw [a5,h2];omega⟩
theorem E5T{m m0:HM}(h:HI m)(id:Int)(hid:id<=2147483647)(fin:Bool)(b:List Int)(h1:m.calls=m0.calls)(h2:m.out=m0.out):FrO m0 (B7g m id fin b):=by
  have hg:=C69 h.dec (by omega:(4096:Int)<=4096) b;have hm:HI {m with dec:=(O2 m.dec 4096 b).2.1}:=⟨h.strs,h.last,hg.1,h.g,h.gb⟩;have hl:=h.last;unfold B7g;by_cases h9:(O2 m.dec 4096 b).2.2.1≠0
  · rw [A6 h9]
    exact ⟨by simp only;omega,fun e=>by simp only at e;omega,h.last,h.dec,by simp only [h1];omega,by simp only [h2];omega⟩
  rw [A4 h9];cases hh:C1v m.strs id with
  | true=>
    rw [A6 rfl];exact D9H hm (B1t hh).1 (by cases fin<;>simp) h1 h2
  | false=>
    rw [A4 (by simp)];unfold C98;by_cases q:id.tmod 2=0\/id<=m.last
    · rw [A6 q]
      exact ⟨by simp only;omega,fun e=>by simp only at e;omega,h.last,hg.1,by simp only [h1];omega,by simp only [h2];omega⟩
    rw [A4 q];by_cases q2:100<=m.strs.length
    · rw [A6 q2]
      exact ⟨by simp only;omega,fun e=>by simp only at e;omega,h.last,hg.1,by simp only [h1];omega,by simp only [h2];omega⟩
    rw [A4 q2];have ht:id.tmod 2=1:=by
      have:=B5e (a:=id) (b:=2) (by omega);omega
    by_cases q3:(A46 (O2 m.dec 4096 b).1).2≠0
    · rw [A6 q3]
      exact ⟨by simp only;omega,fun _=>⟨E1T h.strs (by simp only;omega),by simp only;omega,hg.1,h.g,h.gb⟩,by simp only;omega,hg.1,by simp only [B0,H0,h1];omega,by simp only [h2];omega⟩
    · rw [A4 q3]
      obtain ⟨z1,z2,z3,z4,z5,z6⟩:=D0G {m with dec:=(O2 m.dec 4096 b).2.1,last:=id,strs:=m.strs ++ [(id,(if fin then 2 else 1),(A46 (O2 m.dec 4096 b).1).1,[])]} (id,(if fin then 2 else 1),(A46 (O2 m.dec 4096 b).1).1,[]);refine ⟨by simp only;omega,fun _=>⟨?_,?_,?_,?_,?_⟩,?_,?_,?_,?_⟩
      · rw [z1,z2]
        exact E1S h.strs (by omega) (s:=(id,(if fin then 2 else 1),(A46 (O2 m.dec 4096 b).1).1,[])) (by simp only;omega) ht (by cases fin<;>simp) (by simp) (by simp only;omega)
      · rw [z2];simp only;omega
      · rw [z3];exact hg.1
      · rw [z4];exact h.g
      · rw [z4];exact h.gb
      · simp only;rw [z2];simp only;omega
      · simp only;rw [z3];exact hg.1
      · simp only at z6 ⊢;rw [<- h1];exact z6
      · simp only;rw [z5];simp only [h2];omega
theorem E8V{m:HM}(h:HI m){f:F6}(hf:FrI f)(hc:fcV f=0):FrO m (C5A m f):=by
  have hok:=C7s h.g h.gb hf (by by_cases h1:f.1=1;exact .inl (D17 hc h1);exact .inr h1);have hm:HI {m with g:=(P9 m.g f).1}:=⟨h.strs,h.last,h.dec,hok.1,hok.2.1⟩;unfold C5A;by_cases q2:(P9 m.g f).2.2=2\/(P9 m.g f).2.2=3
  · rw [A6 q2]
    exact ⟨by simp only;omega,fun e=>by simp only at e;omega,h.last,h.dec,by simp only;omega,by simp only;omega⟩
  rw [A4 q2];by_cases q4:(P9 m.g f).2.2=4
  · rw [A6 q4]
    exact ⟨by simp only;omega,fun e=>by simp only at e;omega,h.last,h.dec,by simp only;omega,by simp only;omega⟩
  rw [A4 q4];by_cases q1:(P9 m.g f).2.2=1
  · rw [A6 q1]
    have hs:=hf.st;refine E5T hm _ ?_ _ _ rfl rfl;by_cases g0:m.g.1=0
    · rw [A6 g0];omega
    · rw [A4 g0]
      rcases h.g with q | q
      · exact absurd q.1 g0
      · exact q.2.1
  · rw [A4 q1]
    exact ⟨by simp only;omega,fun _=>hm,h.last,h.dec,by simp only;omega,by simp only;omega⟩
theorem E3w{m:HM}(h:HI m)(f:F6)(hf:FrI f)(b:List Int)(hb:b.length<=1000):FrO m (0,D0S m f b):=by
  have hk:=hf.k;unfold D0S;cases A2k f 1
  · have hl:=D2S (f.1,1,0,b) (fok _ _ _ _ (by omega) (by omega) (by omega) (by omega))
    exact ⟨by simp only;omega,fun _=>⟨h.strs,h.last,h.dec,h.g,h.gb⟩,h.last,h.dec,by simp only [A3];omega,by simp only [A3,B0];omega⟩
  · exact C7u h
theorem E40{m:HM}(h:HI m)(f:F6):FrO m (D2n m f):=by
  unfold D2n;split
  · exact C0b h (by omega)
  · exact C7u h
theorem E8W{m:HM}(h:HI m){f:F6}(hf:FrI f):FrO m (C36 m f):=by
  unfold C36;cases hh:C1v m.strs f.2.2.1 with
  | false=>rw [A4 (by simp)];exact E40 h f
  | true=>
    rw [A6 rfl];have hlt:=B1t hh;have hst:=h.strs.2.2 _ (F3 hlt.1);rw [<- A3r hlt.1] at hst;by_cases hu:(A8K f).2=false
    · rw [A6 hu];exact C0b h (by omega)
    rw [A4 hu];by_cases q:((sAt m.strs (atM m.strs f.2.2.1)).2.2.2.length:Int)+((A8K f).1.length:Int)>2000
    · rw [A6 q];exact C0b h (by omega)
    rw [A4 q];refine D9H ?_ ?_ ?_ rfl rfl
    · exact ⟨D5b h.strs hlt.1 rfl hst.2.2.2.1 (by simp only [B0];omega),h.last,h.dec,h.g,h.gb⟩
    · simpa [A1t] using hlt.1
    · cases A2k f 1<;>simp
theorem E5U{m:HM}(h:HI m)(f:F6):FrO m (C0a m f):=by
  unfold C0a;cases hh:C1v m.strs f.2.2.1 with
  | false=>rw [A4 (by simp)];exact E40 h f
  | true=>
    rw [A6 rfl];exact ⟨by simp only;omega,fun _=>⟨E5P h.strs _,h.last,h.dec,h.g,h.gb⟩,h.last,h.dec,by simp only;omega,by simp only;omega⟩
theorem D72(f:F6):fcV f=0\/fcV f=2\/fcV f=3:=by
  have e:=A47 f;have hall:∃ c,T1 f=some (c,())/\(c=0\/c=2\/c=3):=by
    have h2:∃ b,A12 f=some (b,()):=by
      simp only [A12,A5n,R5,bO];cases decide (0<=f.1/\f.1<=255)<;>cases decide (0<=f.2.1/\f.2.1<=255)<;>cases decide (0<=f.2.2.1/\f.2.2.1<=2147483647)<;>exact ⟨_,rfl⟩
    have h3:∃ b,A1n f=some (b,()):=by
      simp only [A1n,A8B,A7U,bO];cases decide (f.1=2)<;>cases decide (f.1=3)<;>cases decide (f.1=8)<;>cases decide (f.1=6)<;>cases decide (f.1=4)<;>cases decide (f.1=7)<;>cases decide ((f.2.2.2.length:Int).tmod 6=0)<;>cases decide ((f.2.2.2.length:Int)=0)<;>exact ⟨_,rfl⟩
    obtain ⟨b1,e1⟩:=h2;obtain ⟨b2,e2⟩:=h3;simp only [T1,A3a,e1,e2,bO];cases b1
    case false=>exact ⟨_,rfl,.inr (.inl rfl)⟩
    cases b2
    case false=>exact ⟨_,rfl,.inr (.inl rfl)⟩
    simp only [C3,A3,bSl];cases decide (f.2.2.1=0)<;>cases decide (f.1=0)<;>cases decide (f.1=1)<;>cases decide (f.1=2)<;>cases decide (f.1=3)<;>cases decide (f.1=5)<;>cases decide (f.1=9)<;>cases decide (f.1=4)<;>cases decide (f.1=6)<;>cases decide (f.1=7)<;>first | exact ⟨_,rfl,.inl rfl⟩ | exact ⟨_,rfl,.inr (.inr rfl)⟩
  obtain ⟨c,e1,e2⟩:=hall;rw [e1] at e;injection e with e
  injection e with e _
  omega
theorem E8a{m:HM}(h:HI m){f:F6}(hf:FrI f):FrO m (frM m f):=by
  have hr:=D72 f;unfold frM;by_cases c2:fcV f=2
  · rw [A6 c2];exact C0b h (by omega)
  rw [A4 c2];by_cases c3:fcV f=3
  · rw [A6 c3];exact C0b h (by omega)
  rw [A4 c3];by_cases k:m.g.1≠0\/f.1=1\/f.1=9
  · rw [A6 k];exact E8V h hf (by omega)
  rw [A4 k];by_cases k4:f.1=4
  · rw [A6 k4];exact E3w h f hf [] (by simp)
  rw [A4 k4];by_cases k6:f.1=6
  · rw [A6 k6];exact E3w h f hf _ hf.n
  rw [A4 k6];by_cases k5:f.1=5
  · rw [A6 k5];exact C0b h (by omega)
  rw [A4 k5];by_cases k8:f.1=8
  · rw [A6 k8]
    split
    · exact C7u h
    · exact C0b h (by omega)
  rw [A4 k8];by_cases k0:f.1=0
  · rw [A6 k0];exact E8W h hf
  rw [A4 k0];by_cases k3:f.1=3
  · rw [A6 k3];exact E5U h f
  · rw [A4 k3];exact C7u h
section
variable (cs:List N3) (os:List Int)
end
set_option maxRecDepth 100000
theorem C9A(b:List Int)(a c:Nat):∀ j,P7 (b.drop a) c j=P7 b (a+c) j
  | 0=>rfl
  | j+1=>by
    simp only [P7,C9A b a c j];rw [show (b.drop a).getD (c+j) 0=b.getD (a+c+j) 0 by simp [List.getD,G6,Q9]]
theorem B12(b:List Int)(n c:Nat):∀ j,c+j<=n->P7 (b.take n) c j=P7 b c j
  | 0,_=>rfl
  | j+1,h=>by
    simp only [P7,B12 b n c j (by omega)];rw [show (b.take n).getD (c+j) 0=b.getD (c+j) 0 by simp [List.getD,K3,show c+j<n by omega]]
def codeF(b:List Int):Nat:=if b.length<9 then 1 else if P7 b 0 3>1000 then 2 else if b.length<9+P7 b 0 3 then 1 else 0
def A2S(b:List Int):Nat:=9+P7 b 0 3
def A0A(b:List Int):F6:=(A3J b 0).1
theorem B6g{b:List Int}{a:Nat}(ha:a<=b.length):(A3J b a).2.2.1=(codeF (b.drop a):Int)/\(codeF (b.drop a)=0->(A3J b a).1=A0A (b.drop a)/\(A3J b a).2.1=((a+A2S (b.drop a):Nat):Int)/\a+A2S (b.drop a)<=b.length):=by
  have hl:(b.drop a).length=b.length-a:=by simp
  have e0:P7 (b.drop a) 0 3=P7 b a 3:=by rw [C9A];rfl
  have hg:∀ (k:Nat),rd (.int .u8) (b.drop a) (k:Int)=rd (.int .u8) b ((a:Int)+k):=fun k=>by
    simp only [rd];rw [show ((a:Int)+(k:Int)).toNat=a+k by omega,D5];simp [List.getD,G6]
  unfold codeF A2S A0A;rw [hl,e0];unfold A3J;by_cases h9:b.length-a<9
  · rw [A6 h9,A4 (show ¬ (0<=(a:Int)/\(a:Int)<=(b.length:Int)-9) by omega)]
    exact ⟨rfl,fun h=>by cases h⟩
  rw [A4 h9,A6 (show 0<=(a:Int)/\(a:Int)<=(b.length:Int)-9 by omega),D5];by_cases h1:P7 b a 3>1000
  · rw [A6 h1,A6 (show (P7 b a 3:Int)>1000 by omega)]
    exact ⟨rfl,fun h=>by cases h⟩
  rw [A4 h1,A4 (show ¬ (P7 b a 3:Int)>1000 by omega)];by_cases h2:b.length-a<9+P7 b a 3
  · rw [A6 h2,A6 (show (P7 b a 3:Int)>(b.length:Int)-(a:Int)-9 by omega)]
    exact ⟨rfl,fun h=>by cases h⟩
  rw [A4 h2,A4 (show ¬ (P7 b a 3:Int)>(b.length:Int)-(a:Int)-9 by omega)];refine ⟨rfl,fun _=>⟨?_,(by show (a:Int)+9+(P7 b a 3:Int)=((a+(9+P7 b a 3):Nat):Int);omega),by omega⟩⟩;rw [A6 (show 0<=(0:Int)/\(0:Int)<=((b.drop a).length:Int)-9 by omega)];rw [show (0:Int).toNat=0 from rfl,e0,A4 (show ¬ (P7 b a 3:Int)>1000 by omega),A4 (show ¬ (P7 b a 3:Int)>((b.drop a).length:Int)-0-9 by omega)];have r3:=hg 3;have r4:=hg 4;rw [show ((3:Nat):Int)=3 from rfl] at r3;rw [show ((4:Nat):Int)=4 from rfl] at r4;simp only [C1g];rw [r3,r4];have e5:P7 (b.drop a) (5:Int).toNat 4=P7 b ((a:Int)+5).toNat 4:=by
    rw [C9A]
    congr 1
  rw [e5];have e9:((b.drop a).take ((9:Int)+(P7 b a 3:Int)).toNat).drop (9:Int).toNat=(b.take ((a:Int)+9+(P7 b a 3:Int)).toNat).drop ((a:Int)+9).toNat:=by
    rw [show ((a:Int)+9+(P7 b a 3:Int)).toNat=a+(9+P7 b a 3) by omega,show ((a:Int)+9).toNat=a+9 by omega,show ((9:Int)+(P7 b a 3:Int)).toNat=9+P7 b a 3 by omega,show (9:Int).toNat=9 from rfl];rw [A2s,A2s,S3]
    congr 1
    omega
  rw [e9]
theorem B8W(b:List Int):codeF b=0\/codeF b=1\/codeF b=2:=by
  unfold codeF;split
  · omega
  · split
    · omega
    · split<;>omega
theorem C6B{b:List Int}(h:codeF b=1)(k:Nat):codeF (b.take k)=1:=by
  unfold codeF at h ⊢;by_cases h9:(b.take k).length<9
  · rw [A6 h9]
  rw [A4 h9];rw [B4] at h9;rw [A4 (by omega)] at h;rw [B12 _ _ _ _ (by omega),B4];by_cases h1:P7 b 0 3>1000
  · rw [A6 h1] at h;cases h
  rw [A4 h1] at h ⊢;by_cases h2:b.length<9+P7 b 0 3
  · rw [A6 (by omega)]
  · rw [A4 h2] at h;cases h
theorem D9I{b:List Int}(h:codeF b=2):9<=b.length/\(∀ k,k<9->codeF (b.take k)=1)/\∀ k,9<=k->codeF (b.take k)=2:=by
  unfold codeF at h;by_cases h9:b.length<9
  · rw [A6 h9] at h;cases h
  rw [A4 h9] at h;by_cases h1:P7 b 0 3>1000
  · refine ⟨by omega,fun k hk=>?_,fun k hk=>?_⟩
    · unfold codeF
      rw [A6 (by rw [B4];omega)]
    · unfold codeF
      rw [A4 (by rw [B4];omega),B12 _ _ _ _ (by omega),A6 h1]
  · rw [A4 h1] at h
    split at h<;>cases h
theorem B6h{b:List Int}(h:codeF b=0):A2S b<=b.length/\9<=A2S b/\A2S b<=1009/\(∀ k,k<A2S b->codeF (b.take k)=1)/\codeF (b.take (A2S b))=0:=by
  unfold codeF at h;by_cases h9:b.length<9
  · rw [A6 h9] at h;cases h
  rw [A4 h9] at h;by_cases h1:P7 b 0 3>1000
  · rw [A6 h1] at h;cases h
  rw [A4 h1] at h;by_cases h2:b.length<9+P7 b 0 3
  · rw [A6 h2] at h;cases h
  unfold A2S;refine ⟨by omega,by omega,by omega,fun k hk=>?_,?_⟩
  · unfold codeF
    by_cases hk9:k<9
    · rw [A6 (by rw [B4];omega)]
    · rw [A4 (by rw [B4];omega),B12 _ _ _ _ (by omega),A4 h1,A6 (by rw [B4];omega)]
  · unfold codeF
    rw [A4 (by rw [B4];omega),B12 _ _ _ _ (by omega),A4 h1,A4 (by rw [B4];omega)]
theorem D9J{b:List Int}(h:codeF b=0):A0A (b.take (A2S b))=A0A b:=by
  obtain ⟨h1,h2,h3,_,h5⟩:=B6h h;have hn:A2S b=9+P7 b 0 3:=rfl;have hl:(b.take (A2S b)).length=A2S b:=by rw [B4];omega
  have hr:∀ (k:Nat),k<A2S b->rd (.int .u8) (b.take (A2S b)) (k:Int)=rd (.int .u8) b (k:Int):=fun k hk=>by
    simp only [rd,D5];simp [List.getD,K3,hk]
  have e3:P7 (b.take (A2S b)) 0 3=P7 b 0 3:=B12 _ _ _ _ (by omega);unfold A0A A3J;rw [A6 (show 0<=(0:Int)/\(0:Int)<=((b.take (A2S b)).length:Int)-9 by omega),A6 (show 0<=(0:Int)/\(0:Int)<=(b.length:Int)-9 by omega)];rw [show (0:Int).toNat=0 from rfl,e3];rw [A4 (show ¬ (P7 b 0 3:Int)>1000 by omega),A4 (show ¬ (P7 b 0 3:Int)>((b.take (A2S b)).length:Int)-0-9 by omega),A4 (show ¬ (P7 b 0 3:Int)>1000 by omega),A4 (show ¬ (P7 b 0 3:Int)>(b.length:Int)-0-9 by omega)];simp only [C1g];have r3:=hr 3 (by omega);have r4:=hr 4 (by omega);rw [show ((3:Nat):Int)=3 from rfl] at r3;rw [show ((4:Nat):Int)=4 from rfl] at r4;rw [r3,r4,B12 _ _ _ _ (show (5:Int).toNat+4<=A2S b by simp;omega)];rw [show ((9:Int)+(P7 b 0 3:Int)).toNat=A2S b by omega,S4,Nat.min_self]
theorem C4M{b:List Int}(hb:Byt b)(h:codeF b=0):FrI (A0A b):=by
  obtain ⟨h1,h2,h3,_,_⟩:=B6h h;have hn:A2S b=9+P7 b 0 3:=rfl;have r3:=B2t hb (show 3<b.length by omega);have r4:=B2t hb (show 4<b.length by omega);rw [show ((3:Nat):Int)=3 from rfl] at r3;rw [show ((4:Nat):Int)=4 from rfl] at r4;have hs:=C7e hb 5 4;have hm:W9 .i64 (P7 b 5 4:Int) 2147483647=((P7 b 5 4 % 2 ^ 31:Nat):Int):=by
    rw [show (2147483647:Int)=((2147483647:Nat):Int) from rfl,C7j (by simp at hs;omega) (by omega),show (2147483647:Nat)=2 ^ 31-1 from rfl,A4C]
  have hlt:P7 b 5 4 % 2 ^ 31<2 ^ 31:=A4e _ (by decide);have e:A0A b=(rd (.int .u8) b 3,rd (.int .u8) b 4,W9 .i64 (P7 b 5 4:Int) 2147483647,(b.take ((9:Int)+(P7 b 0 3:Int)).toNat).drop (9:Int).toNat):=by
    unfold A0A A3J;rw [A6 (show 0<=(0:Int)/\(0:Int)<=(b.length:Int)-9 by omega),show (0:Int).toNat=0 from rfl,A4 (show ¬ (P7 b 0 3:Int)>1000 by omega),A4 (show ¬ (P7 b 0 3:Int)>(b.length:Int)-0-9 by omega)];simp only [C1g];rfl
  rw [e];refine ⟨?_,?_,?_,?_,?_⟩
  · simp only [r3.1];omega
  · simp only [r4.1];omega
  · simp only [hm];omega
  · simp only [C9,B4];omega
  · exact C2w (D2L hb _) _
set_option maxRecDepth 100000
abbrev priS:X0:=⟨#[80,82,73,32,42,32,72,84,84,80,47,50,46,48,13,10,13,10,83,77,13,10,13,10]⟩
def goB(last code:Int):List Int:=B5E (7,0,0,big (A8h last) 4++big (A8h code) 4)
theorem E41(last code:Int):(goB last code).length=17:=by
  simp only [goB,B5E,B0,B1s,F0,M3]
structure BS where
  pre:Nat
  inn:List Int
  dead:Int
  m:HM
def B5j(pre:Nat)(m:HM)(code:Int):BS:=⟨pre,[],code,{m with g:=(0,false,[]),strs:= [],out:=m.out++goB m.last code}⟩
noncomputable def A3K(st:BS)(x:Int):BS:=
  if st.dead≠0 then st
  else if st.pre<24 then (if x=bt priS (st.pre:Int) then ⟨st.pre+1,st.inn,0,st.m⟩ else B5j st.pre st.m 1)
  else if codeF (st.inn ++ [x])=1 then ⟨st.pre,st.inn ++ [x],0,st.m⟩
  else if codeF (st.inn ++ [x])=2 then B5j st.pre st.m 6
  else if (frM st.m (A0A (st.inn ++ [x]))).1=0 then ⟨st.pre,[],0,(frM st.m (A0A (st.inn ++ [x]))).2⟩
  else B5j st.pre (frM st.m (A0A (st.inn ++ [x]))).2 (frM st.m (A0A (st.inn ++ [x]))).1
noncomputable def S0(st:BS)(b:List Int):BS:=b.foldl A3K st
theorem A8k(st:BS)(h:st.dead≠0):∀ b,S0 st b=st
  | []=>rfl
  | x::b=>by
    have e:A3K st x=st:=by unfold A3K;rw [A6 h]
    show S0 (A3K st x) b=st;rw [e];exact A8k st h b
theorem D2o(st:BS)(a b:List Int):S0 st (a++b)=S0 (S0 st a) b:=by
  unfold S0;rw [List.foldl_append]
structure BI (st:BS):Prop where
  pre:st.pre<=24
  hi:HI st.m
  inb:Byt st.inn
  more:codeF st.inn=1
  emp:st.pre<24\/st.dead≠0->st.inn = []
  gone:st.dead≠0->st.m.strs = []/\st.m.g.1=0
  dead:0<=st.dead/\st.dead<=20
theorem D73{pre:Nat}(hp:pre<=24){m:HM}(h1:0<=m.last/\m.last<=2147483647)(h2:A1S m.dec){code:Int}(hc:0<=code/\code<=20):BI (B5j pre m code):=
  ⟨hp,⟨E5Q _,h1,h2,.inl ⟨rfl,rfl,rfl⟩,fun x hx=>by cases hx⟩,(fun x hx=>by cases hx),rfl,fun _=>rfl,fun _=>⟨rfl,rfl⟩,hc⟩
theorem D2p{b:List Int}(hb:Byt b){x:Int}(hx:0<=x/\x<256):Byt (b ++ [x]):=D6a hb fun y hy=>by rcases B2.1 hy with rfl;exact hx
theorem D2q{st:BS}(h:BI st){x:Int}(hx:0<=x/\x<256):BI (A3K st x)/\(A3K st x).m.calls.length<=st.m.calls.length+1/\(A3K st x).m.out.length<=st.m.out.length+1200:=by
  unfold A3K;by_cases hd:st.dead≠0
  · rw [A6 hd];exact ⟨h,by omega,by omega⟩
  rw [A4 hd];have hb:=D2p h.inb hx;have hg:=E41;by_cases hp:st.pre<24
  · rw [A6 hp]
    by_cases hq:x=bt priS (st.pre:Int)
    · rw [A6 hq]
      refine ⟨⟨by simp only;omega,h.hi,h.inb,h.more,fun _=>h.emp (.inl hp),fun e=>absurd rfl e,by simp⟩,by simp only;omega,by simp only;omega⟩
    · rw [A4 hq]
      exact ⟨D73 h.pre h.hi.last h.hi.dec (by omega),by simp only [B5j];omega,by simp only [B5j,B0,hg];omega⟩
  rw [A4 hp];by_cases c1:codeF (st.inn ++ [x])=1
  · rw [A6 c1]
    exact ⟨⟨h.pre,h.hi,hb,c1,(fun e=>by rcases e with e | e;exact absurd e hp;exact absurd rfl e),(fun e=>absurd rfl e),by simp⟩,by simp only;omega,by simp only;omega⟩
  rw [A4 c1];by_cases c2:codeF (st.inn ++ [x])=2
  · rw [A6 c2]
    exact ⟨D73 h.pre h.hi.last h.hi.dec (by omega),by simp only [B5j];omega,by simp only [B5j,B0,hg];omega⟩
  rw [A4 c2];have c0:codeF (st.inn ++ [x])=0:=by have:=B8W (st.inn ++ [x]);omega
  have ho:=E8a h.hi (C4M hb c0);have h1:=ho.calls;have h2:=ho.out;by_cases hr:(frM st.m (A0A (st.inn ++ [x]))).1=0
  · rw [A6 hr]
    exact ⟨⟨h.pre,ho.hi hr,(fun x hx=>by cases hx),rfl,fun _=>rfl,(fun e=>absurd rfl e),by simp⟩,by simp only;omega,by simp only;omega⟩
  · rw [A4 hr]
    exact ⟨D73 h.pre ho.last ho.dec ho.code,by simp only [B5j];omega,by simp only [B5j,B0,hg];omega⟩
theorem C4N:∀ {b:List Int} {st:BS},BI st->Byt b->BI (S0 st b)/\(S0 st b).m.calls.length<=st.m.calls.length+b.length/\(S0 st b).m.out.length<=st.m.out.length+1200*b.length
  | [],st,h,_=>⟨h,by simp [S0],by simp [S0]⟩
  | x::b,st,h,hb=>by
    obtain ⟨h1,h2,h3⟩:=D2q h (hb x A9);obtain ⟨h4,h5,h6⟩:=C4N (b:=b) h1 fun y hy=>hb y (B6 _ hy)
    have e:S0 st (x::b)=S0 (A3K st x) b:=rfl;rw [e];exact ⟨h4,by simp only [F0];omega,by simp only [F0];omega⟩
theorem C37(st:BS)(hd:st.dead=0)(hp:¬ st.pre<24):∀ (k:Nat) (xs:List Int),xs.length=k->(∀ j,j<=k->codeF (st.inn++xs.take j)=1)->S0 st xs=⟨st.pre,st.inn++xs,0,st.m⟩:=by
  intro k
  induction k generalizing st with
  | zero=>
    intro xs hx _;have:xs = []:=N8.1 hx;subst this;show st=_;rw [G5];cases st;simp only at hd;subst hd;rfl
  | succ k ih=>
    intro xs hx hc;cases xs with
    | nil=>cases hx
    | cons x xs=>
      have h1:=hc 1 (by omega);simp only [List.take_succ_cons,List.take_zero] at h1;have e:A3K st x=⟨st.pre,st.inn ++ [x],0,st.m⟩:=by
        unfold A3K;rw [A4 (by omega),A4 hp,A6 h1]
      show S0 (A3K st x) xs=_;rw [e,ih ⟨st.pre,st.inn ++ [x],0,st.m⟩ rfl hp xs (by simpa using hx) fun j hj=>by
        have:=hc (j+1) (by omega);simpa using this]
      simp
noncomputable def D2r:Nat->HM->List Int->Int×HM×List Int
  | 0,m,b=>(0,m,b)
  | k+1,m,b=>if codeF b=1 then (0,m,b) else if codeF b=2 then (6,m,b) else
    if (frM m (A0A b)).1≠0 then ((frM m (A0A b)).1,(frM m (A0A b)).2,b) else D2r k (frM m (A0A b)).2 (b.drop (A2S b))
def D5d(pre:Nat)(r:Int×HM×List Int):BS:=if r.1=0 then ⟨pre,r.2.2,0,r.2.1⟩ else B5j pre r.2.1 r.1
theorem D9K(pre:Nat)(hp:¬ pre<24):∀ (k:Nat) (xs inn:List Int) (m:HM),inn.length+xs.length<=k->codeF inn=1->S0 ⟨pre,inn,0,m⟩ xs=D5d pre (D2r (k+1) m (inn++xs)):=by
  intro k
  induction k with
  | zero=>
    intro xs inn m hk hi;have h1:xs = []:=N8.1 (by omega);subst h1;simp only [D2r,G5,A6 hi,D5d,M0];rfl
  | succ k ih=>
    intro xs inn m hk hi;rw [D2r];have hpre:∀ j,j<=inn.length+xs.length->inn.length<=j->(inn++xs).take j=inn++xs.take (j-inn.length):=fun j h1 h2=>by
      rw [B8m,H4 h2]
    rcases B8W (inn++xs) with c | c | c
    · obtain ⟨w1,w2,w3,w4,w5⟩:=B6h c
      have hlt:inn.length<A2S (inn++xs):=by
        rcases C1e inn.length (A2S (inn++xs)) with h | h
        · exact h
        · exfalso
          have h7:=C6B hi (A2S (inn++xs));have:(inn++xs).take (A2S (inn++xs))=inn.take (A2S (inn++xs)):=by rw [G4 h]
          rw [this,h7] at w5;cases w5
      rw [B0] at w1;obtain ⟨n,hn⟩:∃ n,A2S (inn++xs)=inn.length+(n+1):=⟨A2S (inn++xs)-inn.length-1,by omega⟩;have hlen:n<xs.length:=by omega
      have hsplit:xs=xs.take n++(xs[n]::xs.drop (n+1)):=by
        rw [<- I5 hlen,N6]
      have hw:S0 ⟨pre,inn,0,m⟩ (xs.take n)=⟨pre,inn++xs.take n,0,m⟩:=by
        refine C37 ⟨pre,inn,0,m⟩ rfl hp n (xs.take n) (by rw [B4];omega) fun j hj=>?_
        have:=w4 (inn.length+j) (by omega);rw [hpre _ (by omega) (by omega)] at this;rw [S4,A0H hj];simpa using this
      have hB:inn++xs.take n ++ [xs[n]]=(inn++xs).take (A2S (inn++xs)):=by
        rw [hpre _ (by omega) (by omega),hn,show inn.length+(n+1)-inn.length=n+1 by omega,B3,H5 hlen]
      have hD:(inn++xs).drop (A2S (inn++xs))=xs.drop (n+1):=by
        rw [hn,A76,A0q (by omega),H7]
        congr 1
        omega
      rw [A4 (by omega),A4 (by omega)];have e1:S0 ⟨pre,inn,0,m⟩ xs=S0 (A3K ⟨pre,inn++xs.take n,0,m⟩ xs[n]) (xs.drop (n+1)):=by
        conv=>lhs;rw [hsplit]
        rw [D2o,hw];rfl
      rw [e1];have e2:A3K ⟨pre,inn++xs.take n,0,m⟩ xs[n]=if (frM m (A0A (inn++xs))).1=0 then ⟨pre,[],0,(frM m (A0A (inn++xs))).2⟩ else B5j pre (frM m (A0A (inn++xs))).2 (frM m (A0A (inn++xs))).1:=by
        unfold A3K;simp only [hB,w5,D9J c];rw [A4 (by omega),A4 hp,A4 (by omega),A4 (by omega)]
      rw [e2];by_cases hr:(frM m (A0A (inn++xs))).1=0
      · rw [A6 hr,A4 (by simpa using hr),hD]
        exact ih (xs.drop (n+1)) [] _ (by simp;omega) rfl
      · rw [A4 hr,A6 hr,A8k _ (by simpa [B5j] using hr)]
        simp only [D5d,A4 hr]
    · rw [A6 c]
      simp only [D5d,M0];refine C37 ⟨pre,inn,0,m⟩ rfl hp xs.length xs rfl fun j hj=>?_
      have:=C6B c (inn.length+j);rw [hpre _ (by omega) (by omega)] at this;simpa using this
    · obtain ⟨w1,w2,w3⟩:=D9I c
      have hlt:inn.length<9:=by
        rcases C1e inn.length 9 with h | h
        · exact h
        · exfalso
          have h7:=C6B hi 9;have h8:=w3 9 (by omega);have:(inn++xs).take 9=inn.take 9:=by rw [G4 h]
          rw [this,h7] at h8;cases h8
      rw [B0] at w1;obtain ⟨n,hn⟩:∃ n,9=inn.length+(n+1):=⟨8-inn.length,by omega⟩;have hlen:n<xs.length:=by omega
      have hsplit:xs=xs.take n++(xs[n]::xs.drop (n+1)):=by
        rw [<- I5 hlen,N6]
      have hw:S0 ⟨pre,inn,0,m⟩ (xs.take n)=⟨pre,inn++xs.take n,0,m⟩:=by
        refine C37 ⟨pre,inn,0,m⟩ rfl hp n (xs.take n) (by rw [B4];omega) fun j hj=>?_
        have:=w2 (inn.length+j) (by omega);rw [hpre _ (by omega) (by omega)] at this;rw [S4,A0H hj];simpa using this
      have hB:codeF (inn++xs.take n ++ [xs[n]])=2:=by
        have:=w3 9 (by omega);rw [hpre _ (by omega) (by omega),show 9-inn.length=n+1 by omega,H5 hlen,<- B3] at this;exact this
      rw [A4 (by omega),A6 c];have e1:S0 ⟨pre,inn,0,m⟩ xs=S0 (A3K ⟨pre,inn++xs.take n,0,m⟩ xs[n]) (xs.drop (n+1)):=by
        conv=>lhs;rw [hsplit]
        rw [D2o,hw];rfl
      have e2:A3K ⟨pre,inn++xs.take n,0,m⟩ xs[n]=B5j pre m 6:=by
        unfold A3K;rw [A4 (by simp),A4 hp,A4 (by simp only [hB];omega),A6 hB]
      rw [e1,e2,A8k _ (by simp [B5j])];rfl
set_option maxRecDepth 100000
theorem D9L{c:J5}(h:B8V c.2.2.2.2.2.1 c.2.2.2.2.2.2.1):C1l c=true:=by
  obtain ⟨h1,h2,h3⟩:=h;have hall:∀ i,i<c.2.2.2.2.2.1.length->A9o c i=true:=fun i hi=>by
    have e:=A3r hi;have hs:=h3 _ (F3 hi);rw [<- e] at hs;unfold D6w at hs;have e0:rd E6 c.2.2.2.2.2.1 (i:Int)=sAt c.2.2.2.2.2.1 i:=rfl;unfold A9o;rw [e0,A0 hs.1,A0 (show 1<=(sAt c.2.2.2.2.2.1 i).1/\(sAt c.2.2.2.2.2.1 i).1<=c.2.2.2.2.2.2.1 from ⟨hs.2.1,hs.2.2.1⟩),A1 (show ¬ (List.length (sAt c.2.2.2.2.2.1 i).2.2.2:Int)>2000 by omega)];have hst:(decide ((sAt c.2.2.2.2.2.1 i).2.1=1)||decide ((sAt c.2.2.2.2.2.1 i).2.1=2))=true:=by
      rcases hs.2.2.2.1 with q | q<;>rw [q]<;>rfl
    rw [hst];have hup:(decide (i=0)||!decide ((sAt c.2.2.2.2.2.1 i).1<=(rd E6 c.2.2.2.2.2.1 ((i:Int)-1)).1))=true:=by
      by_cases h0:i=0
      · rw [A0 h0];rfl
      · have e1:rd E6 c.2.2.2.2.2.1 ((i:Int)-1)=sAt c.2.2.2.2.2.1 (i-1):=by
          unfold sAt;rw [show (i:Int)-1=((i-1:Nat):Int) by omega]
        have hp:=B5r.1 h2 (i-1) i (by simp;omega) (by simpa using hi) (by omega);simp only [List.getElem_map] at hp;rw [e1,e,A3r (show i-1<c.2.2.2.2.2.1.length by omega),A1 (Int.not_le.2 hp),J1,Bool.or_true]
    rw [hup];rfl
  have hn:A3f (A9o c) 0 c.2.2.2.2.2.1.length=c.2.2.2.2.2.1.length:=D09 _ _ _ (C1 _) hall (fun h=>absurd h (A2W _));unfold C1l;rw [A0 hn,A0 (show (c.2.2.2.2.2.1.length:Int)<=100 by omega)];rfl
abbrev bsC(enc:D6)(st:BS):J5:=mkC (st.pre:Int) st.inn enc st.dead st.m
abbrev bsH(enc:D6)(st:BS):E5:=mkH (st.pre:Int) st.inn enc st.dead st.m
theorem C4O{b:List Int}(h:codeF b=1):b.length<=1009:=by
  unfold codeF at h;split at h
  · omega
  · split at h
    · cases h
    · split at h
      · omega
      · cases h
theorem D45{enc:D6}(he:A1S enc){st:BS}(h:BI st):A5l (bsC enc st)=some (true,()):=by
  have hpre:=h.pre;have hd:=h.dead;have hl:=h.hi.last;have hn:=C4O h.more;have hsl:=h.hi.strs.1;have e5:=D5N (bsC enc st) (by simp only [maxLen];omega);rw [D9L (c:=bsC enc st) h.hi.strs] at e5;have e6:=B5F st.inn h.inb (by omega) 0 (by omega);have e7:=(B6g (b:=st.inn) (a:=0) (by omega)).1;rw [Q4,h.more,show ((0:Nat):Int)=0 from rfl] at e7;simp only [A5l,B9k,R5,C1n h.hi.g,D95 h.hi.dec,D95 he,bO];rw [e5];rw [A0 (show (0:Int)<=(st.pre:Int)/\(st.pre:Int)<=24 by omega),A0 hl,A0 hd,A1 (show ¬ (st.inn.length:Int)>1100 by omega),e6];simp only [C3,A3,bO,bSl,e7];by_cases h1:st.pre<24
  · have hi:st.inn.length=0:=by rw [h.emp (.inl h1)];rfl
    rw [A0 (show (st.pre:Int)<24 by omega),A1 (show ¬ (st.inn.length:Int)>0 by omega)];simp only [A8,A3];by_cases h2:st.dead>0
    · obtain ⟨g1,g2⟩:=h.gone (by omega)
      have g3:st.m.strs.length=0:=by rw [g1];rfl
      rw [A0 h2,A1 (show ¬ (st.m.strs.length:Int)>0 by omega),A0 g2];rfl
    · rw [A1 h2];rfl
  · rw [A1 (show ¬ (st.pre:Int)<24 by omega)]
    by_cases h2:st.dead>0
    · have hi:st.inn.length=0:=by rw [h.emp (.inr (by omega))];rfl
      obtain ⟨g1,g2⟩:=h.gone (by omega);have g3:st.m.strs.length=0:=by rw [g1];rfl
      rw [A0 h2,A1 (show ¬ (st.inn.length:Int)>0 by omega),A1 (show ¬ (st.m.strs.length:Int)>0 by omega),A0 g2];rfl
    · rw [A1 h2];rfl
theorem D74(F T:List Int)(h1:F.length<=10000000000)(h2:T.length<=10000000000):A19 [F,T]=some (F++T,()):=by
  have r0:rd (.sl 5 (.int .u8)) ([F,T]:List (List Int)) 0=F:=rfl;have r1:rd (.sl 5 (.int .u8)) ([F,T]:List (List Int)) 1=T:=rfl;have hl:(([F,T]:List (List Int)).length:Int)=2:=rfl;have d0:decide ((0:Int)<2)=true:=rfl;have d1:decide ((0:Int)<=0)=true:=rfl;have d2:decide ((1:Int)<2)=true:=rfl;have d3:decide ((0:Int)<=1)=true:=rfl;have a1:F4 (A0U [F,T]) (0,0,())=some ((F.length:Int)+T.length,()):=by
    rw [A55 (y:=((F.length:Int),1,())) (by
      simp only [A0U,hl,r0,d0,d1,A8,C1g];rw [w64 (n:=(F.length:Int)) (by omega) (by omega),A1 (p:=(F.length:Int)<0) (by omega)];rfl)]
    rw [A55 (y:=((F.length:Int)+T.length,2,())) (by
      simp only [A0U,hl,r1,d2,d3,A8];rw [w64 (n:=(F.length:Int)+T.length) (by omega) (by omega),A1 (p:=(F.length:Int)+T.length<0) (by omega)];rfl)]
    rw [G8];rfl
  have a2:C23 ([]:List Int) ((F.length:Int)+T.length)=some ([],()):=by
    have:(([]:List Int).isEmpty&&decide (0<=(F.length:Int)+T.length)&&decide ((F.length:Int)+T.length<=1000000000000))=true:=by
      rw [A0 (by omega),A0 (by omega)];rfl
    simp only [C23,this,A8]
  have a3:F4 (A0V [F,T]) (0,[],())=some (F++T,()):=by
    rw [A55 (y:=(1,F,())) (by
      simp only [A0V,hl,r0,d0,d1,A8];rw [gA (by simp;omega)];rfl)]
    rw [A55 (y:=(2,F++T,())) (by
      simp only [A0V,hl,r1,d2,d3,A8];rw [gA (by omega)];rfl)]
    rw [G8];rfl
  simp only [A19,A33,a1,A5];rw [show A3w=C23 from rfl,a2];exact a3
def O3:List Int->Nat->Int×Nat×List Int
  | [],p=>(0,p,[])
  | x::xs,p=>if p<24 then (if x=bt priS (p:Int) then O3 xs (p+1) else (1,p,[])) else (0,p,x::xs)
theorem D5e:∀ (xs:List Int) (p:Nat),p<=24->(O3 xs p).2.1<=24/\(O3 xs p).2.2.length<=xs.length/\((O3 xs p).1=0\/(O3 xs p).1=1)/\(∀ x∈(O3 xs p).2.2,x∈xs)/\((O3 xs p).2.1<24->(O3 xs p).2.2 = [])
  | [],p,h=>⟨h,by simp [O3],.inl rfl,fun x hx=>by simp [O3] at hx,fun _=>rfl⟩
  | x::xs,p,h=>by
    unfold O3;by_cases hp:p<24
    · rw [A6 hp]
      by_cases hx:x=bt priS (p:Int)
      · rw [A6 hx]
        obtain ⟨a,b,c,d,e⟩:=D5e xs (p+1) (by omega);exact ⟨a,by simp only [F0];omega,c,fun y hy=>B6 _ (d y hy),e⟩
      · rw [A4 hx]
        exact ⟨h,by simp,.inr rfl,(fun y hy=>by cases hy),fun _=>rfl⟩
    · rw [A4 hp]
      exact ⟨h,C1 _,.inl rfl,fun y hy=>hy,fun q=>absurd q hp⟩
theorem C7v(inn:List Int)(m:HM):∀ (xs:List Int) (p:Nat),p<=24->S0 ⟨p,inn,0,m⟩ xs=if (O3 xs p).1=0 then S0 ⟨(O3 xs p).2.1,inn,0,m⟩ (O3 xs p).2.2 else B5j (O3 xs p).2.1 m 1
  | [],p,_=>by simp [O3]
  | x::xs,p,h=>by
    have e:S0 ⟨p,inn,0,m⟩ (x::xs)=S0 (A3K ⟨p,inn,0,m⟩ x) xs:=rfl;unfold O3;by_cases hp:p<24
    · rw [A6 hp,e]
      by_cases hx:x=bt priS (p:Int)
      · have e2:A3K ⟨p,inn,0,m⟩ x=⟨p+1,inn,0,m⟩:=by
          unfold A3K;rw [A4 (by simp),A6 hp,A6 hx]
        rw [A6 hx,e2];exact C7v inn m xs (p+1) (by omega)
      · have e2:A3K ⟨p,inn,0,m⟩ x=B5j p m 1:=by
          unfold A3K;rw [A4 (by simp),A6 hp,A4 hx]
        rw [A4 hx,e2,A8k _ (by simp [B5j])];rfl
    · rw [A4 hp]
      rfl
section
variable (enc:D6)
theorem D2s(inn:List Int)(dead:Int)(m:HM):∀ (xs:List Int) (p:Nat),p<=24->Byt xs->xs.length<=1000000000->R4 (mkH (p:Int) inn enc dead m) xs=some ((O3 xs p).2.2,(O3 xs p).1,mkH ((O3 xs p).2.1:Int) inn enc dead m,())
  | [],p,h,_,_=>by
    simp only [R4,W6];rw [G8];simp only [A09,M3,show decide (((0:Nat):Int)>0)=false from rfl,A3,bSr];rfl
  | x::xs,p,h,hb,hl=>by
    have d1:decide ((((x::xs).length:Nat):Int)>0)=true:=A0 (by simp only [F0];omega);have d2:decide ((0:Int)<(((x::xs).length:Nat):Int))=true:=A0 (by simp only [F0];omega);have d3:decide ((1:Int)<=(((x::xs).length:Nat):Int))=true:=A0 (by simp only [F0];omega);have e0:rd (.int .u8) (x::xs) 0=x:=rfl;have ht:((x::xs).take (x::xs).length).drop 1=xs:=by rw [A2g];rfl
    unfold O3;by_cases hp:p<24
    · have d4:decide ((p:Int)<24)=true:=A0 (by omega)
      have d5:decide ((0:Int)<=(p:Int))=true:=A0 (by omega);have d6:decide ((p:Int)<(priS.size:Int))=true:=A0 (by rw [show priS.size=24 from rfl];omega);rw [A6 hp];by_cases hx:x=bt priS (p:Int)
      · have w1:i64.wrap ((p:Int)+1)=((p+1:Nat):Int):=by rw [w64 (by omega) (by omega)];omega
        rw [A6 hx,<- D2s inn dead m xs (p+1) (by omega) (fun y hy=>hb y (B6 _ hy)) (by simp only [F0] at hl;omega)];simp only [R4,W6]
        conv=>lhs;rw [G8]
        simp only [A09,d1,d2,d3,d4,d5,d6,A8,bSl,e0,A0 hx,C3,A3,ht,w1]
      · rw [A4 hx]
        simp only [R4,W6];rw [G8];simp only [A09,d1,d2,d3,d4,d5,d6,A8,bSl,e0,A1 hx,J1,bSr]
    · have d4:decide ((p:Int)<24)=false:=A1 (by omega)
      rw [A4 hp];simp only [R4,W6];rw [G8];simp only [A09,d1,d4,A8,A3,bSr];rfl
abbrev frL(a:Int)(pre:Int)(inn:List Int)(dead:Int)(m:HM):Int×Int×Int×Bool×Int×Int×Int×Int×List Int×List Int×List B1×List B1×List L7×List N3×List Int×Unit:=
  (a,pre,m.g.1,m.g.2.1,m.dec.1,enc.1,m.last,dead,inn,m.g.2.2,m.dec.2,enc.2,m.strs,m.calls,m.out,())
theorem C5B(pre:Int)(inn:List Int)(dead:Int)(b:List Int)(hb:Byt b)(hl:b.length<=1000000000):∀ (k a:Nat) (m:HM),a<=b.length->b.length<a+k->HI m->m.calls.length<=a->m.out.length<=1100*a->
    F4 (A7B A4N A2a H1 b) (frL enc (a:Int) pre inn dead m) =
      some ((D2r k m (b.drop a)).1,mkH pre (if (D2r k m (b.drop a)).1=0 then (D2r k m (b.drop a)).2.2 else inn) enc dead (D2r k m (b.drop a)).2.1,())
  | 0,a,m,ha,hk,_,_,_=>by omega
  | k+1,a,m,ha,hk,hi,hc,ho=>by
    have e1:=B5F b hb (by omega) (a:Int) (by omega);obtain ⟨g1,g2⟩:=B6g ha;rw [G8];simp only [A7B,e1,bO,g1];unfold D2r;rcases B8W (b.drop a) with c | c | c
    · obtain ⟨f1,f2,f3⟩:=g2 c
      have w:=B6h c;have hfi:=C4M (C2w hb a) c;have hfo:=E8a hi hfi;have e2:=E1b pre inn enc dead m hi ⟨by omega,by omega⟩ (A0A (b.drop a)) hfi;have e2':A2a ((pre,inn,(m.g.1,m.g.2.1,m.g.2.2),(m.dec.1,m.dec.2),(enc.1,enc.2),m.strs,m.last,dead),m.calls,m.out) (A0A (b.drop a))=some ((frM m (A0A (b.drop a))).1,mkH pre inn enc dead (frM m (A0A (b.drop a))).2,()):=e2;rw [c];simp only [show decide (((0:Nat):Int)=1)=false from rfl,show decide (((0:Nat):Int)=2)=false from rfl,A3,f1,f2,e2',bO];rw [A4 (show ¬ (0:Nat)=1 by omega),A4 (show ¬ (0:Nat)=2 by omega)];by_cases hr:(frM m (A0A (b.drop a))).1=0
      · rw [A0 hr,A4 (show ¬ (frM m (A0A (b.drop a))).1≠0 by simpa using hr)]
        have ih:=C5B pre inn dead b hb hl k (a+A2S (b.drop a)) (frM m (A0A (b.drop a))).2 f3 (by omega) (hfo.hi hr) (by have:=hfo.calls;omega) (by have:=hfo.out;omega);rw [S3];simp only [C3,A3];exact ih
      · rw [A1 hr,A6 (show (frM m (A0A (b.drop a))).1≠0 from hr)]
        simp only [J1,A8];rw [A4 hr]
    · rw [c]
      simp only [show decide (((1:Nat):Int)=1)=true from rfl,A8,M0];rw [A0 (show (0:Int)<=(a:Int) by omega),A0 (show (a:Int)<=(b.length:Int) by omega),A2g,D5,B11 _ (by simp;omega)];rfl
    · rw [c]
      simp only [show decide (((2:Nat):Int)=1)=false from rfl,show decide (((2:Nat):Int)=2)=true from rfl,A8,A3];rw [A4 (show ¬ (2:Nat)=1 by omega),A6 trivial];rfl
theorem D9M(pre:Nat)(inn:List Int)(m:HM)(code:Int)(ho:m.out.length<=100000000000000):A9W (mkH (pre:Int) inn enc 0 m) code=some (bsH enc (B5j pre m code),()):=by
  have e1:=B6e [] m.last 4 (by omega) (by simp);have e2:=B6e ([]++big (A8h m.last) 4) code 4 (by omega) (by simp [B1s]);rw [show ((4:Nat):Int)=4 from rfl] at e1 e2;have hg:=E41 m.last code;simp only [A9W,B54,B7T,B7S,e1,bO,e2];rw [C53 _ _ (by simp [B1s];omega)];rfl
theorem D2t(he:A1S enc){st:BS}(h:BI st)(hc:st.m.calls = [])(ho:st.m.out = []){b:List Int}(hb:Byt b)(hl:b.length<=900000000) :
    A2Q (bsC enc st) b=some (bsC enc (S0 st b),(S0 st b).m.calls,(S0 st b).m.out,()):=by
  have hsl:=h.hi.strs.1;have hdl:=A7v h.hi.dec;have hel:=A7v he;have hgl:=h.hi.g;have hil:=C4O h.more;have hcp:=D0D (bsC enc st) ⟨by simp only;omega,(by rcases hgl with ⟨_,_,q⟩ | ⟨_,_,q⟩;(simp only [q];simp);(simp only;omega)),by simp only;omega,by simp only;omega,by simp only;omega,fun x hx=>by have:=(h.hi.strs.2.2 x hx).2.2.2.2;omega⟩;obtain ⟨pre,inn,dead,m⟩:=st;simp only at hc ho hcp;simp only [A2Q,B1b,hcp,bO];have hd:=h.dead;by_cases h0:dead=0
  · subst h0
    have hck:=D45 he h;simp only [bsC] at hck;simp only [show decide ((0:Int)>0)=false from rfl,A3,hck,bO,C3,bSl];have es:=D2s enc inn 0 m b pre h.pre hb (by omega);simp only [mkH,hc,ho] at es;rw [es];simp only [bO];obtain ⟨s1,s2,s3,s4,s5⟩:=D5e b pre h.pre;rw [C7v inn m b pre h.pre];rcases s3 with s3 | s3
    · rw [s3,D74 inn _ (by simp only at hil;omega) (by omega)]
      simp only [R1,A8,bO,M0,A9U,A9T];have hB:Byt (inn++(O3 b pre).2.2):=D6a h.inb fun y hy=>hb y (s4 y hy)
      have hBl:(inn++(O3 b pre).2.2).length<=1000000000:=by rw [B0];simp only at hil;omega
      have el:=C5B enc ((O3 b pre).2.1:Int) inn 0 (inn++(O3 b pre).2.2) hB hBl ((inn++(O3 b pre).2.2).length+1) 0 m (by omega) (by omega) h.hi (by rw [hc];simp) (by rw [ho];simp);simp only [frL,hc,ho] at el;rw [show ((0:Nat):Int)=0 from rfl,Q4] at el;rw [el];simp only [bO];have key:S0 ⟨(O3 b pre).2.1,inn,0,m⟩ (O3 b pre).2.2=D5d (O3 b pre).2.1 (D2r ((inn++(O3 b pre).2.2).length+1) m (inn++(O3 b pre).2.2)):=by
        by_cases hp:(O3 b pre).2.1<24
        · have hr:=s5 hp
          rw [hr];have hi0:inn = []:=by
            refine h.emp (.inl ?_);have:pre<=(O3 b pre).2.1:=by
              have:∀ (xs:List Int) (p:Nat),p<=(O3 xs p).2.1:=by
                intro xs
                induction xs with
                | nil=>intro p;exact C1 _
                | cons x xs ih=>
                  intro p;unfold O3;split
                  · split
                    · have:=ih (p+1);omega
                    · exact C1 _
                  · exact C1 _
              exact this b pre
            simp only;omega
          subst hi0;rfl
        · exact D9K _ hp _ (O3 b pre).2.2 inn m (by rw [B0];omega) h.more
      rw [key];have hbi:=(C4N (st:=⟨(O3 b pre).2.1,inn,0,m⟩) (b:=(O3 b pre).2.2) ⟨s1,h.hi,h.inb,h.more,(fun q=>h.emp (by
        rcases q with q | q
        · left
          have:∀ (xs:List Int) (p:Nat),p<=(O3 xs p).2.1:=by
            intro xs
            induction xs with
            | nil=>intro p;exact C1 _
            | cons x xs ih=>
              intro p;unfold O3;split
              · split
                · have:=ih (p+1);omega
                · exact C1 _
              · exact C1 _
          have:=this b pre;simp only at q ⊢;omega
        · exact absurd rfl q)),(fun q=>absurd rfl q),by simp⟩ fun y hy=>hb y (s4 y hy)).2.2
      rw [key] at hbi;unfold D5d at hbi ⊢;generalize D2r ((inn++(O3 b pre).2.2).length+1) m (inn++(O3 b pre).2.2)=R at hbi ⊢;by_cases hR:R.1=0
      · rw [A6 hR,A6 hR,A0 hR]
        rfl
      · rw [A4 hR,A4 hR,A1 hR]
        rw [A4 hR] at hbi;have ee:=D9M enc (O3 b pre).2.1 inn R.2.1 R.1 (by
          simp only [B5j,B0,ho,M3] at hbi;omega)
        simp only [mkH,mkC] at ee;simp only [J1,A8,mkH,mkC,ee,bO]
    · rw [s3]
      simp only [show decide ((1:Int)=0)=false from rfl,A3,bO,J1,A8];have ee:=D9M enc (O3 b pre).2.1 inn m 1 (by rw [ho];simp);simp only [mkH,mkC,hc,ho] at ee;rw [ee];rfl
  · have hp:dead>0:=by simp only at hd;omega
    rw [A0 hp];simp only [A8,bSr];rw [A8k _ h0];simp only [hc,ho]
end
set_option maxRecDepth 100000
set_option maxRecDepth 100000
def CI(cs:List N3):Prop:=∀ c∈cs,c.2.2.1.length<=2000
theorem E42{cs:List N3}(h:CI cs){c:N3}(hc:c.2.2.1.length<=2000):CI (cs ++ [c]):=fun x hx=>by
  rcases D9.1 hx with q | q
  · exact h x q
  · rcases B2.1 q with rfl;exact hc
theorem D5f{m:HM}(h:CI m.calls){s:L7}(hs:s.2.2.2.length<=2000):CI (A5F m s).calls:=by
  unfold A5F;split
  · exact E42 h hs
  · exact h
theorem D9N{m:HM}(h:CI m.calls){i:Nat}(hs:(sAt m.strs i).2.2.2.length<=2000)(ev:Int):CI (A9r m i ev).2.calls:=by
  unfold A9r;split
  · exact h
  · split
    · exact h
    · exact D5f (m:=A1t m i _) h hs
theorem E5V{m:HM}(hi:HI m)(h:CI m.calls)(id:Int)(fin:Bool)(b:List Int):CI (B7g m id fin b).2.calls:=by
  unfold B7g;split
  · exact h
  · split
    · rename_i hh
      have hlt:=B1t hh;have hst:=(hi.strs.2.2 _ (F3 hlt.1)).2.2.2.2;rw [<- A3r hlt.1] at hst;exact D9N (m:={m with dec:=(O2 m.dec 4096 b).2.1}) h hst _
    · unfold C98
      split
      · exact h
      · split
        · exact h
        · split
          · exact E42 h (by simp)
          · exact D5f (m:={m with dec:=(O2 m.dec 4096 b).2.1,last:=id,strs:=m.strs ++ [(id,(if fin then 2 else 1),(A46 (O2 m.dec 4096 b).1).1,[])]}) h (by simp)
theorem F1C{m:HM}(hi:HI m)(h:CI m.calls){f:F6}(hf:FrI f):CI (frM m f).2.calls:=by
  have hu:CI (D2n m f).2.calls:=by unfold D2n;split<;>exact h
  have ha:∀ b,CI (D0S m f b).calls:=fun b=>by unfold D0S;cases A2k f 1<;>exact h
  have hr:=D72 f;unfold frM;by_cases c2:fcV f=2
  · rw [A6 c2];exact h
  rw [A4 c2];by_cases c3:fcV f=3
  · rw [A6 c3];exact h
  rw [A4 c3];have hc:fcV f=0:=by omega
  by_cases k:m.g.1≠0\/f.1=1\/f.1=9
  · rw [A6 k]
    have hok:=C7s hi.g hi.gb hf (by by_cases h1:f.1=1;exact .inl (D17 hc h1);exact .inr h1);unfold C5A;split
    · exact h
    · split
      · exact h
      · split
        · exact E5V (m:={m with g:=(P9 m.g f).1}) ⟨hi.strs,hi.last,hi.dec,hok.1,hok.2.1⟩ h _ _ _
        · exact h
  rw [A4 k];split
  · exact ha _
  · split
    · exact ha _
    · split
      · exact h
      · split
        · split<;>exact h
        · split
          · unfold C36
            split
            · rename_i hh
              have hlt:=B1t hh;split
              · exact h
              · split
                · exact h
                · rename_i hq
                  refine D9N (m:=A1t m _ _) h ?_ _;simp only [A1t];rw [A3r (by simpa using hlt.1),A1E];simp only [B0];omega
            · exact hu
          · split
            · unfold C0a
              split
              · exact h
              · exact hu
            · exact h
theorem E8b{st:BS}(h:BI st)(hc:CI st.m.calls){x:Int}(hx:0<=x/\x<256):CI (A3K st x).m.calls:=by
  unfold A3K;split
  · exact hc
  · split
    · split<;>exact hc
    · rename_i hp
      by_cases c1:codeF (st.inn ++ [x])=1
      · rw [A6 c1];exact hc
      rw [A4 c1];by_cases c2:codeF (st.inn ++ [x])=2
      · rw [A6 c2];exact hc
      rw [A4 c2];have c0:codeF (st.inn ++ [x])=0:=by have:=B8W (st.inn ++ [x]);omega
      have:=F1C h.hi hc (C4M (D2p h.inb hx) c0);split<;>exact this
theorem D5g:∀ {b:List Int} {st:BS},BI st->Byt b->CI st.m.calls->CI (S0 st b).m.calls
  | [],st,h,_,hc=>hc
  | x::b,st,h,hb,hc=>by
    have hx:=hb x A9;have e:S0 st (x::b)=S0 (A3K st x) b:=rfl;rw [e];exact D5g (D2q h hx).1 (fun y hy=>hb y (B6 _ hy)) (E8b h hc hx)
set_option maxRecDepth 100000
theorem C38(f:F6):A7Q f=some (fcV f,()):=by
  have h1:A8c f=A12 f:=by
    rw [C7d f];simp only [A12,A5n,R5,bO,A45];cases decide (0<=f.1/\f.1<=255)<;>cases decide (0<=f.2.1/\f.2.1<=255)<;>cases decide (0<=f.2.2.1/\f.2.2.1<=2147483647)<;>rfl
  have h2:C0F f=A1n f:=by
    have e:decide (W9 .i64 f.2.1 1=0)=!A2k f 1:=by unfold A2k;rw [C8W]
    simp only [C0F,C61,A1n,A8B,A7U,bO,e];by_cases c2:f.1=2
    · rw [A0 c2];rfl
    rw [A1 c2];by_cases c3:f.1=3
    · rw [A0 c3];rfl
    rw [A1 c3];by_cases c8:f.1=8
    · rw [A0 c8];rfl
    rw [A1 c8];by_cases c6:f.1=6
    · rw [A0 c6];rfl
    rw [A1 c6];by_cases c7:f.1=7
    · rw [A0 c7,A1 (show ¬ f.1=4 by omega)];rfl
    rw [A1 c7];cases decide (f.1=4)<;>cases decide ((f.2.2.2.length:Int).tmod 6=0)<;>cases decide ((f.2.2.2.length:Int)=0)<;>cases A2k f 1<;>rfl
  rw [<- A47 f];simp only [A7Q,B7W,T1,A3a,h1,h2]
theorem E8c(f:F6):(A5 (bif (decide (f.1=1)) then some ((!decide ((W9 .i64 f.2.1 32)=0)),()) else some (false,())) fun (m2:Bool×Unit)=>some (m2.1,()))=some (decide (C0W f=5),()):=by
  unfold C0W;by_cases h:f.1=1
  · rw [A0 h,A6 h,A8,bO,show (!decide (W9 .i64 f.2.1 32=0))=A2k f 32 from rfl]
    cases A2k f 32<;>rfl
  · rw [A1 h,A4 h];rfl
theorem E8d(b:List Int)(a m:Int)(ha:a=0\/a=5)(hm:0<=m)(hl:b.length<=1000000)(c:List Int)(hc:(c.length:Int)=(b.length:Int)-m)(e:c=b.take ((b.length:Int)-m).toNat) :
    (bif decide (a=5) then bif (decide ((c.length:Int)<5)) then some (([]:List Int),false,()) else bif decide (5<=(c.length:Int)) then bif decide (([]:List Int).length+((c.take c.length).drop 5).length<=9223372036854775807) then bif decide ((([]:List Int).length+((c.take c.length).drop 5).length)*1<=140737488355328) then some (([]++((c.take c.length).drop 5)),true,()) else none else none else none else bif decide (([]:List Int).length+c.length<=9223372036854775807) then bif decide ((([]:List Int).length+c.length)*1<=140737488355328) then some (([]++c),true,()) else none else none)=some ((C7r b a m).1,(C7r b a m).2,()):=by
  unfold C7r;rw [gA (by simp;omega),gA (by simp;omega),A2g];rcases ha with rfl | rfl
  · rw [A1 (by omega),A3,A4 (by omega),<- e]
    rfl
  · rw [A0 rfl,A8]
    by_cases h:(c.length:Int)<5
    · rw [A0 h,A6 (by omega)];rfl
    · rw [A1 h,A4 (by omega),A0 (show (5:Int)<=(c.length:Int) by omega),<- e]
      rfl
theorem D2u{f:F6}(hf:FrI f):B8P f=some ((A8K f).1,(A8K f).2,()):=by
  have hr:C0W f=0\/C0W f=5:=by
    unfold C0W;split
    · cases A2k f 32<;>simp
    · simp
  have hn:=hf.n;have hu:∀ {R:Type} (K:Bool×Unit->Option R),A5 (bif (decide (f.1=1)) then some ((!decide ((W9 .i64 f.2.1 32)=0)),()) else some (false,())) K=K (decide (C0W f=5),()):=fun K=>by
    have h:=E8c f;generalize (bif (decide (f.1=1)) then some ((!decide ((W9 .i64 f.2.1 32)=0)),()) else some (false,()))=X at *
    cases X with
    | none=>cases h
    | some x=>
      obtain ⟨x,u⟩:=x;simp only [bO,F9,A5C] at h;rw [h.1,bO]
  simp only [B8P,C8u,hu,show (!decide (W9 .i64 f.2.1 8=0))=A2k f 8 from rfl];unfold A8K;cases A2k f 8
  · simp only [A3,bSl,bO]
    exact E8d f.2.2.2 (C0W f) 0 hr (by omega) (by omega) f.2.2.2 (by omega) (by rw [show ((f.2.2.2.length:Int)-0).toNat=f.2.2.2.length by omega,A2g])
  · simp only [A8]
    by_cases h0:f.2.2.2.length=0
    · rw [A0 (show (f.2.2.2.length:Int)=0 by omega),A6 h0];rfl
    · have h1:=B2t hf.b (show 0<f.2.2.2.length by omega)
      rw [show ((0:Nat):Int)=0 from rfl] at h1;rw [A1 (show ¬ (f.2.2.2.length:Int)=0 by omega),A4 h0,A0 (show (0:Int)<(f.2.2.2.length:Int) by omega),h1.1,w64 (n:=(byN f.2.2.2 0:Int)) (by omega) (by omega),w64 (n:=(f.2.2.2.length:Int)-1) (by omega) (by omega),w64 (n:=(f.2.2.2.length:Int)-(byN f.2.2.2 0:Int)) (by omega) (by omega)];by_cases h2:(byN f.2.2.2 0:Int)>(f.2.2.2.length:Int)-1
      · rw [A0 h2]
        have:C7r (f.2.2.2.drop 1) (C0W f) (byN f.2.2.2 0:Int)=([],false):=by
          unfold C7r;rw [A6 (by rw [C9];omega)]
        rw [this];rfl
      · rw [A1 h2,A0 (show (1:Int)<=(f.2.2.2.length:Int)-(byN f.2.2.2 0:Int) by omega),A0 (show (f.2.2.2.length:Int)-(byN f.2.2.2 0:Int)<=(f.2.2.2.length:Int) by omega)]
        simp only [A3,A8,bSl,bO];exact E8d (f.2.2.2.drop 1) (C0W f) (byN f.2.2.2 0:Int) hr (by omega) (by simp;omega) _ (by rw [C9,C9,B4];omega) (by rw [A2s];congr 1;rw [C9];omega)
theorem D0T{g:I1}(h:GaI g):A2A g=some (true,()):=by
  simp only [A2A,A9a,A1A,bO];rcases h with ⟨h1,h2,h3⟩ | ⟨h1,h2,h3⟩
  · rw [A0 h1,h2,h3];rfl
  · rw [A1 (show ¬ g.1=0 by omega),A0 (show 1<=g.1/\g.1<=2147483647 from ⟨h1,h2⟩),A0 (show (g.2.2.length:Int)<=3000 by omega)]
    rfl
theorem E5W{g:I1}(hg:GaI g){f:F6}(hf:FrI f):C7b g f=some ((P9 g f).1,(P9 g f).2.1,(P9 g f).2.2,()):=by
  have hl:=hg.len;have hn:=hf.n;have hcp:=D5P g (by omega);have hin:(bif (decide (g.1>0)) then bif (!decide (f.1=9)) then some (true,()) else bif (!decide (f.2.2.1=g.1)) then some (true,()) else bif (decide (g.1=0)) then some ((decide (f.1=9)),()) else some (false,()) else bif (decide (g.1=0)) then some ((decide (f.1=9)),()) else some (false,()))=some (!A8L g f,()):=by
    unfold A8L;rcases hg with ⟨h1,h2,h3⟩ | ⟨h1,h2,h3⟩
    · rw [A1 (show ¬ g.1>0 by omega),A0 h1,A6 h1,C8W];rfl
    · rw [A0 (show g.1>0 by omega),A1 (show ¬ g.1=0 by omega),A4 (show ¬ g.1=0 by omega)]
      cases decide (f.1=9)<;>cases decide (f.2.2.1=g.1)<;>rfl
  simp only [C7b,D29,D0T hg,C38,hcp,D2u hf,bO,C3,A3,hin,show ∀ k,(!decide (W9 .i64 f.2.1 k=0))=A2k f k from fun _=>rfl];unfold P9;cases decide (fcV f=0)
  case false=>rfl
  cases A8L g f
  case false=>rfl
  simp only [C3,A3,bO,bSl,Bool.or_self];unfold D5c;by_cases h1:f.1=1
  · rw [A0 h1,A6 h1]
    simp only [A8];cases hu:(A8K f).2 with
    | false=>rfl
    | true=>
      simp only [C3,A3,bSl,A8R,L5];unfold B5H;by_cases h3:((A8K f).1.length:Int)>3000
      · rw [A0 h3,A6 h3];rfl
      · rw [A1 h3,A4 h3]
        cases A2k f 4<;>rfl
  · rw [A1 h1,A4 h1]
    simp only [A3];by_cases h9:f.1=9
    · rw [A0 h9,A6 h9,gA (by omega)]
      simp only [A8,bSl];unfold B5H;by_cases h3:((g.2.2++f.2.2.2).length:Int)>3000
      · rw [A0 h3,A6 h3];rfl
      · rw [A1 h3,A4 h3]
        cases A2k f 4<;>rfl
    · rw [A1 h9,A4 h9];rfl
theorem E8e(ev:Int):ev=1\/ev=2\/ev=3\/ev=4\/ev=5\/ev=6\/ev=7\/ev=8\/ev=9\/ev=10\/¬ (1<=ev/\ev<=10):=by omega
theorem E5a(st ev:Int):A9d st ev=some ((stV st ev).1,(stV st ev).2,()):=by
  rw [<- D5a];simp only [A9d,B58,A08,A9P,A1A,R5,bO];rcases E8e ev with rfl | rfl | rfl | rfl | rfl | rfl | rfl | rfl | rfl | rfl | h
  case inr.inr.inr.inr.inr.inr.inr.inr.inr.inr=>rw [A1 h];rfl
  all_goals
    by_cases h4:st=4
    · subst h4;rfl
    · rw [A1 h4]
      cases decide (st=0)<;>cases decide (st=1)<;>cases decide (st=2)<;>cases decide (st=3)<;>rfl
set_option maxRecDepth 100000
def F1a(c n:Nat):Int:=match B2S c n with
  | some j=>if j<256 then (j:Int) else -1
  | none=>-1
theorem D0I(c n:Nat):∀ (k i:Nat),i+k=256->F4 (B3p lensT (n:Int) codesT (c:Int)) ((i:Int),())=some ((match fdC (k+1) i (c:Int) (n:Int) with
  | some j=>if j<256 then (j:Int) else -1
  | none=>-1),())
  | 0,i,h=>by
    have hi:i=256:=by omega
    subst hi;rw [G8];have h1:¬ (((256:Nat):Int)<=255):=by omega
    simp only [B3p,A1 h1,A3];unfold fdC fdC;by_cases hc:codesT.getD 256 0=(c:Int)/\lensT.getD 256 0=(n:Int)
    · rw [A6 hc];rfl
    · rw [A4 hc]
  | k+1,i,h=>by
    rw [G8];have h1:(i:Int)<=255:=by omega
    have h2:(0:Int)<=(i:Int):=by omega
    have hl:=A0t;have hc:=A8J;have h3:(i:Int)<(lensT.length:Int):=by omega
    have h4:(i:Int)<(codesT.length:Int):=by omega
    have e1:rd (.int .i64) lensT (i:Int)=lensT.getD i 0:=by
      rw [C2u (show i<lensT.length by omega)];simp [List.getD,C8 (show i<lensT.length by omega)]
    have e2:rd (.int .i64) codesT (i:Int)=codesT.getD i 0:=by
      rw [C2u (show i<codesT.length by omega)];simp [List.getD,C8 (show i<codesT.length by omega)]
    have w:i64.wrap ((i:Int)+1)=((i+1:Nat):Int):=by rw [w64 (by omega) (by omega)];omega
    have ih:=D0I c n k (i+1) (by omega);simp only [B3p,A0 h1,A0 h2,A0 h3,A0 h4,A8,e1,e2,w];rw [fdC];by_cases q1:lensT.getD i 0=(n:Int)
    · rw [A0 q1]
      by_cases q2:codesT.getD i 0=(c:Int)
      · rw [A0 q2,A6 ⟨q2,q1⟩]
        simp only [A8];rw [A6 (by omega)]
      · rw [A1 q2,A4 (fun q=>q2 q.1)]
        simp only [A8,A3];exact ih
    · rw [A1 q1,A4 (fun q=>q1 q.2)]
      simp only [A3];exact ih
theorem E5b(c n:Nat):A5q lensT codesT (n:Int) (c:Int)=some (F1a c n,()):=by
  have e:=D0I c n 256 0 rfl;rw [show ((0:Nat):Int)=0 from rfl] at e;simp only [A5q,C62,e];rfl
theorem D5h:∀ (n v i:Nat) (h:i<(Q8 n v).length),(Q8 n v)[i]=v.testBit (n-1-i)
  | 0,v,i,h=>by simp [Q8] at h
  | n+1,v,0,h=>by simp [Q8]
  | n+1,v,i+1,h=>by
    simp only [Q8,A4d];rw [D5h n v i]
    congr 1
    omega
theorem C7w:∀ (l:List Int) (i:Nat) (h:i<(J4 l).length) (h2:i / 8<l.length),(J4 l)[i]=(l[i / 8].toNat).testBit (7-i % 8)
  | [],i,h,h2=>by simp at h2
  | x::l,i,h,h2=>by
    have hc:=A56 x l;rw [C6q hc h];by_cases h8:i<8
    · have hd:i / 8=0:=by omega
      rw [P1 (by rw [A2b];exact h8),D5h];simp only [hd,C1b]
      congr 1
      omega
    · rw [M5 (by rw [A2b];omega)]
      simp only [A2b];have hd:i / 8=(i-8) / 8+1:=by omega
      have hl:(J4 (x::l)).length=8+(J4 l).length:=by rw [hc,B0,A2b]
      have hb:=A0h l;rw [C7w l (i-8) (by omega) (by omega)];simp only [hd,A4d]
      congr 1
      omega
theorem D5i{st st':RdS}{x:Bool}(h:RdG st)(e:A1D st x=some st'):RdG st'/\st'.2.2.length<=st.2.2.length+1:=by
  unfold A1D at e;have hx:x.toNat<=1:=by cases x<;>simp
  have hp:2*st.1+x.toNat<2 ^ (st.2.1+1):=by have:=h.1;rw [A4g];omega
  by_cases h30:st.2.1+1>30
  · rw [A6 h30] at e;cases e
  rw [A4 h30] at e;cases hj:B2S (2*st.1+x.toNat) (st.2.1+1) with
  | none=>
    rw [hj] at e;simp only [F9] at e;subst e;exact ⟨⟨hp,by simp only;omega⟩,by simp⟩
  | some j=>
    rw [hj] at e;by_cases h256:j<256
    · simp only [A6 h256,F9] at e
      subst e;exact ⟨⟨by simp,by simp⟩,by simp⟩
    · simp only [A4 h256,F9] at e
      subst e;exact ⟨⟨hp,by simp only;omega⟩,by simp⟩
theorem C5C(a:List Int)(ha:Byt a)(hl:a.length<=1000000000):∀ (k i:Nat) (st:RdS),i+k=8*a.length->RdG st->st.2.2.length+k<=100000000000->
    F4 (A4S A5q a (lensT,()) (codesT,())) ((st.1:Int),(st.2.1:Int),(i:Int),st.2.2,()) =
      (if (A1T A1D ((J4 a).drop i) st).2 then some (.inr (⟨#[]⟩,false,())) else some (.inl (((A1T A1D ((J4 a).drop i) st).1.1:Int),((A1T A1D ((J4 a).drop i) st).1.2.1:Int),(A1T A1D ((J4 a).drop i) st).1.2.2,())))
  | 0,i,st,hi,hg,hlen=>by
    rw [G8];have h:¬ (i:Int)<i64.wrap (8*(a.length:Int)):=by rw [w64 (by omega) (by omega)];omega
    simp only [A4S,A1 h,A3];rw [A0q (by rw [A0h];omega)];rfl
  | k+1,i,st,hi,hg,hlen=>by
    have hbl:=A0h a;have hlt:i<(J4 a).length:=by omega
    have h8:i / 8<a.length:=by omega
    have hx:=ha _ (F3 h8);have h:(i:Int)<i64.wrap (8*(a.length:Int)):=by rw [w64 (by omega) (by omega)];omega
    have w1:i64.wrap ((i:Int).tdiv 8)=((i / 8:Nat):Int):=by
      rw [A0r (by omega),show (8:Int)=((8:Nat):Int) from rfl,<- B8t,w64 (by omega) (by omega)]
    have w2:i64.wrap (7-(i:Int).tmod 8)=((7-i % 8:Nat):Int):=by
      rw [B5e (by omega),show (i:Int) % 8=((i % 8:Nat):Int) by omega,w64 (by omega) (by omega)];omega
    have hr:rd (.int .u8) a ((i / 8:Nat):Int)=((a[i / 8].toNat:Nat):Int):=by rw [C2u h8];exact (A0v hx.1).symm
    have w3:i64.wrap ((a[i / 8].toNat:Nat):Int)=((a[i / 8].toNat:Nat):Int):=w64 (by omega) (by omega);have w4:i64.wrap ((st.2.1:Int)+1)=((st.2.1+1:Nat):Int):=by have:=hg.2;rw [w64 (by omega) (by omega)];omega
    have w5:i64.wrap ((i:Int)+1)=((i+1:Nat):Int):=by rw [w64 (by omega) (by omega)];omega
    have hbit:=E8M (x:=a[i / 8].toNat) (k:=7-i % 8) (by omega) (by omega);have hdrop:(J4 a).drop i=(a[i / 8].toNat).testBit (7-i % 8)::(J4 a).drop (i+1):=by rw [I5 hlt,C7w a i hlt h8]
    rw [hdrop];generalize (a[i / 8].toNat).testBit (7-i % 8)=x at *
    have hacc:=E8N hg.1 hg.2 x;rw [G8];have hu:¬ u64.wrap ((7-i % 8:Nat):Int)<0:=by
      simp only [IntKind.wrap,IntKind.bits,IntKind.signed];simp;omega
    simp only [A4S,A0 h,w1,w2,A8,A0 (show (0:Int)<=((i / 8:Nat):Int) by omega),A0 (show ((i / 8:Nat):Int)<(a.length:Int) by omega),A1 hu,A3,w4,hr,w3,hbit,hacc,E5b,w5,bO];have e0:A1T A1D (x::(J4 a).drop (i+1)) st=match A1D st x with
      | some st'=>A1T A1D ((J4 a).drop (i+1)) st'
      | none=>(st,true):=rfl
    rw [e0];by_cases h30:st.2.1+1>30
    · rw [A0 (show ((st.2.1+1:Nat):Int)>30 by omega)]
      have e1:A1D st x=none:=by unfold A1D;rw [A6 h30]
      rw [e1];rfl
    · rw [A1 (show ¬ ((st.2.1+1:Nat):Int)>30 by omega)]
      simp only [A3];have hgo:∀ st',A1D st x=some st'->F4 (A4S A5q a (lensT,()) (codesT,())) ((st'.1:Int),(st'.2.1:Int),((i+1:Nat):Int),st'.2.2,())=_:=fun st' e=>by
        have h2:=D5i hg e;exact C5C a ha hl k (i+1) st' (by omega) h2.1 (by omega)
      have hnf:∀ (e1:A1D st x=some (2*st.1+x.toNat,st.2.1+1,st.2.2)),F4 (A4S A5q a (lensT,()) (codesT,())) (((2*st.1+x.toNat:Nat):Int),((st.2.1+1:Nat):Int),((i+1:Nat):Int),st.2.2,())=_:=fun e1=>hgo _ e1
      unfold F1a;cases hj:B2S (2*st.1+x.toNat) (st.2.1+1) with
      | none=>
        have e1:A1D st x=some (2*st.1+x.toNat,st.2.1+1,st.2.2):=by unfold A1D;rw [A4 h30,hj]
        rw [e1];simp only [show decide ((-1:Int)>=0)=false from rfl,A3];exact hnf e1
      | some j=>
        by_cases h256:j<256
        · have e1:A1D st x=some (0,0,st.2.2 ++ [(j:Int)]):=by unfold A1D;rw [A4 h30,hj];simp only [A6 h256]
          rw [e1];have hw:u8.wrap (j:Int)=(j:Int):=D0F h256;simp only [A6 h256,A0 (show (j:Int)>=0 by omega),A8,hw];rw [gA (by simp;omega)];exact hgo _ e1
        · have e1:A1D st x=some (2*st.1+x.toNat,st.2.1+1,st.2.2):=by unfold A1D;rw [A4 h30,hj];simp only [A4 h256]
          rw [e1];simp only [A4 h256,show decide ((-1:Int)>=0)=false from rfl,A3];exact hnf e1
theorem D9O(a:List Int)(ha:Byt a)(hl:a.length<=500000000):C0M a=some (A4U a):=by
  have e:=C5C a ha (by omega) (8*a.length) 0 (0,0,[]) (by omega) ⟨by simp,by simp⟩ (by simp;omega);have e':F4 (A4S A5q a (lensT,()) (codesT,())) (0,0,0,[],())=_:=e;have hg:=(D2d A1D (fun st x st' h e=>D5i h e) (J4 a) (0,0,[]) ⟨by simp,by simp⟩).1;rw [Q4] at e';simp only [C0M,C63,D0A,D6c,bO,e'];have hok:=(E8J a ha).2;unfold A4U;have hR:A1T A1D (J4 a) (0,0,[])=B5G a:=rfl;rw [hR] at hg ⊢;by_cases hs:(B5G a).2=true
  · have:C4e a=false:=by unfold C4e;rw [hs];rfl
    rw [A6 hs,this];rfl
  · have hs':(B5G a).2=false:=by simpa using hs
    rw [A4 hs];simp only [bSl];by_cases h7:(B5G a).1.2.1<=7
    · rw [A1 (show ¬ ((B5G a).1.2.1:Int)>7 by omega),C7l (by omega)]
      have hu:¬ u64.wrap (((B5G a).1.2.1:Nat):Int)<0:=by
        simp only [IntKind.wrap,IntKind.bits,IntKind.signed];simp;omega
      rw [A1 hu];simp only [A3];by_cases hv:(B5G a).1.1=2 ^ (B5G a).1.2.1-1
      · have hk:C4e a=true:=by unfold C4e;rw [hs',A0 h7,A0 hv];rfl
        rw [A0 (show ((B5G a).1.1:Int)=((2 ^ (B5G a).1.2.1-1:Nat):Int) by rw [hv]),hk,hok hk];rfl
      · have hk:C4e a=false:=by unfold C4e;rw [hs',A0 h7,A1 hv];rfl
        rw [A1 (show ¬ ((B5G a).1.1:Int)=((2 ^ (B5G a).1.2.1-1:Nat):Int) by omega),hk];rfl
    · have hk:C4e a=false:=by unfold C4e;rw [hs',A1 h7];rfl
      rw [A0 (show ((B5G a).1.2.1:Int)>7 by omega),hk];rfl
set_option maxRecDepth 100000
theorem C39{b:List Int}(hb:Byt b)(hl:b.length<=500000000)(p:Nat)(hp:p<=1000000000):B1h b (p:Int)=some (M9 b p):=by
  have e0:=A9q hb hl p 7 hp (by omega);rw [show ((7:Nat):Int)=7 from rfl] at e0;simp only [B1h,B7b,e0,bO];unfold M9;by_cases h1:(C7 b p 7).2.2.1=false
  · rw [A6 h1,h1];rfl
  have h1':(C7 b p 7).2.2.1=true:=by simpa using h1
  obtain ⟨r1,r2,r3,r4⟩:=A1s b p 7 (by omega) h1';rw [A4 h1,h1',w64 (n:=(b.length:Int)-(C7 b p 7).2.1) (by omega) (by omega),w64 (n:=(C7 b p 7).2.1+(C7 b p 7).1) (by omega) (by omega)];simp only [C3,A3];by_cases h2:(C7 b p 7).1>4000
  · rw [A6 h2,A0 h2];rfl
  rw [A4 h2,A1 h2];by_cases h3:(C7 b p 7).1>(b.length:Int)-(C7 b p 7).2.1
  · rw [A6 h3,A0 h3];rfl
  obtain ⟨q1,q2⟩:=B2t hb (show p<b.length by omega);have e3:((C7 b p 7).2.1+(C7 b p 7).1).toNat=(C7 b p 7).2.1.toNat+(C7 b p 7).1.toNat:=by omega
  rw [A4 h3,A1 h3];simp only [A3,bSl];rw [A0 (show (0:Int)<=(C7 b p 7).2.1 by omega),A0 (show (C7 b p 7).2.1<=(C7 b p 7).2.1+(C7 b p 7).1 by omega),A0 (show (C7 b p 7).2.1+(C7 b p 7).1<=(b.length:Int) by omega),A0 (show (0:Int)<=(p:Int) by omega),A0 (show (p:Int)<(b.length:Int) by omega),q1,e3];simp only [A8];rw [show ((b.take ((C7 b p 7).2.1.toNat+(C7 b p 7).1.toNat)).drop (C7 b p 7).2.1.toNat)=B0U b (C7 b p 7).2.1.toNat (C7 b p 7).1.toNat from rfl,D9O _ (D5U hb _ _) (A4b (D5V _ _ _) hl)];simp only [bO];by_cases h4:byN b p<128
  · rw [A6 h4,A0 (show (byN b p:Int)<128 by omega)];rfl
  rw [A4 h4,A1 (show ¬ (byN b p:Int)<128 by omega)];simp only [A3];by_cases h5:(A4U (B0U b (C7 b p 7).2.1.toNat (C7 b p 7).1.toNat)).2.1=false
  · rw [A6 h5,h5];rfl
  rw [A4 h5,show (A4U (B0U b (C7 b p 7).2.1.toNat (C7 b p 7).1.toNat)).2.1=true by simpa using h5];by_cases h6:(((A4U (B0U b (C7 b p 7).2.1.toNat (C7 b p 7).1.toNat)).1.size:Int)>4000)
  · rw [A6 h6,A0 h6];rfl
  · rw [A4 h6,A1 h6];rfl
theorem D9P{b:List Int}(hb:Byt b)(hl:b.length<=500000000)(p m:Nat)(hp:p<=1000000000)(hm:1<=m/\m<=8){t:D6}(ht:A1S t) :
    ∃ x q,B1j t b (p:Int) (m:Int)=some (x,q,(A4n t b p m).1,())/\((A4n t b p m).1=0->x=(A4n t b p m).2.1/\q=((A4n t b p m).2.2:Int)):=by
  have htl:=A7v ht;have e0:=A9q hb hl p m hp hm;simp only [B1j,B7c,e0,bO];unfold A4n;by_cases h1:(C7 b p m).2.2.1=false
  · rw [A6 h1,h1]
    exact ⟨_,_,rfl,fun h=>by cases h⟩
  have h1':(C7 b p m).2.2.1=true:=by simpa using h1
  obtain ⟨r1,r2,r3,r4⟩:=A1s b p m hm.2 h1';have hq:(C7 b p m).2.1=(((C7 b p m).2.1.toNat:Nat):Int):=by omega
  have e1:=C39 hb hl (C7 b p m).2.1.toNat (by omega);rw [<- hq] at e1;rw [A4 h1,h1'];simp only [C3,A3];by_cases h2:(C7 b p m).1=0
  · rw [A6 h2,A0 h2]
    simp only [A8,e1,bO];by_cases h3:(M9 b (C7 b p m).2.1.toNat).2.2.1=false
    · rw [A6 h3,h3]
      exact ⟨_,_,rfl,fun h=>by cases h⟩
    have h3':(M9 b (C7 b p m).2.1.toNat).2.2.1=true:=by simpa using h3
    have r5:=A6j (C7 b p m).2.1.toNat h3';have hq2:(M9 b (C7 b p m).2.1.toNat).2.1=(((M9 b (C7 b p m).2.1.toNat).2.1.toNat:Nat):Int):=by omega
    have e2:=C39 hb hl (M9 b (C7 b p m).2.1.toNat).2.1.toNat (by omega);rw [<- hq2] at e2;rw [A4 h3,h3'];simp only [C3,A3,bSl,e2,bO];by_cases h4:(M9 b (M9 b (C7 b p m).2.1.toNat).2.1.toNat).2.2.1=false
    · rw [A6 h4,h4]
      exact ⟨_,_,rfl,fun h=>by cases h⟩
    have h4':(M9 b (M9 b (C7 b p m).2.1.toNat).2.1.toNat).2.2.1=true:=by simpa using h4
    have r6:=A6j (M9 b (C7 b p m).2.1.toNat).2.1.toNat h4';rw [A4 h4,h4'];exact ⟨_,_,rfl,fun _=>⟨rfl,by simp only;omega⟩⟩
  · rw [A4 h2,A1 h2]
    simp only [A3,C7n t (C7 b p m).1 (by omega) (by omega),bO];by_cases h5:(A1U t (C7 b p m).1).2.1=false
    · rw [A6 h5,h5]
      exact ⟨_,_,rfl,fun h=>by cases h⟩
    rw [A4 h5,show (A1U t (C7 b p m).1).2.1=true by simpa using h5];simp only [C3,A3,bSl,e1,bO];by_cases h3:(M9 b (C7 b p m).2.1.toNat).2.2.1=false
    · rw [A6 h3,h3]
      exact ⟨_,_,rfl,fun h=>by cases h⟩
    have h3':(M9 b (C7 b p m).2.1.toNat).2.2.1=true:=by simpa using h3
    have r5:=A6j (C7 b p m).2.1.toNat h3';rw [A4 h3,h3'];exact ⟨_,_,rfl,fun _=>⟨rfl,by simp only;omega⟩⟩
def E1c(c:Int)(l:List B1):Int:=if c=0 then (if (l.length:Int)>100 then 4 else 0) else c
theorem C9B(t:D6)(p:Nat)(l:List B1)(f:B1):E1c 0 (l ++ [f])=(B2T t p l f).1:=by
  unfold E1c B2T;rw [A6 rfl];simp only [B0,H0];by_cases h:100<l.length+1
  · rw [A6 h,A6 (by omega)]
  · rw [A4 h,A4 (by omega)]
theorem C0c{c:Int}(h:c≠0)(l:List B1):E1c c l=c:=A4 h
theorem E8f{t:D6}(ht:A1S t){f:B1}(h1:f.1.size<=10000)(h2:f.2.size<=10000):A4l t f=some (D6p t f,()):=by
  obtain ⟨q0,q1,q2⟩:=ht;obtain ⟨T,e1,e2,hT⟩:=F1A t f q0 (by omega) (by unfold ofF;omega);have hv:D6p t f=(t.1,T):=by unfold D6p;rw [e1]
  rw [hv];exact e2
theorem F0c{t:D6}(ht:A1S t):A2R t=some (true,()):=D95 ht
theorem E8g{t:D6}(ht:A1S t){n:Int}(h1:0<=n)(h2:n<=4096):A6d t n=some (D6q t n,()):=by
  have htl:=A7v ht;have htk:=F0c ht;obtain ⟨q0,q1,q2⟩:=ht;obtain ⟨k,e1,e2,_⟩:=E8B n t.2 h1 (by omega) (by omega);have hv:D6q t n=(n,t.2.take k):=by unfold D6q;rw [e1]
  rw [hv];simp only [A6d,B0u,B8S t (by omega),htk,A1A,A0 (show 0<=n/\n<=4096 from ⟨h1,h2⟩),bO,C3,A3,bSl,e2]
theorem E43{R:Type}{n:Nat}{X:Option R}(h:n<=1000000000000):(bif decide (n<=9223372036854775807) then bif decide (n*32<=140737488355328) then X else none else none)=X:=by
  rw [A0 (by omega),A0 (by omega)];rfl
theorem E8h{b:List Int}(hb:Byt b)(hl:b.length<=500000000)(most:Int)(hmost:0<=most/\most<=4096)(t:D6)(p:Nat)(l:List B1)(hk:RdK b t p l)(hp:p<b.length) :
    ∃ c t' q l',A0s (t,most,b,(p:Int),l)=some (c,(t',most,b,q,l'),())/\E1c c l' = (B2U b most t p l).1/\((B2U b most t p l).1=0->t' = (B2U b most t p l).2.1/\q=((B2U b most t p l).2.2.1:Int)/\l' = (B2U b most t p l).2.2.2):=by
  obtain ⟨ht,hpl,hll,hlf⟩:=hk;have htl:=A7v ht;obtain ⟨q1,q2⟩:=B2t hb hp;have e7:=A9q hb hl p 7 (by omega) (by omega);have e5:=A9q hb hl p 5 (by omega) (by omega);rw [show ((7:Nat):Int)=7 from rfl] at e7;rw [show ((5:Nat):Int)=5 from rfl] at e5;simp only [A0s,A7C,q1,A0 (show (0:Int)<=(p:Int) by omega),A0 (show (p:Int)<(b.length:Int) by omega),A8];unfold B2U;by_cases h128:128<=byN b p
  · rw [A6 h128,A0 (show (byN b p:Int)>=128 by omega)]
    simp only [A8,e7,bO];by_cases h1:(C7 b p 7).2.2.1=false
    · rw [A6 h1,h1]
      exact ⟨_,_,_,_,rfl,C0c (by omega) _,fun h=>by cases h⟩
    have h1':(C7 b p 7).2.2.1=true:=by simpa using h1
    obtain ⟨r1,r2,r3,r4⟩:=A1s b p 7 (by omega) h1';rw [A4 h1,h1',C7n t (C7 b p 7).1 (by omega) (by omega)];simp only [C3,A3,bO];by_cases h2:(A1U t (C7 b p 7).1).2.1=false
    · rw [A6 h2,h2]
      exact ⟨_,_,_,_,rfl,C0c (by omega) _,fun h=>by cases h⟩
    rw [A4 h2,show (A1U t (C7 b p 7).1).2.1=true by simpa using h2,E43 (by simp;omega)];refine ⟨_,_,_,_,rfl,C9B _ _ _ _,fun _=>⟨rfl,?_,rfl⟩⟩;simp only [B2T];omega
  rw [A4 h128,A1 (show ¬ (byN b p:Int)>=128 by omega)];simp only [A3];by_cases h64:64<=byN b p
  · obtain ⟨x,q,e,hz⟩:=D9P hb hl p 6 (by omega) (by omega) ht
    rw [show ((6:Nat):Int)=6 from rfl] at e;rw [A6 h64,A0 (show (byN b p:Int)>=32 by omega),A1 (show ¬ (byN b p:Int)<64 by omega),A0 (show (byN b p:Int)>=64 by omega)];simp only [A8,A3,bSl,bO,e];by_cases hc:(A4n t b p 6).1=0
    · obtain ⟨z1,z2⟩:=hz hc
      have hsz:=D16 ht (by omega) hc;subst z1 z2;rw [A6 hc,A0 hc];simp only [C3,A3,E8f ht hsz.1 hsz.2.1,bO];rw [E43 (by simp;omega)];exact ⟨_,_,_,_,rfl,C9B _ _ _ _,fun _=>⟨rfl,rfl,rfl⟩⟩
    · rw [A4 hc,A1 hc]
      exact ⟨_,_,_,_,rfl,C0c hc _,fun h=>absurd h hc⟩
  rw [A4 h64];by_cases h32:32<=byN b p
  · rw [A6 h32,A0 (show (byN b p:Int)>=32 by omega),A0 (show (byN b p:Int)<64 by omega)]
    simp only [A8,A5s,A5r,e5,bO];by_cases h1:(C7 b p 5).2.2.1=false
    · rw [A6 h1,h1]
      exact ⟨_,_,_,_,rfl,C0c (by omega) _,fun h=>by cases h⟩
    have h1':(C7 b p 5).2.2.1=true:=by simpa using h1
    obtain ⟨r1,r2,r3,r4⟩:=A1s b p 5 (by omega) h1';rw [A4 h1,h1'];simp only [C3,A3];by_cases h2:(C7 b p 5).1>most
    · rw [A6 (.inl h2),A0 h2]
      exact ⟨_,_,_,_,rfl,C0c (by omega) _,fun h=>by cases h⟩
    rw [A1 h2];by_cases h3:0<l.length
    · rw [A6 (.inr h3),A0 (show (l.length:Int)>0 by omega)]
      exact ⟨_,_,_,_,rfl,C0c (by omega) _,fun h=>by cases h⟩
    rw [A4 (by omega),A1 (show ¬ (l.length:Int)>0 by omega)];simp only [A3,bSl,E8g ht r1 (by omega),bO];refine ⟨_,_,_,_,rfl,?_,fun _=>⟨rfl,?_,rfl⟩⟩
    · unfold E1c
      rw [A6 rfl,A4 (by omega)]
    · show (C7 b p 5).2.1=(((C7 b p 5).2.1.toNat:Nat):Int)
      omega
  · obtain ⟨x,q,e,hz⟩:=D9P hb hl p 4 (by omega) (by omega) ht
    rw [show ((4:Nat):Int)=4 from rfl] at e;rw [A4 h32,A1 (show ¬ (byN b p:Int)>=32 by omega),A1 (show ¬ (byN b p:Int)>=64 by omega)];simp only [A8,A3,bSl,bO,e];by_cases hc:(A4n t b p 4).1=0
    · obtain ⟨z1,z2⟩:=hz hc
      subst z1 z2;rw [A6 hc,A0 hc];simp only [C3,A3,bO];rw [E43 (by simp;omega)];exact ⟨_,_,_,_,rfl,C9B _ _ _ _,fun _=>⟨rfl,rfl,rfl⟩⟩
    · rw [A4 hc,A1 hc]
      exact ⟨_,_,_,_,rfl,C0c hc _,fun h=>absurd h hc⟩
theorem D5j{b:List Int}(hb:Byt b)(hl:b.length<=500000000)(most:Int)(hmost:0<=most/\most<=4096){t0:D6}(ht0:A1S t0):∀ (k:Nat) (t:D6) (p:Nat) (l:List B1),RdK b t p l->b.length<=p+k->
    ∃ m' b' q',F4 (A1C A8H A0s b t0) (t.1,t.2,most,b,(p:Int),l,())=(if (gfM b most k t p l).1=0 then some (.inl ((gfM b most k t p l).2.1.1,(gfM b most k t p l).2.1.2,m',b',q',(gfM b most k t p l).2.2,())) else some (.inr ([],t0,(gfM b most k t p l).1,())))
  | 0,t,p,l,hk,hle=>by
    have h1:¬ (p:Int)<(b.length:Int):=by omega
    rw [G8];simp only [A1C,A1 h1,A3];exact ⟨_,_,_,rfl⟩
  | k+1,t,p,l,hk,hle=>by
    have htl:=A7v ht0;rw [G8];unfold gfM;by_cases h1:p<b.length
    · obtain ⟨c,t',q,l',e,hc,hz⟩:=E8h hb hl most hmost t p l hk h1
      have e':A0s ((t.1,t.2),most,b,(p:Int),l)=some (c,(t',most,b,q,l'),()):=e;have hf:∀ {R:Type} (K:Int×Unit->Option R),A5 (bif (decide (c=0)) then bif (decide ((l'.length:Int)>100)) then some (4,()) else some (c,()) else some (c,())) K=K (E1c c l',()):=fun K=>by
        unfold E1c;by_cases h:c=0
        · subst h
          rw [A0 rfl,A6 rfl];by_cases h2:(l'.length:Int)>100
          · rw [A0 h2,A6 h2];rfl
          · rw [A1 h2,A4 h2];rfl
        · rw [A1 h,A4 h];rfl
      simp only [A1C,A0 (show (p:Int)<(b.length:Int) by omega),A8,e',bO,hf,hc];rw [A6 h1];by_cases h2:(B2U b most t p l).1=0
      · obtain ⟨z1,z2,z3⟩:=hz h2
        subst z1 z2 z3;rw [A6 h2,A0 h2];have hk2:=D6s hmost.2 hk h2;exact D5j hb hl most hmost ht0 k _ _ _ hk2.1 (by omega)
      · rw [A4 h2,A1 h2]
        simp only [J1,A8,B8S t0 (by omega),bO,A4 h2];exact ⟨0,[],0,trivial⟩
    · have h1':¬ (p:Int)<(b.length:Int):=by omega
      rw [A4 h1];simp only [A1C,A1 h1',A3];exact ⟨_,_,_,rfl⟩
theorem D2v{t:D6}(ht:A1S t){b:List Int}(hb:Byt b)(hl:b.length<=500000000){most:Int}(hmost:0<=most/\most<=4096):A3o t most b=some (O2 t most b):=by
  have htl:=A7v ht;obtain ⟨m',b',q',e⟩:=D5j hb hl most hmost ht b.length t 0 [] ⟨ht,by omega,by simp,fun f hf=>by cases hf⟩ (by omega);rw [show ((0:Nat):Int)=0 from rfl] at e;simp only [A3o,A7D,A1A,A0 hmost,F0c ht,B8S t (by omega),bO,C3,A3,bSl,e];unfold O2;by_cases h:(gfM b most b.length t 0 []).1=0
  · have hk:=E1N hmost.2 b.length t 0 [] ⟨ht,by omega,by simp,fun f hf=>by cases hf⟩ h
    rw [A6 h,A6 h];simp only [bSl];rw [E43 (by simp;omega)];rfl
  · rw [A4 h,A4 h]
    rfl
set_option maxRecDepth 100000
theorem C6C(l:List B1)(name:X0)(hl:l.length<=1000000):A2B l name=some ((T9 l name l.length:Int),()):=by
  have e:=L3 (A9i l name) (fun k=>((T9 l name k:Int),(k:Int),())) l.length ((T9 l name l.length:Int),()) (fun k hk=>by
    have h1:(k:Int)<(l.length:Int):=by omega
    have h2:(0:Int)<=(k:Int):=by omega
    have h3:=D6t l name k;have w1:i64.wrap ((k:Int)+1)=((k+1:Nat):Int):=by rw [w64 (by omega) (by omega)];omega
    have w2:i64.wrap ((T9 l name k:Int)+1)=((T9 l name k+1:Nat):Int):=by rw [w64 (by omega) (by omega)];omega
    simp only [A9i,A0 h1,A0 h2,A8,w1,w2,T9];rw [show (rd B8 l (k:Int)).1=nmA l k from rfl];cases hq:((nmA l k).toList == name.toList) with
    | false=>simp only [A3,J7,L5,L0]
    | true=>simp only [A8,M0]) (by
    have h1:¬ ((l.length:Nat):Int)<(l.length:Int):=by omega
    simp only [A9i,A1 h1,A3])
  simp only [A2B,C0N];exact e
theorem F0B{l:List B1}{j k:Nat}(h:j<k):rd B8 (l.take k) (j:Int)=rd B8 l (j:Int):=by
  simp [rd,List.getD,K3,h]
theorem D5k(l:List B1)(name:X0)(k:Nat):∀ j,j<=k->T9 (l.take k) name j=T9 l name j
  | 0,_=>rfl
  | j+1,h=>by
    have e:nmA (l.take k) j=nmA l j:=by unfold nmA;rw [F0B (by omega)]
    simp only [T9,D5k l name k j (by omega),e]
theorem C9C(l:List B1)(name:X0):∀ n k,k<=n->T9 l name k<=T9 l name n
  | 0,k,h=>by rw [show k=0 by omega];exact C1 _
  | n+1,k,h=>by
    by_cases e:k=n+1
    · rw [e];exact C1 _
    · have:=C9C l name n k (by omega)
      have h2:T9 l name n<=T9 l name (n+1):=by rw [T9];omega
      omega
theorem D5l(l:List B1)(name:X0):∀ n,T9 l name n=0->A16 l name n=⟨#[]⟩
  | 0,_=>rfl
  | n+1,h=>by
    unfold T9 at h;unfold A16;by_cases hq:((nmA l n).toList == name.toList)=true
    · rw [A6 hq] at h;omega
    · rw [A4 hq]
      exact D5l l name n (by omega)
theorem D2w(l:List B1)(name:X0){i:Nat}(h0:T9 l name i=0)(hi:((nmA l i).toList == name.toList)=true):∀ n,i<n->A16 l name n=(rd B8 l (i:Int)).2
  | 0,h=>by omega
  | n+1,h=>by
    unfold A16;by_cases e:n=i
    · subst e
      rw [A6 hi,A6 h0]
    · have ih:=D2w l name h0 hi n (by omega)
      have hc:1<=T9 l name n:=by
        have h1:=C9C l name n (i+1) (by omega);have h2:T9 l name (i+1)=T9 l name i+1:=by rw [T9,A6 hi]
        omega
      by_cases hq:((nmA l n).toList == name.toList)=true
      · rw [A6 hq,A4 (by omega)];exact ih
      · rw [A4 hq];exact ih
theorem C80(l:List B1)(name:X0)(hl:l.length<=1000000):∀ k i,i+k=l.length->T9 l name i=0->F4 (A9j l name) ((i:Int),())=some (A16 l name l.length,())
  | 0,i,h,h0=>by
    have h1:¬ (i:Int)<(l.length:Int):=by omega
    rw [G8];simp only [A9j,A1 h1,A3];rw [<- h,L0,D5l l name i h0]
  | k+1,i,h,h0=>by
    have h1:(i:Int)<(l.length:Int):=by omega
    have h2:(0:Int)<=(i:Int):=by omega
    have w1:i64.wrap ((i:Int)+1)=((i+1:Nat):Int):=by rw [w64 (by omega) (by omega)];omega
    rw [G8];simp only [A9j,A0 h1,A0 h2,A8,w1];rw [show (rd B8 l (i:Int)).1=nmA l i from rfl];cases hq:((nmA l i).toList == name.toList) with
    | true=>
      rw [D2w l name h0 hq l.length (by omega)];rfl
    | false=>
      simp only [A3];exact C80 l name hl k (i+1) (by omega) (by rw [T9,hq,h0];simp)
theorem C6D(l:List B1)(name:X0)(hl:l.length<=1000000):A6e l name=some (A16 l name l.length,()):=by
  have e:=C80 l name hl l.length 0 (by omega) rfl;simp only [A6e,C0O];exact e
def E44(l:List B1)(k:Nat):Bool:=C7p (nmA l k)&&(bif decide (bt (nmA l k) 0=58) then !plN l k&&C6A (nmA l k)&&decide (T9 l (nmA l k) k=0) else true)
theorem D5m(l:List B1):(∀ k,k<l.length->E44 l k=true)↔(∀ k,k<l.length->C1m l k=true):=by
  have hparts:∀ (P:Prop) [Decidable P] (k:Nat),(C7p (nmA l k)&&(bif decide (bt (nmA l k) 0=58) then !plN l k&&C6A (nmA l k)&&decide P else true))=true↔C7p (nmA l k)=true/\(bt (nmA l k) 0=58->plN l k=false/\C6A (nmA l k)=true/\P):=fun P _ k=>by
    by_cases h58:bt (nmA l k) 0=58
    · rw [A0 h58]
      simp [h58,and_assoc]
    · rw [A1 h58]
      simp [h58]
  constructor
  · intro h k hk
    have hk1:=(hparts _ k).1 (h k hk);refine (hparts _ k).2 ⟨hk1.1,fun h58=>⟨(hk1.2 h58).1,(hk1.2 h58).2.1,?_⟩⟩;have key:∀ j,j<=l.length->T9 l (nmA l k) j<=1:=by
      intro j
      induction j with
      | zero=>intro _;simp [T9]
      | succ j ih=>
        intro hj;unfold T9;by_cases hq:((nmA l j).toList == (nmA l k).toList)=true
        · have e:nmA l j=nmA l k:=C7f (by simpa using hq)
          have hj1:=((hparts _ j).1 (h j hj)).2 (by rw [e];exact h58);have h0:=hj1.2.2;rw [e] at h0;rw [A6 hq,h0];omega
        · rw [A4 hq]
          exact ih (by omega)
    exact key l.length (C1 _)
  · intro h k hk
    have hk1:=(hparts _ k).1 (h k hk);refine (hparts _ k).2 ⟨hk1.1,fun h58=>⟨(hk1.2 h58).1,(hk1.2 h58).2.1,?_⟩⟩;have h1:=(hk1.2 h58).2.2;have h2:=C9C l (nmA l k) l.length (k+1) hk;have h3:T9 l (nmA l k) (k+1)=T9 l (nmA l k) k+1:=by rw [T9,A6 (by simp)]
    omega
theorem F1D(s:X0)(h:s.size<=1000000000)(l:List B1)(l0:Bool×Int×Unit)(e:(rd B8 l l0.2.1).1=s) :
    F4 (A53 P6 l l0) (0,())=some (if (List.range s.size).all (fun i=>!C4f s i)=true then .inl () else .inr (.inr (.inr (false,())))):=by
  obtain ⟨i,h1,h2,h3,h4⟩:=A3e (A53 P6 l l0) (fun i=>((i:Int),())) s.size (fun i=>if i<s.size then .inr (.inr (.inr (false,()))) else .inl ()) (fun i=>!C4f s i) (fun i hi=>by
    have a1:(i:Int)<(s.size:Int):=by omega
    have a2:(0:Int)<=(i:Int):=by omega
    have w1:i64.wrap ((i:Int)+1)=((i+1:Nat):Int):=by rw [w64 (by omega) (by omega)];omega
    have ec:decide (65<=bt s (i:Int)/\bt s (i:Int)<=90)=C4f s i:=by unfold C4f;rw [Bool.decide_and]
    simp only [A53,e,A0 a1,A0 a2,A8,w1,E1A,A1A,bO,ec,A6 hi];cases C4f s i<;>rfl) (by
    have a1:¬ (s.size:Int)<(s.size:Int):=by omega
    simp only [A53,e,A1 a1,A3,A2W,L5])
  have h4':F4 (A53 P6 l l0) (0,())=some (if i<s.size then .inr (.inr (.inr (false,()))) else .inl ()):=h4;rw [h4'];by_cases hi:i<s.size
  · have:¬ (List.range s.size).all (fun i=>!C4f s i)=true:=by
      rw [Bool.not_eq_true,A3V];exact ⟨i,O8.2 hi,by simp [h3 hi]⟩
    rw [A6 hi,A4 this]
  · have:(List.range s.size).all (fun i=>!C4f s i)=true:=by
      rw [C4];intro j hj;exact h2 j (by have:=O8.1 hj;omega)
    rw [A4 hi,A6 this]
theorem D9Q(l:List B1)(hl:l.length<=1000000)(hn:∀ f∈l,f.1.size<=1000000000)(k:Nat)(hk:k<l.length) :
    A54 A2B P6 l (plN l k,(k:Int),())=if E44 l k then some (.inl (plN l (k+1),((k+1:Nat):Int),())) else some (.inr (.inr (false,()))):=by
  have h1:(k:Int)<(l.length:Int):=by omega
  have h2:(0:Int)<=(k:Int):=by omega
  have h3:(k:Int)<=(l.length:Int):=by omega
  have w1:i64.wrap ((k:Int)+1)=((k+1:Nat):Int):=by rw [w64 (by omega) (by omega)];omega
  have hz:(nmA l k).size<=1000000000:=by
    have e:rd B8 l (k:Int)=l[k]:=A15 (k:=B8) hk;unfold nmA;rw [e];exact hn _ (F3 hk)
  have hcap:=F1D (nmA l k) hz l (plN l k,(k:Int),()) rfl;have hcnt:A2B ((l.take k).drop 0) (nmA l k)=some ((T9 l (nmA l k) k:Int),()):=by
    rw [Q4,C6C _ _ (by rw [B4];omega),B4,A0H (by omega),D5k l _ k k (C1 _)]
  simp only [A54,A0 h1,A0 h2,A0 h3,A8,w1,D5];rw [show (rd B8 l (k:Int)).1=nmA l k from rfl,hcap,hcnt];unfold E44;have hname:C7p (nmA l k)=((List.range (nmA l k).size).all (fun i=>!C4f (nmA l k) i)&&!((nmA l k).toList == (⟨#[]⟩:X0).toList)):=rfl;cases hem:((nmA l k).toList == (⟨#[]⟩:X0).toList) with
  | true=>
    rw [hname,hem];simp
  | false=>
    have h0:=D2j (s:=nmA l k) (by rw [hem];rfl);rw [hname,hem];cases (List.range (nmA l k).size).all (fun i=>!C4f (nmA l k) i) with
    | false=>rfl
    | true=>
      rw [A0 (show (0:Int)<((nmA l k).size:Int) by omega)];simp only [M0,I2,A8,A3,J1,Bool.and_self,K2,plN];by_cases h58:bt (nmA l k) 0=58
      · rw [A0 h58]
        simp only [C3,A3,A8,Bool.or_false,bO];cases plN l k with
        | true=>rfl
        | false=>
          unfold C6A;have hd:decide ((T9 l (nmA l k) k:Int)>0)=!decide (T9 l (nmA l k) k=0):=by
            by_cases h:T9 l (nmA l k) k=0
            · rw [A0 h,A1 (by omega)];rfl
            · rw [A1 h,A0 (by omega)];rfl
          rw [hd];cases ((nmA l k).toList == nM.toList)<;>cases ((nmA l k).toList == nS.toList)<;>cases ((nmA l k).toList == nP.toList)<;>cases ((nmA l k).toList == nA.toList)<;>cases decide (T9 l (nmA l k) k=0)<;>rfl
      · rw [A1 h58]
        simp
theorem C6E{l:List B1}(h:∀ k,k<l.length->C1m l k=true){name:X0}(h58:bt name 0=58):T9 l name l.length<=1:=by
  by_cases h0:T9 l name l.length=0
  · omega
  have:∃ k,k<l.length/\nmA l k=name:=by
    have key:∀ n,n<=l.length->T9 l name n≠0->∃ k,k<l.length/\nmA l k=name:=by
      intro n
      induction n with
      | zero=>intro _ h;exact absurd rfl h
      | succ n ih=>
        intro hn hne;by_cases hq:((nmA l n).toList == name.toList)=true
        · exact ⟨n,hn,C7f (by simpa using hq)⟩
        · unfold T9 at hne
          rw [A4 hq] at hne;exact ih (by omega) hne
    exact key _ (C1 _) h0
  obtain ⟨k,hk,e⟩:=this;have h1:=h k hk;unfold C1m at h1;rw [e,A0 h58] at h1;simp at h1;omega
theorem E5c(l:List B1)(hl:l.length<=1000000)(hn:∀ f∈l,f.1.size<=1000000000):B6W l=some (D2k l,()):=by
  simp only [B6W,C2r];obtain ⟨i,h1,h2,h3,h4⟩:=A3e (A54 A2B P6 l) (fun i=>(plN l i,(i:Int),())) l.length (fun i=>if i<l.length then .inr (false,()) else .inl ()) (E44 l) (fun i hi=>by
    simp only [A6 hi];exact D9Q l hl hn i hi) (by
    have h1:¬ ((l.length:Nat):Int)<(l.length:Int):=by omega
    simp only [A2W,L5,A54,A1 h1,A3])
  have h4':F4 (A54 A2B P6 l) (false,0,())=some (if i<l.length then .inr (false,()) else .inl ()):=h4;rw [h4'];unfold D2k;by_cases hi:i<l.length
  · rw [A6 hi]
    have:(List.range l.length).all (C1m l)=false:=by
      cases hA:(List.range l.length).all (C1m l) with
      | false=>rfl
      | true=>
        have hall:=(D5m l).2 fun k hk=>C4.1 hA k (O8.2 hk)
        have:=h3 hi;rw [hall i hi] at this;cases this
    simp [I2,this]
  · rw [A4 hi]
    have hF:=(D5m l).1 fun k hk=>h2 k (by omega)
    have:(List.range l.length).all (C1m l)=true:=by
      rw [C4];intro j hj;exact hF j (O8.1 hj)
    have c1:=C6E hF (name:=nM) (by kernel_rfl);have c2:=C6E hF (name:=nS) (by kernel_rfl);have c3:=C6E hF (name:=nP) (by kernel_rfl);have hd:∀ n:Nat,n<=1->decide ((n:Int)=1)=decide (1<=n):=fun n h=>by
      by_cases q:1<=n
      · rw [A0 q,A0 (by omega)]
      · rw [A1 q,A1 (by omega)]
    simp only [I2,this,K2,C6C l _ hl,bO,hd _ c1,hd _ c2,hd _ c3];cases decide (1<=T9 l nM l.length)<;>cases decide (1<=T9 l nS l.length)<;>rfl
set_option maxRecDepth 100000
theorem D9R(a b:X0):bytesOf (a++b)=bytesOf a++bytesOf b:=by
  unfold bytesOf;rw [C22,B39,A4p]
theorem C3A{s:X0}{k:Nat}(h:k<(bytesOf s).length):(bytesOf s)[k]=bt s (k:Int):=by
  have hl:=bytesOf_length s;have h2:k<s.data.toList.length:=by rw [hl] at h;exact h
  have hc:bytesOf s=s.data.toList.map fun b=>(b.toNat:Int):=rfl
  rw [C6q hc h];unfold bt;simp [List.getD,C8 h2]
theorem A7w{n:Nat}(h:n<10):bytesOf (itB (n:Int)) = [48+(n:Int)]:=by
  rw [E5D (by omega) (by omega),w64 (by omega) (by omega),show u8.wrap (48+(n:Int))=48+(n:Int) by rw [show 48+(n:Int)=((48+n:Nat):Int) by omega];exact D0F (by omega)];exact C56 fun x hx=>by rcases B2.1 hx with rfl;omega
theorem C5D{n:Nat}(h:¬ n<10):bytesOf (itB (n:Int))=bytesOf (itB ((n / 10:Nat):Int)) ++ [48+((n % 10:Nat):Int)]:=by
  rw [F05 (by omega),D9R,show (n:Int) / 10=((n / 10:Nat):Int) by omega,show (n:Int) % 10=((n % 10:Nat):Int) by omega,w64 (by omega) (by omega),show u8.wrap (48+((n % 10:Nat):Int))=48+((n % 10:Nat):Int) by rw [show 48+((n % 10:Nat):Int)=((48+n % 10:Nat):Int) by omega];exact D0F (by omega)];rw [C56 fun x hx=>by rcases B2.1 hx with rfl;omega]
theorem E45:∀ (m n:Nat),n<10 ^ (m+1)->(bytesOf (itB (n:Int))).length<=m+1
  | 0,n,h=>by rw [A7w (by omega)];simp
  | m+1,n,h=>by
    by_cases hn:n<10
    · rw [A7w hn];simp
    · rw [C5D hn,B0,H0]
      have:=E45 m (n / 10) (by rw [A4g] at h;omega);omega
theorem D75{s:X0}{j:Nat}(h:B5i s j=true):48<=bt s (j:Int)/\bt s (j:Int)<=57:=by
  simpa only [B5i,B5,I4] using h
theorem D5n{s:X0}(hd:∀ j,j<s.size->B5i s j=true)(h0:bt s 0≠48):∀ k,k+1<=s.size->1<=A2c s (k+1)/\bytesOf (itB (A2c s (k+1):Int))=(bytesOf s).take (k+1)
  | 0,h=>by
    have d:=D75 (hd 0 (by omega));have hl:=bytesOf_length s;have hn:A2c s 1=(bt s 0-48).toNat:=by simp [A2c]
    rw [show ((0:Nat):Int)=0 from rfl] at d;have e1:(bytesOf s).take 1 = [bt s 0]:=by
      rw [H5 (by omega),C3A];rfl
    rw [hn,A7w (by omega),e1];refine ⟨by omega,?_⟩
    congr 1
    omega
  | k+1,h=>by
    have d:=D75 (hd (k+1) (by omega));have hl:=bytesOf_length s;obtain ⟨i1,i2⟩:=D5n hd h0 k (by omega);have hn:A2c s (k+1+1)=A2c s (k+1)*10+(bt s ((k+1:Nat):Int)-48).toNat:=rfl;have h10:¬ A2c s (k+1+1)<10:=by omega
    refine ⟨by omega,?_⟩;rw [C5D h10,show A2c s (k+1+1) / 10=A2c s (k+1) by omega,i2,H5 (show k+1<(bytesOf s).length by omega),C3A]
    congr 2
    omega
theorem E46{s:X0}(hd:∀ j,j<s.size->B5i s j=true)(h0:bt s 0=48):∀ k,k+1<=s.size->A2c s (k+1)<10 ^ k
  | 0,h=>by
    have hn:A2c s 1=(bt s 0-48).toNat:=by simp [A2c]
    rw [hn,h0];decide
  | k+1,h=>by
    have d:=D75 (hd (k+1) (by omega));have ih:=E46 hd h0 k (by omega);have hn:A2c s (k+1+1)=A2c s (k+1)*10+(bt s ((k+1:Nat):Int)-48).toNat:=rfl;rw [hn,A4g];omega
theorem D0J{a b:X0}(h:bytesOf a=bytesOf b):a=b:=by rw [<- C57 a,<- C57 b,h]
theorem E8i{s:X0}(hd:∀ j,j<s.size->B5i s j=true)(hs:1<=s.size):((itB (A2c s s.size:Int)).toList == s.toList)=!(decide (1<s.size)&&decide (bt s 0=48)):=by
  have hl:=bytesOf_length s;have good:itB (A2c s s.size:Int)=s->((itB (A2c s s.size:Int)).toList == s.toList)=true:=fun e=>by rw [e];simp
  obtain ⟨k,hk⟩:∃ k,s.size=k+1:=⟨s.size-1,by omega⟩;by_cases h0:bt s 0=48
  · by_cases h1:1<s.size
    · rw [A0 h1,A0 h0]
      have h2:itB (A2c s s.size:Int)≠s:=fun e=>by
        have h3:=E46 hd h0 k (by omega);rw [<- hk] at h3;obtain ⟨m,rfl⟩:∃ m,k=m+1:=⟨k-1,by omega⟩;have h4:=E45 m _ h3;rw [e] at h4;omega
      cases hq:((itB (A2c s s.size:Int)).toList == s.toList) with
      | false=>rfl
      | true=>exact absurd (C7f (by simpa using hq)) h2
    · rw [A1 h1]
      refine good (D0J ?_);have hk0:s.size=1:=by omega
      have hn:A2c s 1=(bt s 0-48).toNat:=by simp [A2c]
      rw [hk0,hn,h0];have e1:bytesOf s = [bt s 0]:=by
        rw [<- A2g (l:=bytesOf s),hl,hk0,H5 (by omega),C3A];rfl
      rw [e1,h0];exact A7w (n:=0) (by omega)
  · rw [A1 h0,B5g]
    refine good (D0J ?_);have h2:=(D5n hd h0 k (by omega)).2;rw [<- hk] at h2;rw [h2,<- hl,A2g]
theorem D9S(s:X0)(most:Int):∃ n,B1l s most=some (n,D9B s most,())/\(D9B s most=true->n=(A2c s s.size:Int)):=by
  simp only [B1l,B7d,A1A,bO];unfold D9B;by_cases hr:1<=(s.size:Int)/\(s.size:Int)<=10
  · rw [A0 hr]
    simp only [C3,A3,K2];obtain ⟨i,h1,h2,h3,h4⟩:=A3e (A4m P6 s) (fun i=>((A2c s i:Int),(i:Int),())) s.size (fun i=>if i<s.size then .inr (0,false,()) else .inl ((A2c s s.size:Int),())) (B5i s) (fun i hi=>by
      have h1:(i:Int)<(s.size:Int):=by omega
      have h2:(0:Int)<=(i:Int):=by omega
      have w1:i64.wrap ((i:Int)+1)=((i+1:Nat):Int):=by rw [w64 (by omega) (by omega)];omega
      have b1:=D5K s (i:Int);have b2:=C52 s (i:Int);have hn:=D6u s i;have hp:10 ^ i<=10 ^ 10:=A0S (by omega) (by omega);have ed:decide (48<=bt s (i:Int)/\bt s (i:Int)<=57)=B5i s i:=by unfold B5i;rw [Bool.decide_and]
      simp only [A6 hi,A4m,A0 h1,A0 h2,A8,w1,E1A,A1A,bO,ed];cases hdg:B5i s i with
      | false=>rfl
      | true=>
        have d:=D75 hdg;simp only [C3,A3,M0];have e1:u8.wrap (bt s (i:Int)-48)=bt s (i:Int)-48:=by
          rw [show bt s (i:Int)-48=(((bt s (i:Int)-48).toNat:Nat):Int) by omega];exact D0F (by omega)
        rw [e1,w64 (n:=bt s (i:Int)-48) (by omega) (by omega),w64 (n:=(A2c s i:Int)*10) (by omega) (by omega),w64 (by omega) (by omega),A2c];rw [show (A2c s i:Int)*10+(bt s (i:Int)-48)=((A2c s i*10+(bt s (i:Int)-48).toNat:Nat):Int) by omega]) (by
      have h1:¬ ((s.size:Nat):Int)<(s.size:Int):=by omega
      simp only [A2W,L5,A4m,A1 h1,A3])
    have h4':F4 (A4m P6 s) (0,0,())=some (if i<s.size then .inr (0,false,()) else .inl ((A2c s s.size:Int),())):=h4;rw [h4'];have hlead:(bif (decide ((s.size:Int)>1)) then bif decide (0<(s.size:Int)) then bif (decide ((bt s 0)=48)) then some (.inr (0,false,())) else some (.inl ()) else none else some (.inl ()))=some (if decide (1<s.size)&&decide (bt s 0=48) then (.inr (0,false,()):Unit⊕(Int×Bool×Unit)) else .inl ()):=by
      rw [A0 (show (0:Int)<(s.size:Int) by omega)];by_cases q:1<s.size
      · rw [A0 (show (s.size:Int)>1 by omega),A0 q]
        cases decide (bt s 0=48)<;>rfl
      · rw [A1 (show ¬ (s.size:Int)>1 by omega),A1 q]
        rfl
    rw [hlead];by_cases hi:i<s.size
    · rw [A6 hi]
      have:(List.range s.size).all (B5i s)=false:=by
        rw [A3V];exact ⟨i,O8.2 hi,by simp [h3 hi]⟩
      rw [this];cases decide (1<s.size)&&decide (bt s 0=48)<;>exact ⟨_,rfl,fun h=>by cases h⟩
    · rw [A4 hi]
      have hall:∀ j,j<s.size->B5i s j=true:=fun j hj=>h2 j (by omega)
      have ha:(List.range s.size).all (B5i s)=true:=by
        rw [C4];intro j hj;exact hall j (O8.1 hj)
      rw [ha,E8i hall (by omega)];cases hq:decide (1<s.size)&&decide (bt s 0=48) with
      | true=>
        refine ⟨0,?_,fun h=>?_⟩
        · simp [I2]
        · simp at h
      | false=>
        refine ⟨_,?_,fun _=>rfl⟩;simp [I2]
  · rw [A1 hr]
    exact ⟨_,rfl,fun h=>by cases h⟩
def opL(a:X0):Int:=bif ((⟨#[68,69,76,69,84,69]⟩:X0).toList == a.toList) then 6 else bif ((⟨#[71,69,84]⟩:X0).toList == a.toList) then 5 else bif ((⟨#[80,85,84]⟩:X0).toList == a.toList) then 4 else bif ((⟨#[80,65,84,67,72]⟩:X0).toList == a.toList) then 3 else bif ((⟨#[72,69,65,68]⟩:X0).toList == a.toList) then 2 else bif ((⟨#[80,79,83,84]⟩:X0).toList == a.toList) then 1 else 0
theorem F1b:opL ⟨#[80,79,83,84]⟩=opB ⟨#[80,79,83,84]⟩:=by kernel_rfl
theorem F1c:opL ⟨#[72,69,65,68]⟩=opB ⟨#[72,69,65,68]⟩:=by kernel_rfl
theorem F1d:opL ⟨#[80,65,84,67,72]⟩=opB ⟨#[80,65,84,67,72]⟩:=by kernel_rfl
theorem F1e:opL ⟨#[80,85,84]⟩=opB ⟨#[80,85,84]⟩:=by kernel_rfl
theorem F1f:opL ⟨#[71,69,84]⟩=opB ⟨#[71,69,84]⟩:=by kernel_rfl
theorem F1g:opL ⟨#[68,69,76,69,84,69]⟩=opB ⟨#[68,69,76,69,84,69]⟩:=by kernel_rfl
theorem F1E(a:X0):opL a=opB a:=by
  by_cases h1:(⟨#[80,79,83,84]⟩:X0)=a
  · rw [<- h1];exact F1b
  by_cases h2:(⟨#[72,69,65,68]⟩:X0)=a
  · rw [<- h2];exact F1c
  by_cases h3:(⟨#[80,65,84,67,72]⟩:X0)=a
  · rw [<- h3];exact F1d
  by_cases h4:(⟨#[80,85,84]⟩:X0)=a
  · rw [<- h4];exact F1e
  by_cases h5:(⟨#[71,69,84]⟩:X0)=a
  · rw [<- h5];exact F1f
  by_cases h6:(⟨#[68,69,76,69,84,69]⟩:X0)=a
  · rw [<- h6];exact F1g
  have ne:∀ x:X0,¬ x=a->(x.toList == a.toList)=false:=fun x h=>by
    cases hq:(x.toList == a.toList) with
    | false=>rfl
    | true=>exact absurd (C7f (by simpa using hq)) h
  unfold opL opB;rw [ne _ h1,ne _ h2,ne _ h3,ne _ h4,ne _ h5,ne _ h6];rfl
theorem F0C(l:List B1)(hl:l.length<=1000000):F4 (B2P A7T A6e l) (1,0,(⟨#[]⟩:X0),0,())=some (opB (A16 l nM l.length),(⟨#[]⟩:X0),0,()):=by
  have hv:=C6D l nM hl;have st:∀ (k k2:Int) (lit:X0) (op:Int),1<=k->k<=6->k+1=k2->A7T k=some (lit,())->B2P A7T A6e l (k,op,(⟨#[]⟩:X0),0,())=some (.inl (k2,(bif lit.toList == (A16 l nM l.length).toList then k else op),(⟨#[]⟩:X0),0,())):=fun k k2 lit op h1 h6 hk2 hm=>by
    have w:i64.wrap (k+1)=k2:=by rw [w64 (by omega) (by omega),hk2]
    simp only [B2P,A0 h6,A8,hm,hv,bO,w];cases lit.toList == (A16 l nM l.length).toList<;>rfl
  rw [A55 (st 1 2 ⟨#[80,79,83,84]⟩ _ (by omega) (by omega) (by omega) rfl)];rw [A55 (st 2 3 ⟨#[72,69,65,68]⟩ _ (by omega) (by omega) (by omega) rfl)];rw [A55 (st 3 4 ⟨#[80,65,84,67,72]⟩ _ (by omega) (by omega) (by omega) rfl)];rw [A55 (st 4 5 ⟨#[80,85,84]⟩ _ (by omega) (by omega) (by omega) rfl)];rw [A55 (st 5 6 ⟨#[71,69,84]⟩ _ (by omega) (by omega) (by omega) rfl)];rw [A55 (st 6 7 ⟨#[68,69,76,69,84,69]⟩ _ (by omega) (by omega) (by omega) rfl)];rw [G8];simp only [B2P,show decide ((7:Int)<=6)=false from rfl,A3];exact N1 (fun x=>some (x,(⟨#[]⟩:X0),(0:Int),())) (F1E (A16 l nM l.length))
theorem E5d(op:Int):B6U op=some ((A8s op).1,()):=by
  simp only [B6U,C2q];unfold A8s;by_cases h1:op=1
  · rw [A0 h1,A6 h1];rfl
  rw [A1 h1,A4 h1];by_cases h3:op=3
  · rw [A0 h3,A6 h3];rfl
  rw [A1 h3,A4 h3];by_cases h4:op=4
  · rw [A0 h4,A6 h4];rfl
  · rw [A1 h4,A4 h4];rfl
theorem E5e(op:Int)(h:((A8s op).1.toList == (⟨#[]⟩:X0).toList)=false):B6S op=some ((A8s op).2,()):=by
  simp only [B6S,C2p];unfold A8s at h ⊢;by_cases h1:op=1
  · rw [A0 h1,A6 h1];rfl
  rw [A1 h1,A4 h1];rw [A4 h1] at h;by_cases h3:op=3
  · rw [A0 h3,A6 h3];rfl
  rw [A1 h3,A4 h3];rw [A4 h3] at h;by_cases h4:op=4
  · rw [A0 h4,A6 h4];rfl
  · rw [A4 h4] at h
    simp at h
theorem E1d(l:List B1)(hl:l.length<=1000)(hn:∀ f∈l,f.1.size<=10000/\f.2.size<=10000):C4K l=some ((A46 l).1,(A46 l).2,()):=by
  have hv:=fun name=>D6v hn name l.length (C1 _)
  have hP:=hv nP;have v2:=C6D l nP (by omega);simp only [C4K,C8w,E5c l (by omega) (fun f hf=>by have:=(hn f hf).1;omega),bO];unfold A46;cases D2k l
  case false=>rfl
  simp only [C3,A3,A8,F0C l (by omega),v2,bO];generalize opB (A16 l nM l.length)=op;by_cases h0:op=0
  · rw [A0 h0,A6 h0];rfl
  rw [A1 h0,A4 h0];simp only [A3];generalize A16 l nP l.length=s at *
  have hid:∀ x:X0,x.size<=10000->B8Q x=some (idB x,()):=fun x hx=>E7q x (by simp only [maxLen];omega)
  have hex:(s.extract 4 s.size).size=s.size-4:=by rw [C1f];omega
  unfold B8U;by_cases h5:(s.size:Int)<5
  · rw [A0 h5]
    have:((bif decide (4<=s.size)&&((s.extract 0 4).toList == nUp.toList) then (s.extract 4 s.size,true) else (s,false)).2&&idB (bif decide (4<=s.size)&&((s.extract 0 4).toList == nUp.toList) then (s.extract 4 s.size,true) else (s,false)).1)=false:=by
      cases hq:decide (4<=s.size)&&((s.extract 0 4).toList == nUp.toList) with
      | false=>rfl
      | true=>
        simp only [A8,K2,idB];rw [A1 (show ¬ (1<=((s.extract 4 s.size).size:Int)/\((s.extract 4 s.size).size:Int)<=8) by omega),B5g]
    rw [this];rfl
  rw [A1 h5,A0 (show 4<=s.size by omega),A0 (show (4:Int)<=(s.size:Int) by omega)];simp only [A3,A8,K2];rw [show ((⟨#[47,117,112,47]⟩:X0))=nUp from rfl];cases ((s.extract 0 4).toList == nUp.toList)
  case false=>rfl
  simp only [C3,A3,A8,K2,hid _ (show (s.extract 4 s.size).size<=10000 by omega),bO];cases idB (s.extract 4 s.size)
  case false=>rfl
  simp only [C3,A3,A8,bSl,E5d,bO];cases hnm:((A8s op).1.toList == (⟨#[]⟩:X0).toList)
  case true=>rfl
  obtain ⟨n,hq,hz⟩:=D9S (A16 l (A8s op).1 l.length) (A8s op).2;simp only [J1,A8,A3,C6D l _ (show l.length<=1000000 by omega),E5e op hnm,C6C l _ (show l.length<=1000000 by omega),hq,bO];cases hb:D9B (A16 l (A8s op).1 l.length) (A8s op).2 with
  | false=>
    rw [B5g];rfl
  | true=>
    rw [hz hb,C5K];by_cases h1:T9 l (A8s op).1 l.length=1
    · rw [A0 (show (T9 l (A8s op).1 l.length:Int)=1 by omega),A0 h1];rfl
    · rw [A1 (show ¬ (T9 l (A8s op).1 l.length:Int)=1 by omega),A1 h1];rfl
set_option maxRecDepth 100000
def D9T(pre:Nat)(inn:List Int)(enc:D6)(r:Int×HM):E5:=if r.1=0 then mkH (pre:Int) inn enc 0 r.2 else bsH enc (B5j pre r.2 r.1)
section
variable (pre:Nat) (inn:List Int) (enc:D6)
theorem C9D(p dead:Int)(m:HM)(f:F6)(h:A45 f=true)(ho:m.out.length<=100000000000000):B2M (mkH p inn enc dead m) f=some (mkH p inn enc dead {m with out:=m.out++B5E f},()):=by
  have hl:=D2S f h;have hb:=D8t h;simp only [B2M,C2l,D40 f (by omega),A6 h,bO];rw [gA (show m.out.length+(B5E f).length<=_ by omega)]
theorem A6k(dead:Int)(m:HM)(code:Int)(ho:m.out.length<=100000000000000):A1R (mkH (pre:Int) inn enc dead m) code=some (bsH enc (B5j pre m code),()):=by
  have e1:=B6d [] m.last 4 (by omega) (by omega) (by simp);have e2:=B6d ([]++big (A8h m.last) 4) code 4 (by omega) (by omega) (by simp [B1s]);rw [show ((4:Nat):Int)=4 from rfl] at e1 e2;simp only [H7] at e1 e2;have hf:A45 (7,0,0,big (A8h m.last) 4++big (A8h code) 4)=true:=fok 7 0 0 _ (by omega) (by omega) (by omega) (by simp [B1s]);simp only [A1R,C2m,B7V,B7U,e1,e2,bO,H7];rw [C9D inn enc (pre:Int) dead m _ hf ho];rfl
theorem D30(p dead:Int)(m:HM)(i:Nat)(hi:i<m.strs.length)(hc:m.calls.length<=1000000000)(hs:(sAt m.strs i).2.2.2.length<=1000000):A9e (mkH p inn enc dead m) (i:Int)=some (mkH p inn enc dead (A5F m (sAt m.strs i)),()):=by
  have d1:decide ((0:Int)<=(i:Int))=true:=A0 (by omega);have d2:decide ((i:Int)<(m.strs.length:Int))=true:=A0 (by omega);have e1:(rd E6 m.strs (i:Int))=sAt m.strs i:=rfl;simp only [A9e,C0J,mkH,mkC,d1,d2,A8,e1];unfold A5F;by_cases h:(sAt m.strs i).2.1=2
  · rw [A0 h,A6 h,A8,gA (by simp;omega),D42 (by simp;omega)]
    rfl
  · rw [A1 h,A4 h];rfl
theorem F0D(ev:Int)(h:1<=ev/\ev<=4):stV 2 ev=(2,2):=by
  have:ev=1\/ev=2\/ev=3\/ev=4:=by omega
  obtain ⟨_,_,_,_,a,b,c,d,_⟩:=D71;rcases this with rfl | rfl | rfl | rfl<;>assumption
theorem F0E(ev:Int)(h:1<=ev/\ev<=4):stV 1 ev=(1,1)\/stV 1 ev=(2,0)\/stV 1 ev=(1,0):=by
  have:ev=1\/ev=2\/ev=3\/ev=4:=by omega
  obtain ⟨a,b,c,d,_⟩:=D71;rcases this with rfl | rfl | rfl | rfl
  · exact .inl a
  · exact .inr (.inl b)
  · exact .inr (.inr c)
  · exact .inr (.inl d)
theorem E47{strs:List L7}{i:Nat}(hi:i<strs.length)(s:L7):sAt (strs.set i s) i=s:=by
  rw [A3r (by rw [S6];exact hi),A1E]
theorem D31(m:HM)(i:Nat)(ev:Int)(hi:i<m.strs.length)(hc:m.calls.length<=1000000000)(ho:m.out.length<=100000000000000)(hs:(sAt m.strs i).2.2.2.length<=1000000)(h12:(sAt m.strs i).2.1=1\/(sAt m.strs i).2.1=2)(hev:1<=ev/\ev<=4) :
    A9f (mkH (pre:Int) inn enc 0 m) (i:Int) ev=some (D9T pre inn enc (A9r m i ev),()):=by
  have d1:decide ((0:Int)<=(i:Int))=true:=A0 (by omega);have d2:decide ((i:Int)<(m.strs.length:Int))=true:=A0 (by omega);have e1:(rd E6 m.strs (i:Int))=sAt m.strs i:=rfl;have dies:=fun c=>A6k pre inn enc 0 m c ho
  simp only [mkH,mkC] at dies;have ended:=fun s=>D30 inn enc (pre:Int) 0 (A1t m i s) i (by simp only [A1t,S6];exact hi) hc
  simp only [A1t,mkH,mkC,E47 hi] at ended;simp only [A9f,C0K,mkH,mkC,d1,d2,A8,e1,E5a,bO,dies];unfold A9r;rcases h12 with h12 | h12
  · rw [h12]
    rcases F0E ev hev with e | e | e
    · rw [e]
      simp only [R1,A8,M0];rfl
    · rw [e]
      simp only [show decide ((0:Int)=1)=false from rfl,show decide ((0:Int)=2)=false from rfl,show decide ((2:Int)=1)=false from rfl,A3,J1,A8,A4 (show ¬ (0:Int)=1 by omega),A4 (show ¬ (0:Int)=2 by omega),D5];rw [ended _ (by simp only;exact hs)];rfl
    · rw [e]
      simp only [show decide ((0:Int)=1)=false from rfl,show decide ((0:Int)=2)=false from rfl,R1,A3,C3,A8,A4 (show ¬ (0:Int)=1 by omega),A4 (show ¬ (0:Int)=2 by omega),D5];unfold A5F;simp only [show ¬ (1:Int)=2 by omega,L5,A1t];rfl
  · rw [h12,F0D ev hev]
    simp only [show decide ((2:Int)=1)=false from rfl,R1,A3,A8,A4 (show ¬ (2:Int)=1 by omega),M0];rfl
theorem D76(p dead:Int)(m:HM)(id:Int)(hs:B8V m.strs m.last):B0t (mkC p inn enc dead m) id=some (if C1v m.strs id=true then (atM m.strs id:Int) else -1,()):=by
  have hl:=hs.1;obtain ⟨i,has,h1,h2,h3⟩:=at_eq (mkC p inn enc dead m) id (by simp only;omega) (D9L hs);have h4:=C4L p inn enc dead m id (by omega);rw [h3] at h4;simp only [F9,A5C] at h4;rw [h2,h4.2.1];cases hq:C1v m.strs id with
  | false=>rfl
  | true=>simp only [M0,h4.1]
theorem D9U(m:HM)(h:HI m)(hl:HL m)(id:Int)(fin:Bool)(l:List B1)(hll:l.length<=1000)(hn:∀ f∈l,f.1.size<=10000/\f.2.size<=10000) :
    B1n (mkH (pre:Int) inn enc 0 m) id fin l=some (D9T pre inn enc (C98 m id fin l),()):=by
  have hc:=hl.1;have ho:=hl.2;have hsl:=h.strs.1;have dies:=fun c=>A6k pre inn enc 0 m c (by omega)
  simp only [mkH,mkC] at dies;have hcond:∀ {R:Type} (K:Bool×Unit->Option R),A5 (bif (decide ((id.tmod 2)=0)) then some (true,()) else some ((decide (id<=m.last)),())) K=K (decide (id.tmod 2=0\/id<=m.last),()):=fun K=>by
    by_cases q:id.tmod 2=0
    · rw [A0 q,A0 (Or.inl q:id.tmod 2=0\/id<=m.last)];rfl
    · rw [A1 q]
      by_cases q2:id<=m.last
      · rw [A0 q2,A0 (Or.inr q2:id.tmod 2=0\/id<=m.last)];rfl
      · rw [A1 q2,A1 (fun q3:id.tmod 2=0\/id<=m.last=>q3.elim q q2)];rfl
  simp only [B1n,B7e,mkH,mkC,hcond,dies,bO,E1d l hll hn];unfold C98;by_cases h1:id.tmod 2=0\/id<=m.last
  · rw [A0 h1,A6 h1];rfl
  rw [A1 h1,A4 h1];by_cases h2:100<=m.strs.length
  · rw [A6 h2,A0 (show (m.strs.length:Int)=100 by omega)];rfl
  rw [A4 h2,A1 (show ¬ (m.strs.length:Int)=100 by omega)];simp only [A3,bSl];by_cases h3:(A46 l).2=0
  · rw [A0 h3,A4 (by simpa using h3)]
    simp only [C3,A3];have hfin:∀ {R:Type} (K:Int×Int×Int×X0×Int×Unit->Option R),A5 (bif fin then some (id,2,(A46 l).1.1,(A46 l).1.2.1,(A46 l).1.2.2,()) else some (id,1,(A46 l).1.1,(A46 l).1.2.1,(A46 l).1.2.2,())) K=K (id,(if fin then 2 else 1),(A46 l).1.1,(A46 l).1.2.1,(A46 l).1.2.2,()):=fun K=>by cases fin<;>rfl
    rw [hfin];simp only [];rw [D42 (by simp;omega)];have e:=D30 inn enc (pre:Int) 0 {m with last:=id,strs:=m.strs ++ [(id,(if fin then 2 else 1),(A46 l).1,[])]} m.strs.length (by simp) hc (by rw [A3r (by simp)];simp);have hsa:sAt (m.strs ++ [(id,(if fin then 2 else 1),(A46 l).1,[])]) m.strs.length=(id,(if fin then 2 else 1),(A46 l).1,[]):=by rw [A3r (by simp)];simp
    simp only [hsa,mkH,mkC] at e;have hw:i64.wrap (((m.strs ++ [((id,(if fin then 2 else 1),((A46 l).1.1,((A46 l).1.2.1,(A46 l).1.2.2)),[]):L7)]).length:Int)-1)=(m.strs.length:Int):=by
      have hls:(m.strs ++ [((id,(if fin then 2 else 1),((A46 l).1.1,((A46 l).1.2.1,(A46 l).1.2.2)),[]):L7)]).length=m.strs.length+1:=by rw [B0,H0]
      rw [hls,w64 (by omega) (by omega)];omega
    rw [hw];rw [show ((A46 l).1.1,((A46 l).1.2.1,(A46 l).1.2.2))=(A46 l).1 from rfl,e];rfl
  · rw [A1 h3,A6 h3]
    simp only [J1,A8];rw [D42 (by simp;omega)];rfl
theorem E1e(m:HM)(h:HI m)(hl:HL m)(id:Int)(fin:Bool)(b:List Int)(hb:Byt b)(hbl:b.length<=100000) :
    A5O (mkH (pre:Int) inn enc 0 m) id fin b=some (D9T pre inn enc (B7g m id fin b),()):=by
  have hc:=hl.1;have ho:=hl.2;have dies:=fun c=>A6k pre inn enc 0 m c (by omega)
  have hg:=D2v h.dec hb (by omega) (most:=4096) (by omega);obtain ⟨k1,k2,k3⟩:=C69 h.dec (most:=4096) (by omega) b;have hm2:HI {m with dec:=(O2 m.dec 4096 b).2.1}:=⟨h.strs,h.last,k1,h.g,h.gb⟩;have hat:=D76 inn enc (pre:Int) 0 {m with dec:=(O2 m.dec 4096 b).2.1} id h.strs;have hbeg:=D9U pre inn enc {m with dec:=(O2 m.dec 4096 b).2.1} hm2 hl id fin (O2 m.dec 4096 b).1 (by omega) k3;simp only [mkH,mkC] at dies hat hbeg;simp only [A5O,A9l,mkH,mkC,hg,bO,dies];unfold B7g;by_cases h1:(O2 m.dec 4096 b).2.2.1=0
  · rw [A0 h1,A4 (by simpa using h1)]
    simp only [C3,A3,hat,bO];cases hq:C1v m.strs id with
    | false=>
      simp only [J7,L5,show decide ((-1:Int)<0)=true from rfl,A8,hbeg,bO]
    | true=>
      obtain ⟨a1,a2⟩:=B1t hq;have hs:=h.strs.2.2 _ (F3 a1);rw [<- A3r a1] at hs;unfold D6w at hs;have hmv:=fun ev hev=>D31 pre inn enc {m with dec:=(O2 m.dec 4096 b).2.1} (atM m.strs id) ev a1 hc (by simp only;omega) (by simp only;omega) hs.2.2.2.1 hev
      simp only [mkH,mkC] at hmv;simp only [M0,A1 (show ¬ (atM m.strs id:Int)<0 by omega),A3];cases fin with
      | true=>simp only [A8,hmv 2 (by omega),bO,M0]
      | false=>simp only [A3,hmv 1 (by omega),bO,J7,L5]
  · rw [A1 h1,A6 h1];rfl
end
set_option maxRecDepth 100000
theorem E5f(g:I1)(f:F6):(P9 g f).2.2=0\/(P9 g f).2.2=1\/(P9 g f).2.2=2\/(P9 g f).2.2=3\/(P9 g f).2.2=4:=by
  have hB:∀ g2,(B5H f g g2).2.2=0\/(B5H f g g2).2.2=1\/(B5H f g g2).2.2=4:=fun g2=>by
    unfold B5H;split
    · exact .inr (.inr rfl)
    · cases A2k f 4
      · exact .inl rfl
      · exact .inr (.inl rfl)
  unfold P9;cases !decide (fcV f=0)||!A8L g f
  · simp only [A3]
    unfold D5c;split
    · split
      · exact .inr (.inr (.inr (.inl rfl)))
      · rcases hB (f.2.2.1,A2k f 1,(A8K f).1) with h | h | h<;>simp [h]
    · split
      · rcases hB (g.1,g.2.1,g.2.2++f.2.2.2) with h | h | h<;>simp [h]
      · exact .inl rfl
  · exact .inr (.inr (.inl rfl))
theorem E5g{g:I1}{f:F6}(h:(P9 g f).2.2=1):(if g.1=0 then f.2.2.1 else g.1)=f.2.2.1/\(f.1=1\/f.1=9)/\(g.1=0->f.1=1)/\(g.1≠0->f.1=9):=by
  unfold P9 at h;cases hq:!decide (fcV f=0)||!A8L g f with
  | true=>rw [hq] at h;cases h
  | false=>
    have hin:A8L g f=true:=by
      cases hi:A8L g f with
      | true=>rfl
      | false=>rw [hi] at hq;simp at hq
    rw [hq] at h;simp only [A3] at h;have h19:f.1=1\/f.1=9:=by
      unfold D5c at h;by_cases h1:f.1=1
      · exact .inl h1
      · rw [A4 h1] at h
        by_cases h9:f.1=9
        · exact .inr h9
        · rw [A4 h9] at h;cases h
    unfold A8L at hin;by_cases hg:g.1=0
    · rw [A6 hg] at hin ⊢
      have:¬ f.1=9:=by simpa using hin
      exact ⟨rfl,h19,fun _=>by omega,fun q=>absurd hg q⟩
    · rw [A4 hg] at hin ⊢
      simp only [B5,I4] at hin;exact ⟨hin.2.symm,h19,fun q=>absurd q hg,fun _=>hin.1⟩
section
variable (pre:Nat) (inn:List Int) (enc:D6)
theorem E5h(m:HM)(h:HI m)(hl:HL m)(f:F6)(hf:FrI f)(hc0:fcV f=0)(hh:m.g.1≠0\/f.1=1\/f.1=9) :
    A6g (mkH (pre:Int) inn enc 0 m) f=some (D9T pre inn enc (C5A m f),()):=by
  have ho:=hl.2;have dies:=fun c=>A6k pre inn enc 0 m c (by omega)
  have hg:GaI m.g:=h.g;have hfd:=C7s hg h.gb hf (by
    by_cases h1:f.1=1
    · exact .inl (D17 hc0 h1)
    · exact .inr h1)
  have hfe:=E5W hg hf;have hm2:HI {m with g:=(P9 m.g f).1}:=⟨h.strs,h.last,h.dec,hfd.1,hfd.2.1⟩;have hbl:=fun fin=>E1e pre inn enc {m with g:=(P9 m.g f).1} hm2 hl f.2.2.1 fin (P9 m.g f).2.1 hfd.2.2.1 (by omega)
  simp only [mkH,mkC] at dies hbl;have hfin:∀ {R:Type} (K:Bool×Unit->Option R),A5 (bif (decide (f.1=1)) then some ((!decide ((W9 .i64 f.2.1 1)=0)),()) else some (m.g.2.1,())) K=K (bif decide (f.1=1) then A2k f 1 else m.g.2.1,()):=fun K=>by
    cases decide (f.1=1)<;>rfl
  have h23:∀ {R:Type} (c:Int) (K:Bool×Unit->Option R),A5 (bif (decide (c=2)) then some ((decide (c=2)),()) else some ((decide (c=3)),())) K=K (decide (c=2\/c=3),()):=fun c K=>by
    by_cases q:c=2
    · rw [A0 q,A0 (Or.inl q:c=2\/c=3)];rfl
    · rw [A1 q]
      by_cases q2:c=3
      · rw [A0 q2,A0 (Or.inr q2:c=2\/c=3)];rfl
      · rw [A1 q2,A1 (fun q3:c=2\/c=3=>q3.elim q q2)];rfl
  simp only [A6g,B0v,mkH,mkC,hfin,hfe,bO,h23,dies];unfold C5A;by_cases c23:(P9 m.g f).2.2=2\/(P9 m.g f).2.2=3
  · rw [A0 c23,A6 c23];rfl
  rw [A1 c23,A4 c23];by_cases c4:(P9 m.g f).2.2=4
  · rw [A0 c4,A6 c4];rfl
  rw [A1 c4,A4 c4];by_cases c0:(P9 m.g f).2.2=0
  · rw [A0 c0,A4 (by omega)];rfl
  have c1:(P9 m.g f).2.2=1:=by have:=E5f m.g f;omega
  obtain ⟨k1,k2,k3,k4⟩:=E5g c1;rw [A1 c0,A6 c1];simp only [A3,hbl,bO];have hfn:(bif decide (f.1=1) then A2k f 1 else m.g.2.1)=(if m.g.1=0 then A2k f 1 else m.g.2.1):=by
    by_cases hg0:m.g.1=0
    · rw [A6 hg0,A0 (k3 hg0)];rfl
    · rw [A4 hg0,A1 (by have:=k4 hg0;omega)];rfl
  rw [k1,hfn]
theorem E5i(m:HM)(h:HI m)(hl:HL m)(f:F6)(hf:FrI f):B6b (mkH (pre:Int) inn enc 0 m) f=some (D9T pre inn enc (C36 m f),()):=by
  have hc:=hl.1;have ho:=hl.2;have hn:=hf.n;have hu:=D9D f;have dies:=fun c=>A6k pre inn enc 0 m c (by omega)
  have hat:=D76 inn enc (pre:Int) 0 m f.2.2.1 h.strs;simp only [mkH,mkC] at dies hat;simp only [B6b,C2s,mkH,mkC,hat,bO,dies,D2u hf];unfold C36;cases hq:C1v m.strs f.2.2.1 with
  | false=>
    simp only [J7,L5,show decide ((-1:Int)<0)=true from rfl,A8];unfold D2n;by_cases hk:f.2.2.1>m.last
    · rw [A0 hk,A6 hk];rfl
    · rw [A1 hk,A4 hk];rfl
  | true=>
    obtain ⟨a1,a2⟩:=B1t hq;have hs:=h.strs.2.2 _ (F3 a1);rw [<- A3r a1] at hs;unfold D6w at hs;have e1:(rd E6 m.strs (atM m.strs f.2.2.1:Int))=sAt m.strs (atM m.strs f.2.2.1):=rfl;simp only [M0,A1 (show ¬ (atM m.strs f.2.2.1:Int)<0 by omega),A3,e1];cases hun:(A8K f).2 with
    | false=>rfl
    | true=>
      simp only [C3,A3,A8R,L5];rw [A0 (show (0:Int)<=(atM m.strs f.2.2.1:Int) by omega),A0 (show (atM m.strs f.2.2.1:Int)<(m.strs.length:Int) by omega),w64 (n:=((sAt m.strs (atM m.strs f.2.2.1)).2.2.2.length:Int)+((A8K f).1.length:Int)) (by omega) (by omega)];simp only [A8];by_cases h2:((sAt m.strs (atM m.strs f.2.2.1)).2.2.2.length:Int)+((A8K f).1.length:Int)>2000
      · rw [A0 h2,A6 h2];rfl
      · rw [A1 h2,A4 h2]
        simp only [A3,R1,A8];rw [gA (by omega)];simp only [bO,D5];have hsat:=E47 a1 ((sAt m.strs (atM m.strs f.2.2.1)).1,(sAt m.strs (atM m.strs f.2.2.1)).2.1,(sAt m.strs (atM m.strs f.2.2.1)).2.2.1,(sAt m.strs (atM m.strs f.2.2.1)).2.2.2++(A8K f).1);have hmv:=fun ev hev=>D31 pre inn enc (A1t m (atM m.strs f.2.2.1) ((sAt m.strs (atM m.strs f.2.2.1)).1,(sAt m.strs (atM m.strs f.2.2.1)).2.1,(sAt m.strs (atM m.strs f.2.2.1)).2.2.1,(sAt m.strs (atM m.strs f.2.2.1)).2.2.2++(A8K f).1)) (atM m.strs f.2.2.1) ev (by simp only [A1t,S6];exact a1) hc (by simp only [A1t];omega) (by simp only [A1t,hsat,B0];omega) (by simp only [A1t,hsat];exact hs.2.2.2.1) hev
        simp only [A1t,mkH,mkC] at hmv ⊢;rw [show (!decide (W9 .i64 f.2.1 1=0))=A2k f 1 from rfl];cases A2k f 1 with
        | true=>simp only [A8,hmv 4 (by omega),bO]
        | false=>simp only [A3,hmv 3 (by omega),bO]
theorem D9V(b:List Int)(hb:Byt b)(hl:b.length<=1000):∃ n,B3r b=some (n,D9F b,()):=by
  have e:=D8g b hb (by omega) 0 4 (by omega);rw [show ((4:Nat):Int)=4 from rfl] at e;simp only [B3r,C0P,e,bO];unfold D9F;cases (A1r b 0 4).2.1<;>cases decide ((b.length:Int)=4)<;>cases decide (W9 .i64 (A1r b 0 4).1 2147483647=0)<;>exact ⟨_,rfl⟩
theorem E5j(m:HM)(i:Nat)(hi:i<m.strs.length)(hl:m.strs.length<=1000000):A6C (mkH (pre:Int) inn enc 0 m) (i:Int)=some (mkH (pre:Int) inn enc 0 {m with strs:=m.strs.take i++m.strs.drop (i+1)},()):=by
  have d1:decide ((0:Int)<=(i:Int))=true:=A0 (by omega);have d2:decide ((i:Int)<(m.strs.length:Int))=true:=A0 (by omega);have d3:decide (m.strs.length<=1000000000000)=true:=A0 (by omega);have e:A6C (mkH (pre:Int) inn enc 0 m) (i:Int)=bif decide ((0:Int)<=(i:Int)) then bif decide ((i:Int)<(m.strs.length:Int)) then bif decide (m.strs.length<=1000000000000) then some ((((pre:Int),inn,m.g,m.dec,enc,(m.strs.take ((i:Int)).toNat++m.strs.drop (((i:Int)).toNat+1)),m.last,0),m.calls,m.out),()) else none else none else none:=rfl
  rw [e,d1,d2,d3,D5];rfl
theorem E1f(m:HM)(h:HI m)(hl:HL m)(f:F6)(hf:FrI f)(hg:m.g.1=0)(hc0:fcV f=0)(h1:f.1≠1)(h9:f.1≠9)(h0:f.1≠0) :
    A5Q (mkH (pre:Int) inn enc 0 m) f=some (D9T pre inn enc (frM m f),()):=by
  have ho:=hl.2;have hn:=hf.n;have dies:=fun c=>A6k pre inn enc 0 m c (by omega)
  have hat:=D76 inn enc (pre:Int) 0 m f.2.2.1 h.strs;have says4:=C9D inn enc (pre:Int) 0 m (4,1,0,[]) rfl (by omega);have says6:=C9D inn enc (pre:Int) 0 m (6,1,0,f.2.2.2) (fok 6 1 0 _ (by omega) (by omega) (by omega) (by omega)) (by omega);obtain ⟨n,hw⟩:=D9V f.2.2.2 hf.b hn;simp only [mkC] at hat;have hflag:decide (W9 .i64 f.2.1 1=0)=!A2k f 1:=by unfold A2k;rw [C8W]
  simp only [A5Q,A9m,dies,hat,bO,hw,hflag,says4,says6];have hno:¬ (m.g.1≠0\/f.1=1\/f.1=9):=fun q=>q.elim (fun q=>q hg) fun q=>q.elim h1 h9
  have e:frM m f=if f.1=4 then (0,D0S m f []) else if f.1=6 then (0,D0S m f f.2.2.2) else if f.1=5 then (1,m) else if f.1=8 then (if D9F f.2.2.2=true then (0,m) else (1,m))
      else if f.1=0 then C36 m f else if f.1=3 then C0a m f else (0,m):=by
    unfold frM;rw [hc0,A4 (by omega),A4 (by omega),A4 hno]
  rw [e];by_cases c4:f.1=4
  · rw [A0 c4,A6 c4]
    unfold D0S;cases A2k f 1
    · simp only [J1,A8,A3,c4];rfl
    · rfl
  rw [A1 c4,A4 c4];by_cases c6:f.1=6
  · rw [A0 c6,A6 c6]
    unfold D0S;cases A2k f 1
    · simp only [J1,A8,A3,c6];rfl
    · rfl
  rw [A1 c6,A4 c6];by_cases c5:f.1=5
  · rw [A0 c5,A6 c5];rfl
  rw [A1 c5,A4 c5];by_cases c8:f.1=8
  · rw [A0 c8,A6 c8]
    cases D9F f.2.2.2<;>rfl
  rw [A1 c8,A4 c8,A4 h0];by_cases c3:f.1=3
  · rw [A0 c3,A6 c3]
    unfold C0a;cases hq:C1v m.strs f.2.2.1 with
    | false=>
      simp only [J7,L5,show decide ((-1:Int)>=0)=false from rfl,A8,A3];unfold D2n;by_cases hk:f.2.2.1>m.last
      · rw [A0 hk,A6 hk];rfl
      · rw [A1 hk,A4 hk];rfl
    | true=>
      obtain ⟨a1,a2⟩:=B1t hq;simp only [M0,A0 (show (atM m.strs f.2.2.1:Int)>=0 by omega),A8,E5j pre inn enc m _ a1 (by have:=h.strs.1;omega),bO];rfl
  · rw [A1 c3,A4 c3];rfl
theorem E1g(m:HM)(h:HI m)(hl:HL m)(f:F6)(hf:FrI f):A5S (mkH (pre:Int) inn enc 0 m) f=some (D9T pre inn enc (frM m f),()):=by
  have ho:=hl.2;have hg:=h.g;have dies:=fun c=>A6k pre inn enc 0 m c (by omega)
  simp only [A5S,A9n,C38,bO,dies];by_cases c2:fcV f=2
  · have e:frM m f=(6,m):=by unfold frM;rw [A6 c2]
    rw [A0 c2,e];rfl
  by_cases c3:fcV f=3
  · have e:frM m f=(1,m):=by unfold frM;rw [A4 c2,A6 c3]
    rw [A1 c2,A0 c3,e];rfl
  have c0:fcV f=0:=by have:=D72 f;omega
  rw [A1 c2,A1 c3];simp only [A3];have hcond:∀ {R:Type} (K:Bool×Unit->Option R),A5 (bif (decide (m.g.1>0)) then some (true,()) else bif (decide (f.1=1)) then some (true,()) else some ((decide (f.1=9)),())) K=K (decide (m.g.1≠0\/f.1=1\/f.1=9),()):=fun K=>by
    have hgs:m.g.1>0↔m.g.1≠0:=by
      rcases hg with ⟨q,_⟩ | ⟨q,_⟩<;>omega
    by_cases q1:m.g.1>0
    · rw [A0 q1,A0 (Or.inl (hgs.1 q1):m.g.1≠0\/f.1=1\/f.1=9)];rfl
    · rw [A1 q1]
      have q1':¬ m.g.1≠0:=fun q=>q1 (hgs.2 q)
      by_cases q2:f.1=1
      · rw [A0 q2,A0 (Or.inr (Or.inl q2):m.g.1≠0\/f.1=1\/f.1=9)];rfl
      · rw [A1 q2]
        by_cases q3:f.1=9
        · rw [A0 q3,A0 (Or.inr (Or.inr q3):m.g.1≠0\/f.1=1\/f.1=9)];rfl
        · rw [A1 q3,A1 (fun q:m.g.1≠0\/f.1=1\/f.1=9=>q.elim q1' fun q=>q.elim q2 q3)];rfl
  have hcond':A5 (bif (decide ((mkH (pre:Int) inn enc 0 m).1.2.2.1.1>0)) then some (true,()) else bif (decide (f.1=1)) then some (true,()) else some ((decide (f.1=9)),()))=fun (K:Bool×Unit->Option (E5×Unit))=>K (decide (m.g.1≠0\/f.1=1\/f.1=9),()):=funext fun K=>hcond K
  rw [hcond'];simp only [];by_cases hh:m.g.1≠0\/f.1=1\/f.1=9
  · have e:frM m f=C5A m f:=by unfold frM;rw [A4 c2,A4 c3,A6 hh]
    rw [A0 hh,e,A8,E5h pre inn enc m h hl f hf c0 hh];rfl
  · rw [A1 hh,A3]
    have hg0:m.g.1=0:=Classical.byContradiction fun q=>hh (.inl q)
    have hn1:f.1≠1:=fun q=>hh (.inr (.inl q))
    have hn9:f.1≠9:=fun q=>hh (.inr (.inr q))
    by_cases h0:f.1=0
    · have e:frM m f=C36 m f:=by
        unfold frM;rw [A4 c2,A4 c3,A4 hh,A4 (by omega),A4 (by omega),A4 (by omega),A4 (by omega),A6 h0]
      rw [A0 h0,e,A8,E5i pre inn enc m h hl f hf];rfl
    · rw [A1 h0,A3,E1f pre inn enc m h hl f hf hg0 c0 hn1 hn9 h0]
      rfl
end
theorem E5k(enc:D6){st:BS}(h:BI st)(hd:st.dead=0)(hl:HL st.m){x:Int}(hx:0<=x/\x<256):A1H (bsH enc st) x=some (bsH enc (A3K st x),()):=by
  have ho:=hl.2;have hpre:=h.pre;have hil:=C4O h.more;obtain ⟨pre,inn,dead,m⟩:=st;simp only at hd hpre hil hl ho;subst hd;have hm:HI m:=h.hi;unfold A3K;simp only [ne_eq,not_true,L5];by_cases hp:pre<24
  · have dies:=fun c=>A6k pre inn enc 0 m c (by omega)
    have hsz:((⟨#[80,82,73,32,42,32,72,84,84,80,47,50,46,48,13,10,13,10,83,77,13,10,13,10]⟩:X0).size:Int)=24:=rfl;simp only [mkH,mkC] at dies;simp only [A1H,A6h,bsH,mkH,mkC,hsz,A0 (show (pre:Int)<24 by omega),A0 (show (0:Int)<=(pre:Int) by omega),A8,dies,bO,w64 (n:=(pre:Int)+1) (by omega) (by omega)];rw [A6 hp];by_cases hq:x=bt priS (pre:Int)
    · rw [A0 hq,A6 hq];rfl
    · rw [A1 hq,A4 hq];rfl
  · rw [A4 hp]
    have hb:Byt (inn ++ [x]):=D2p h.inb hx;have hge:=C2v (inn ++ [x]) hb (by rw [B0,H0];omega) 0 (by omega);obtain ⟨g1,g2⟩:=B6g (b:=inn ++ [x]) (a:=0) (by omega);rw [Q4,show ((0:Nat):Int)=0 from rfl] at g1 g2;simp only [A1H,A6h,bsH,mkH,mkC,A1 (show ¬ (pre:Int)<24 by omega),A3];rw [gA (by simp;omega),hge];simp only [bO,g1];rcases B8W (inn ++ [x]) with hc | hc | hc
    · have hfr:=C4M hb hc
      rw [hc,A1 (show ¬ ((0:Nat):Int)=2 by omega),A0 (show ((0:Nat):Int)=0 by omega),A4 (by omega),A4 (by omega),(g2 hc).1];have e:=E1g pre [] enc m hm hl (A0A (inn ++ [x])) hfr;simp only [mkH,mkC] at e;simp only [A3,A8,e,bO];unfold D9T;by_cases hz:(frM m (A0A (inn ++ [x]))).1=0
      · rw [A6 hz,A6 hz]
      · rw [A4 hz,A4 hz]
    · rw [hc,A1 (show ¬ ((1:Nat):Int)=2 by omega),A1 (show ¬ ((1:Nat):Int)=0 by omega),A6 rfl]
      rfl
    · rw [hc,A0 (show ((2:Nat):Int)=2 by omega),A4 (by omega),A6 rfl]
      have dies:=A6k pre (inn ++ [x]) enc 0 m 6 (by omega);simp only [mkH,mkC] at dies;simp only [A8,dies,bO]
set_option maxRecDepth 100000
abbrev D9W(enc:D6)(st:BS):Int×Int×Bool×Int×List B1×Int×Int×Int×List Int×List Int×List B1×List L7×List N3×List Int×Unit:=
  ((st.pre:Int),st.m.g.1,st.m.g.2.1,st.m.dec.1,st.m.dec.2,enc.1,st.m.last,st.dead,st.inn,st.m.g.2.2,enc.2,st.m.strs,st.m.calls,st.m.out,())
theorem D0K(enc:D6)(b:List Int)(hb:Byt b)(hl:b.length<=900000000):∀ (k i:Nat) (st:BS),i+k=b.length->BI st->st.m.calls.length<=i->st.m.out.length<=1200*i->
    F4 (T8 A1H b (true,())) ((i:Int),D9W enc st)=some (D9W enc (S0 st (b.drop i)))
  | 0,i,st,hi,h,hc,ho=>by
    have h1:¬ (i:Int)<(b.length:Int):=by omega
    rw [G8];simp only [T8,D9W,A1 h1,A3];rw [A0q (by omega)];rfl
  | k+1,i,st,hi,h,hc,ho=>by
    have h1:(i:Int)<(b.length:Int):=by omega
    have h2:(0:Int)<=(i:Int):=by omega
    have w1:i64.wrap ((i:Int)+1)=((i+1:Nat):Int):=by rw [w64 (by omega) (by omega)];omega
    have hx:=hb _ (F3 (show i<b.length by omega));have hr:rd (.int .u8) b (i:Int)=b[i]:=C2u (by omega);have hd:b.drop i=b[i]::b.drop (i+1):=I5 (by omega);rw [G8];by_cases h0:st.dead=0
    · obtain ⟨k1,k2,k3⟩:=D2q h hx
      have e:=E5k enc h h0 ⟨by omega,by omega⟩ hx;have ih:=D0K enc b hb hl k (i+1) (A3K st b[i]) (by omega) k1 (by omega) (by omega);simp only [bsH,mkH,mkC] at e;simp only [T8,D9W,A0 h1,A0 h2,A0 h0,A8,bSl,hr,w1];rw [show (((st.pre:Int),(st.inn,((st.m.g.1,(st.m.g.2.1,st.m.g.2.2)),((st.m.dec.1,st.m.dec.2),((enc.1,enc.2),(st.m.strs,(st.m.last,st.dead))))))),(st.m.calls,st.m.out))=(((st.pre:Int),st.inn,st.m.g,st.m.dec,enc,st.m.strs,st.m.last,st.dead),st.m.calls,st.m.out) from rfl,e];simp only [bO];rw [hd];exact ih
    · simp only [T8,D9W,A0 h1,A1 h0,A8,A3]
      rw [A8k st h0];rfl
theorem F0d{enc:D6}(he:A1S enc){st:BS}(h:BI st):C58 (bsC enc st):=by
  have hsl:=h.hi.strs.1;have hdl:=A7v h.hi.dec;have hel:=A7v he;have hgl:=h.hi.g;have hil:=C4O h.more;exact ⟨by simp only;omega,(by rcases hgl with ⟨_,_,q⟩ | ⟨_,_,q⟩;(simp only [q];simp);(simp only;omega)),by simp only;omega,by simp only;omega,by simp only;omega,fun x hx=>by have:=(h.hi.strs.2.2 x hx).2.2.2.2;omega⟩
theorem D32{enc:D6}(he:A1S enc){st:BS}(h:BI st)(hc:st.m.calls = [])(ho:st.m.out = [])(hok:A3b (bsC enc st)=some (true,())){b:List Int}(hb:Byt b)(hl:b.length<=900000000) :
    T5 (bsC enc st) b=some (bsC enc (S0 st b),(S0 st b).m.calls,(S0 st b).m.out,()):=by
  have hcp:=D2T (bsC enc st) (F0d he h);have e:=D0K enc b hb hl b.length 0 st (by omega) h (by rw [hc];simp) (by rw [ho];simp);rw [Q4,show ((0:Nat):Int)=0 from rfl] at e;obtain ⟨k1,k2,k3⟩:=C4N h hb;rw [hc] at k2;rw [ho] at k3;simp only [M3,E8] at k2 k3;simp only [T5,A3q,hcp,hok,bO];have e':F4 (T8 A1H b (true,())) (0,(st.pre:Int),st.m.g.1,st.m.g.2.1,st.m.dec.1,st.m.dec.2,enc.1,st.m.last,st.dead,st.inn,st.m.g.2.2,enc.2,st.m.strs,[],[],())=some (D9W enc (S0 st b)):=by
    have e2:=e;simp only [D9W,hc,ho] at e2;exact e2
  rw [e'];simp only [bO,D9W];rw [D42 (by simp;omega),gA (by simp;omega)];rfl
theorem E1h(c:J5)(hS:C58 c)(hok:A3b c=some (false,()))(b:List Int):T5 c b=some (c,[],[],()):=by
  have hcp:=D2T c hS;simp only [T5,A3q,hcp,hok,bO];rw [G8];simp only [T8];cases decide ((0:Int)<(b.length:Int))<;>rfl
theorem E1i(c:J5)(hS:C58 c)(hok:A5l c=some (false,()))(b:List Int):A2Q c b=some (c,[],[],()):=by
  have hcp:=D0D c hS;simp only [A2Q,B1b,hcp,hok,bO];cases decide (c.2.2.2.2.2.2.2>0)<;>rfl
set_option maxRecDepth 100000
theorem B2V{p:Prop}(h:(some (false,()):Option (Bool×Unit))=some (true,())):p:=by cases h
theorem E8j{c:J5}(h:C1l c=true):B8V c.2.2.2.2.2.1 c.2.2.2.2.2.2.1:=by
  unfold C1l at h;simp only [B5,I4] at h;obtain ⟨h1,h2⟩:=h;have hgo:∀ i,i<c.2.2.2.2.2.1.length->A9o c i=true:=fun i hi=>B6f (A9o c) c.2.2.2.2.2.1.length 0 i (by omega) (by omega)
  have hone:∀ i (hi:i<c.2.2.2.2.2.1.length),D6w c.2.2.2.2.2.2.1 (c.2.2.2.2.2.1[i])/\(0<i->(c.2.2.2.2.2.1[i-1]'(by omega)).1<(c.2.2.2.2.2.1[i]).1):=fun i hi=>by
    have h3:=hgo i hi;unfold A9o at h3;have e:rd E6 c.2.2.2.2.2.1 (i:Int)=c.2.2.2.2.2.1[i]:=A15 (k:=E6) hi;rw [e] at h3;simp only [B5,L6,I4,V0,A1j] at h3;obtain ⟨⟨⟨⟨a1,a2⟩,a3⟩,a4⟩,a5⟩:=h3;refine ⟨⟨a1,a2.1,a2.2,a4,by omega⟩,fun h0=>?_⟩;have e1:rd E6 c.2.2.2.2.2.1 ((i:Int)-1)=c.2.2.2.2.2.1[i-1]'(by omega):=by
      rw [show (i:Int)-1=((i-1:Nat):Int) by omega];exact A15 (k:=E6) (by omega)
    rw [e1] at a3;rcases a3 with a3 | a3
    · omega
    · exact Int.not_le.1 a3
  refine ⟨by omega,?_,fun s hs=>?_⟩
  · rw [B5r]
    intro i j hi hj hij;simp only [List.getElem_map];have key:∀ d k (hk:k+d+1<c.2.2.2.2.2.1.length),(c.2.2.2.2.2.1[k]'(by omega)).1<(c.2.2.2.2.2.1[k+d+1]).1:=by
      intro d
      induction d with
      | zero=>
        intro k hk;have:=(hone (k+0+1) hk).2 (by omega);simpa using this
      | succ d ih=>
        intro k hk;have a:=ih k (by omega);have b:=(hone (k+(d+1)+1) hk).2 (by omega);have e:k+(d+1)+1-1=k+d+1:=by omega
        simp only [e] at b;exact Int.lt_trans a b
    simp only [S5] at hi hj;have:=key (j-i-1) i (by omega);have e:i+(j-i-1)+1=j:=by omega
    simp only [e] at this;exact this
  · obtain ⟨i,hi,rfl⟩:=A65.1 hs
    exact (hone i hi).1
theorem E1j(c:J5)(hin:List.length c.2.1<=1048576)(hst:List.length c.2.2.2.2.2.1<=1048576)(hd:List.length c.2.2.2.1.2<=1048576)(he:List.length c.2.2.2.2.1.2<=1048576)(hb:Byt c.2.1)(hgb:Byt c.2.2.1.2.2)(z1:szT c.2.2.2.1.2<=10000000000000)(z2:szT c.2.2.2.2.1.2<=10000000000000)(hk:A3b c=some (true,())) :
    ∃ enc st,c=bsC enc st/\A1S enc/\BI st/\st.m.calls = []/\st.m.out = []:=by
  obtain ⟨g,hg⟩:=C54 c.2.2.1;obtain ⟨t1,ht1⟩:=B3s c.2.2.2.1 (by simp only [maxLen];omega);obtain ⟨t2,ht2⟩:=B3s c.2.2.2.2.1 (by simp only [maxLen];omega);have e6:=C55 _ hb hin 0 (by omega);have e7:=(B6g (b:=c.2.1) (a:=0) (by omega)).1;rw [Q4,show ((0:Nat):Int)=0 from rfl] at e7;simp only [A3b,C0C,hg,ht1,ht2,A1A] at hk;rw [D5M c (by simp only [maxLen];omega),e6] at hk;simp only [bO,e7] at hk;cases q1:decide (0<=c.1/\c.1<=24)
  case false=>rw [q1] at hk;exact B2V hk
  rw [q1] at hk;cases g
  case false=>exact B2V hk
  cases t1
  case false=>exact B2V hk
  cases t2
  case false=>exact B2V hk
  cases q2:decide (0<=c.2.2.2.2.2.2.1/\c.2.2.2.2.2.2.1<=2147483647)
  case false=>rw [q2] at hk;exact B2V hk
  rw [q2] at hk;cases q3:C1l c
  case false=>rw [q3] at hk;exact B2V hk
  rw [q3] at hk;cases q4:decide ((c.2.1.length:Int)>1100)
  case true=>rw [q4] at hk;exact B2V hk
  rw [q4] at hk;cases q5:decide (0<=c.2.2.2.2.2.2.2/\c.2.2.2.2.2.2.2<=20)
  case false=>rw [q5] at hk;exact B2V hk
  rw [q5] at hk;simp only [C3,A3,bSl] at hk;cases q6:decide ((codeF c.2.1:Int)=1)
  case false=>rw [q6] at hk;exact B2V hk
  rw [q6] at hk;simp only [C3,A3] at hk;simp only [I4] at q1 q2 q5 q6;have hin0:c.1<24->c.2.1.length=0:=fun h24=>by
    rw [A0 h24] at hk;cases q7:decide ((c.2.1.length:Int)>0)
    case true=>rw [q7] at hk;exact B2V hk
    simp only [A1j] at q7;omega
  have hm:∀ {R:Type} (K:Unit->Option R) (x:R),I2 (bif (decide (c.1<24)) then bif (decide ((c.2.1.length:Int)>0)) then some (.inr x) else some (.inl ()) else some (.inl ())) K=K ():=fun K x=>by
    by_cases h24:c.1<24
    · rw [A0 h24,A1 (show ¬ (c.2.1.length:Int)>0 by have:=hin0 h24;omega)];rfl
    · rw [A1 h24];rfl
  rw [hm] at hk;have hdead:c.2.2.2.2.2.2.2≠0->c.2.1.length=0/\c.2.2.2.2.2.1.length=0/\c.2.2.1.1=0:=fun hne=>by
    rw [A1 hne] at hk;cases q8:decide ((c.2.1.length:Int)=0)
    case false=>rw [q8] at hk;exact B2V hk
    rw [q8] at hk;cases q9:decide ((c.2.2.2.2.2.1.length:Int)=0)
    case false=>rw [q9] at hk;exact B2V hk
    rw [q9] at hk;cases q10:decide (c.2.2.1.1=0)
    case false=>rw [q10] at hk;exact B2V hk
    simp only [I4] at q8 q9 q10;exact ⟨by omega,by omega,q10⟩
  have hgI:GaI c.2.2.1:=by
    simp only [A2A,A9a,A1A,bO] at hg;by_cases g0:c.2.2.1.1=0
    · rw [A0 g0] at hg
      cases g1:c.2.2.1.2.1
      case true=>rw [g1] at hg;exact B2V hg
      rw [g1] at hg;cases g2:decide ((c.2.2.1.2.2.length:Int)=0)
      case false=>rw [g2] at hg;exact B2V hg
      simp only [I4] at g2;exact .inl ⟨g0,g1,N8.1 (by omega)⟩
    · rw [A1 g0] at hg
      cases g1:decide (1<=c.2.2.1.1/\c.2.2.1.1<=2147483647)
      case false=>rw [g1] at hg;exact B2V hg
      rw [g1] at hg;cases g2:decide ((c.2.2.1.2.2.length:Int)<=3000)
      case false=>rw [g2] at hg;exact B2V hg
      simp only [I4] at g1 g2;exact .inr ⟨g1.1,g1.2,by omega⟩
  refine ⟨c.2.2.2.2.1,⟨c.1.toNat,c.2.1,c.2.2.2.2.2.2.2,⟨c.2.2.1,c.2.2.2.1,c.2.2.2.2.2.1,c.2.2.2.2.2.2.1,[],[]⟩⟩,?_,E8C z2 ht2,?_,rfl,rfl⟩
  · show c=((c.1.toNat:Int),c.2.1,c.2.2.1,c.2.2.2.1,c.2.2.2.2.1,c.2.2.2.2.2.1,c.2.2.2.2.2.2.1,c.2.2.2.2.2.2.2)
    rw [show (c.1.toNat:Int)=c.1 by omega]
  · refine ⟨by simp only;omega,⟨E8j q3,q2,E8C z1 ht1,hgI,hgb⟩,hb,by simp only;omega,fun hq=>?_,fun hne=>?_,q5⟩
    · rcases hq with hq | hq
      · exact N8.1 (hin0 (by simp only at hq;omega))
      · exact N8.1 (hdead hq).1
    · obtain ⟨a,b,d⟩:=hdead hne
      exact ⟨N8.1 b,d⟩
theorem E5l(c:J5)(h:Sm 1048576 B8J c)(hb:Byt c.2.1)(hgb:Byt c.2.2.1.2.2)(z1:szT c.2.2.2.1.2<=10000000000000)(z2:szT c.2.2.2.2.1.2<=10000000000000)(hk:A3b c=some (true,())) :
    ∃ enc st,c=bsC enc st/\A1S enc/\BI st/\st.m.calls = []/\st.m.out = []:=
  E1j c (Sm.l (Sm.r h)).1 (Sm.l (Sm.r (Sm.r (Sm.r (Sm.r (Sm.r h)))))).1 (Sm.r (Sm.l (Sm.r (Sm.r (Sm.r h))))).1 (Sm.r (Sm.l (Sm.r (Sm.r (Sm.r (Sm.r h)))))).1 hb hgb z1 z2 hk
set_option maxRecDepth 100000
theorem D77(a:List B1)(h:a.length<=2000000):B3R a a=some (true,()):=by
  simp only [B3R,B9O,R1,C3,A3];refine D6S _ a.length (by simp only [maxLen];omega) (fun i hi=>?_) (by simp [B4m]);have h1:((i:Int)<(a.length:Int)):=by omega
  have h2:(0:Int)<=(i:Int):=by omega
  simp only [B4m,A0 h1,A0 h2,A8];rw [A15 (k:=B8) (xs:=a) hi,show B6A a[i] a[i]=some (true,()) by simp [B6A,C2c,A5]];rfl
theorem D0L(a:D6)(h:a.2.length<=2000000):B6C a a=some (true,()):=by
  simp [B6C,C2d,A5,D77 a.2 h]
theorem D5o(a:B7G):B8M a a=some (true,()):=by simp [B8M,C8q,A5]
theorem E1k(a:List L7)(h:a.length<=2000000)(hb:∀ x∈a,x.2.2.2.length<=2000000):B9T a a=some (true,()):=by
  simp only [B9T,C5i,R1,C3,A3];refine D6S _ a.length (by simp only [maxLen];omega) (fun i hi=>?_) (by simp [B9R]);have h1:((i:Int)<(a.length:Int)):=by omega
  have h2:(0:Int)<=(i:Int):=by omega
  have h3:=hb _ (F3 hi);simp only [B9R,A0 h1,A0 h2,A8];rw [A15 (k:=E6) (xs:=a) hi,show C4F a[i] a[i]=some (true,()) by simp [C4F,C8r,A5,D5o,A6i a[i].2.2.2 (by simp only [maxLen];omega)]];rfl
theorem D9a(a:List N3)(h:a.length<=2000000)(hb:∀ x∈a,x.2.2.1.length<=2000000):B2Q a a=some (true,()):=by
  simp only [B2Q,C2t,R1,C3,A3];refine D6S _ a.length (by simp only [maxLen];omega) (fun i hi=>?_) (by simp [B7f]);have h1:((i:Int)<(a.length:Int)):=by omega
  have h2:(0:Int)<=(i:Int):=by omega
  have h3:=hb _ (F3 hi);simp only [B7f,A0 h1,A0 h2,A8];rw [A15 (k:=M6) (xs:=a) hi,show C0Q a[i] a[i]=some (true,()) by simp [C0Q,C64,A5,D5o,A6i a[i].2.2.1 (by simp only [maxLen];omega)]];rfl
theorem D33(c:J5)(h:C58 c):B4n c c=some (true,()):=by
  obtain ⟨h1,h2,h3,h4,h5,h6⟩:=h;simp [B4n,C5j,A5,B9Q,B9P,A6i c.2.1 (by simp only [maxLen];omega),A6i c.2.2.1.2.2 (by simp only [maxLen];omega),D0L _ h3,D0L _ h4,E1k _ h5 h6]
theorem E8k(a:List N3)(h:a.length<=1048576):MH (B1p a) B1r (cost (fun u=>List.length u.2.2.1+5) a):=by
  refine E3d (A7t V9 O0) (A7u W3 O0) (fun u=>List.length u.2.2.1+5) a h (fun i hi m h0 h1=>?_) (fun m b hb=>by simp [A7t,hb]) (fun m b hb=>by simp [A7u,hb]);obtain ⟨m1,d,e1,b1,b2,e2⟩:=B8R a[i].2.2.1 (m+1+1+1+1) (by omega) (by omega);have w1:i64.wrap (m+1)=m+1:=w64 (by omega) (by omega);have w2:i64.wrap (m+1+1)=m+1+1:=w64 (by omega) (by omega);have w3:i64.wrap (m+1+1+1)=m+1+1+1:=w64 (by omega) (by omega);have w4:i64.wrap (m+1+1+1+1)=m+1+1+1+1:=w64 (by omega) (by omega);have w5:i64.wrap (m1+1)=m1+1:=w64 (by omega) (by omega);have wi:i64.wrap ((i:Int)+1)=(i:Int)+1:=w64 (by omega) (by omega);have g1:(0:Int)<=(i:Int):=by omega
  have ht:=A8i (m+1+1) (by omega);refine ⟨m1+1,(m,(m+1,mt (m+1+1),m+1+1+1),d,m1),by omega,by omega,fun b hb e=>?_,fun b hb e=>?_⟩
  · have hib:i<b.length:=by omega
    have g2:(i:Int)<(b.length:Int):=by omega
    have hr:rd M6 b (i:Int)=a[i]:=by rw [A15 (k:=M6) (xs:=b) (by omega)];exact e
    simp only [A7t,A5,S6,A0 g1,A0 g2,A8,D5,w1,w2,w3,w4,wi,List.set_set,E7u (k:=M6) hib,hr,ht,e1,w5]
  · have g2:(i:Int)<(b.length:Int):=by omega
    have hr:rd M6 b (i:Int)=(m,(m+1,mt (m+1+1),m+1+1+1),d,m1):=by rw [A15 (k:=M6) (xs:=b) (by omega)];exact e
    simp only [A7u,A5,A0 g1,A0 g2,A8,w1,w2,w3,w4,w5,wi,hr,ht,e2];rw [A1 (show ¬ m1<0 by omega)];simp
theorem D34:∀ a:List N3,(∀ x∈a,x.2.2.1.length<=2000)->cost (fun u:N3=>List.length u.2.2.1+5) a<=2005*a.length
  | [],_=>by simp [cost]
  | x::a,h=>by
    have h1:=D34 a fun y hy=>h y (B6 _ hy)
    have h2:=h x A9;simp only [cost,H2,List.sum_cons,F0] at h1 ⊢;omega
theorem E5m(c:J5)(hs:Sm 1048576 B8J c)(hS:C58 c)(hl5:c.2.2.2.2.2.1.length<=1048576)(hb:Byt c.2.1)(hgb:Byt c.2.2.1.2.2)(z1:szT c.2.2.2.1.2<=10000000000000)(z2:szT c.2.2.2.2.1.2<=10000000000000)(b:List Int)(hbb:Byt b)(hl:b.length<=1048576) :
    ∃ C K o,T5 c b=some (C,K,o,())/\A2Q c b=some (C,K,o,())/\C58 C/\C.2.2.2.2.2.1.length<=1048576/\K.length<=1048576/\(∀ x∈K,x.2.2.1.length<=2000)/\o.length<=1300000000:=by
  obtain ⟨r,k1,k2⟩:=E54 c hs hb;cases r with
  | false=>exact ⟨c,[],[],E1h c hS k1 b,E1i c hS k2 b,hS,hl5,by simp,(fun x hx=>by cases hx),by simp⟩
  | true=>
    obtain ⟨enc,st,rfl,he,h,hc,ho⟩:=E5l c hs hb hgb z1 z2 k1;obtain ⟨m1,m2,m3⟩:=C4N h hbb;have hci:=D5g h hbb (by rw [hc];exact fun x hx=>by cases hx);rw [hc] at m2;rw [ho] at m3;simp only [M3,E8] at m2 m3;have hsl:=m1.hi.strs.1;exact ⟨_,_,_,D32 he h hc ho k1 hbb (by omega),D2t enc he h hc ho hbb (by omega),F0d he m1,by simp only;omega,by omega,hci,by omega⟩
theorem exactHearBytes(c:J5)(b:List Int)(hw:Sm maxLen B8J c)(hb:Byt c.2.1)(hgb:Byt c.2.2.1.2.2)(hbb:Byt b):A5u c b=some (true,()):=by
  simp only [A5u,A5t];by_cases hlb:(b.length:Int)>1048576
  · rw [A0 hlb];rfl
  rw [A1 hlb];simp only [A3];obtain ⟨l,e,h1,h2⟩:=E4v c hw 1048576 (by omega) (by omega);rw [e];simp only [bO];by_cases hl:l<0
  · rw [A0 hl];rfl
  rw [A1 hl];have hs:Sm 1048576 B8J c:=h2 (by omega);have hs':=hs;obtain ⟨m0,m1,m2,m3,m4,m5,m6⟩:=hs';have l1:List.length c.2.1<=1048576:=m1.1;have l2:List.length c.2.2.1.2.2<=1048576:=m2.2.2.1;have l3:List.length c.2.2.2.1.2<=1048576:=m3.2.1;have l4:List.length c.2.2.2.2.1.2<=1048576:=m4.2.1;have l5:List.length c.2.2.2.2.2.1<=1048576:=m5.1;have l6:∀ x∈c.2.2.2.2.2.1,x.2.2.2.length<=2000000:=fun x hx=>by
    have:List.length x.2.2.2<=1048576:=(m5.2 x hx).2.2.2.1;omega
  have hS:C58 c:=⟨by omega,by omega,by omega,by omega,by omega,l6⟩;have z1:szT c.2.2.2.1.2<=10000000000000:=by
    have:=E1L 1048576 c.2.2.2.1.2 m3.2.2;omega
  have z2:szT c.2.2.2.2.1.2<=10000000000000:=by
    have:=E1L 1048576 c.2.2.2.2.1.2 m4.2.2;omega
  obtain ⟨C,K,o,g1,g2,g3,g4,g5,g6,g7⟩:=E5m c hs hS l5 hb hgb z1 z2 b hbb (by omega);obtain ⟨n1,y1,y2,y3,y4,y5,k1,k2,k3,k4⟩:=E3n c hS l5;obtain ⟨n2,yb,r1,r2,r3,r4⟩:=B8R b n1 (by omega) (by omega);obtain ⟨n3,w1,w2,w3,w4,w5,p1,p2,p3,p4⟩:=E3n C g3 g4;have hck:=D34 K g6;obtain ⟨n4,v,t1,t2,t3,t4⟩:=E8k K g5 n3 (by omega) (by omega);obtain ⟨n5,u,u1,u2,u3,u4⟩:=B8R o n4 (by omega) (by omega);have q1:=D33 c hS;have q2:=D33 C g3;have q3:=A6i o (by simp only [maxLen];omega);have q4:=A6i b (by simp only [maxLen];omega);have q5:=D9a K (by omega) (fun x hx=>by have:=g6 x hx;omega);have q6:=D2I b (by omega);simp only [A3,E50 c hs,q6,bO,g1,g2,q1,q2,q3,q4,q5,C3,bSl,k1,r1];rw [A1 (show ¬ n2<0 by omega)];simp only [A3,bSl,p1,t1,u1,bO,p4];rw [A1 (show ¬ n3<0 by omega)];simp only [A3,t4,bO];rw [A1 (show ¬ n4<0 by omega)];simp only [A3,u4,bO];rw [A1 (show ¬ n5<0 by omega)];simp
end Go.Proofs.YthnfghmjipikhaaGreatDoor.Ev
