/- What the plain functions of the program and of the reference answer: laws of plain data. -/
import Derived.Test.YthnfghmjipikhaaGreatDoorXWholea
set_option linter.unusedVariables false
set_option linter.unusedSimpArgs false
set_option linter.unusedSectionVars false
namespace Go.Proofs.YthnfghmjipikhaaGreatDoor.Ev
set_option maxRecDepth 100000
set_option maxRecDepth 100000
set_option maxRecDepth 100000
set_option maxRecDepth 100000
set_option maxRecDepth 100000
set_option maxRecDepth 100000
set_option maxRecDepth 100000
set_option maxRecDepth 100000
set_option maxRecDepth 100000
set_option maxRecDepth 100000
set_option maxRecDepth 100000
set_option maxRecDepth 100000
set_option maxRecDepth 100000
set_option maxRecDepth 100000
set_option maxRecDepth 100000
set_option maxRecDepth 100000
section
variable {b:List Int} (hb:Byt b) (hl:b.length<=500000000)
include hb hl
end
set_option maxRecDepth 100000
set_option maxRecDepth 100000
set_option maxRecDepth 100000
def B23(l:List A5):A1m×Int:=
  bif D5q l then
    (if opB (A0I l nM l.length)=0 then (noR,2)
     else bif (B2R (A0I l nP l.length)).2&&idB (B2R (A0I l nP l.length)).1 then
      (bif ((A9g (opB (A0I l nM l.length))).1.toList == (⟨#[]⟩:X0).toList) then ((opB (A0I l nM l.length),(B2R (A0I l nP l.length)).1,0),0)
       else bif decide (A43 l (A9g (opB (A0I l nM l.length))).1 l.length=1)&&E07 (A0I l (A9g (opB (A0I l nM l.length))).1 l.length) (A9g (opB (A0I l nM l.length))).2
         then ((opB (A0I l nM l.length),(B2R (A0I l nP l.length)).1,(B0M (A0I l (A9g (opB (A0I l nM l.length))).1 l.length) (A0I l (A9g (opB (A0I l nM l.length))).1 l.length).size:Int)),0) else (noR,4))
     else (noR,3))
  else (noR,1)
theorem D3G(s:X0)(a b:Nat):(s.extract a b).size<=s.size:=by rw [ByteArray.size_extract];omega
theorem E08(s:X0):(B2R s).1.size<=s.size:=by
  unfold B2R;cases decide (4<=s.size)&&((s.extract 0 4).toList == nUp.toList)
  · exact Nat.le_refl _
  · exact D3G _ _ _
theorem D3H(l:List A5)(hl:l.length<=1000)(hn:∀ f∈l,f.1.size<=10000/\f.2.size<=10000):B0D l=some ((B23 l).1,(B23 l).2,()):=by
  have hv:=fun name=>D5s hn name l.length (Nat.le_refl _)
  have hi:(B2R (A0I l nP l.length)).1.size<=maxLen:=by have:=E08 (A0I l nP l.length);have:=hv nP;simp only [maxLen];omega
  simp only [B0D,B91,D0g l (by omega) (fun f hf=>by have:=(hn f hf).1;omega),bO];unfold B23;cases D5q l
  case false=>rfl
  simp only [Bool.not_true,cond_false,cond_true];have v1:=A13 l nM (by omega);have v2:=A13 l nP (by omega);simp only [v1,v2,bO,D7H];by_cases h0:opB (A0I l nM l.length)=0
  · rw [A0 h0,if_pos h0];rfl
  rw [A3 h0,if_neg h0];simp only [cond_false];have hc:P2 (A0I l nP l.length) nUp=some ((B2R (A0I l nP l.length)).1,(B2R (A0I l nP l.length)).2,()):=by
    rw [C3K];unfold B2R;cases decide (4<=(A0I l nP l.length).size)&&(((A0I l nP l.length).extract 0 4).toList == nUp.toList)<;>rfl
  rw [hc];simp only [bO,D5Q _ hi,B0N];cases (B2R (A0I l nP l.length)).2
  case false=>rfl
  cases idB (B2R (A0I l nP l.length)).1
  case false=>rfl
  simp only [Bool.not_true,cond_false,bSl,Bool.and_self,cond_true];cases ((A9g (opB (A0I l nM l.length))).1.toList == (⟨#[]⟩:X0).toList)
  case true=>rfl
  simp only [cond_false];rw [A13 l _ (by omega)];simp only [bO];rw [B5D _ _ (D7I _)];simp only [bO];by_cases h1:A43 l (A9g (opB (A0I l nM l.length))).1 l.length=1
  · rw [A0 (show (A43 l (A9g (opB (A0I l nM l.length))).1 l.length:Int)=1 by omega),A0 h1]
    simp only [Bool.not_true,cond_false,Bool.true_and];cases E07 (A0I l (A9g (opB (A0I l nM l.length))).1 l.length) (A9g (opB (A0I l nM l.length))).2<;>rfl
  · rw [A3 (show ¬ (A43 l (A9g (opB (A0I l nM l.length))).1 l.length:Int)=1 by omega),A3 h1]
    rfl
noncomputable def stV(st ev:Int):Int×Int:=match K1 st ev with
  | some x=>(x.1,x.2.1)
  | none=>(0,1)
theorem D7J(ev:Int):∃ a b,A4e ev=some (a,b,()):=by
  simp only [A4e,B1l];cases decide (ev=1)<;>cases decide (ev=2)<;>cases decide (ev=6)<;>cases decide (ev=7)<;>exact ⟨_,_,rfl⟩
theorem D7K(ev:Int):∃ a b,A4f ev=some (a,b,()):=by
  simp only [A4f,B1m];cases decide (ev=1)<;>cases decide (ev=2)<;>cases decide (ev=4)<;>cases decide (ev=7)<;>cases decide (ev=9)<;>cases decide (ev=5)<;>cases decide (ev=10)<;>exact ⟨_,_,rfl⟩
theorem D3I(ev:Int):∃ a b,A01 ev=some (a,b,()):=by
  simp only [A01,A4g];cases decide (ev=5)<;>cases decide (ev=6)<;>cases decide (ev=7)<;>cases decide (ev=8)<;>cases decide (ev=9)<;>cases decide (ev=10)<;>exact ⟨_,_,rfl⟩
theorem D7L(ev:Int):∃ a b,A0d ev=some (a,b,()):=by
  simp only [A0d,A5M];cases decide (ev=1)<;>cases decide (ev=2)<;>cases decide (ev=3)<;>cases decide (ev=4)<;>cases decide (ev=5)<;>cases decide (ev=10)<;>exact ⟨_,_,rfl⟩
theorem D7M(st ev:Int):K1 st ev=some ((stV st ev).1,(stV st ev).2,()):=by
  have:∃ a b,K1 st ev=some (a,b,()):=by
    obtain ⟨a1,b1,e1⟩:=D7J ev;obtain ⟨a2,b2,e2⟩:=D7K ev;obtain ⟨a3,b3,e3⟩:=D3I ev;obtain ⟨a4,b4,e4⟩:=D7L ev;simp only [K1,A7m,F7,bO,e1,e2,e3,e4];cases decide (1<=ev/\ev<=10)<;>cases decide (st=0)<;>cases decide (st=1)<;>cases decide (st=2)<;>cases decide (st=3)<;>cases decide (st=4)<;>cases decide (ev=5)<;>exact ⟨_,_,rfl⟩
  obtain ⟨a,b,e⟩:=this;unfold stV;rw [e]
set_option maxRecDepth 100000
structure HM where
  g:I6
  dec:B4
  strs:List A0P
  last:Int
  calls:List A4R
  out:List Int
abbrev mkC(pre:Int)(inn:List Int)(enc:B4)(dead:Int)(m:HM):Q4:=(pre,inn,m.g,m.dec,enc,m.strs,m.last,dead)
abbrev mkH(pre:Int)(inn:List Int)(enc:B4)(dead:Int)(m:HM):C8:=(mkC pre inn enc dead m,m.calls,m.out)
def D7N(last:Int)(s:A0P):Prop:=s.1.tmod 2=1/\1<=s.1/\s.1<=last/\(s.2.1=1\/s.2.1=2)/\s.2.2.2.length<=2000
def B3p(strs:List A0P)(last:Int):Prop:=strs.length<=100/\(strs.map (·.1)).Pairwise (· < ·)/\∀ s∈strs,D7N last s
def sAt(strs:List A0P)(i:Nat):A0P:=rd F5 strs (i:Int)
theorem A77{strs:List A0P}{i:Nat}(h:i<strs.length):sAt strs i=strs[i]:=A6O (k:=F5) h
theorem C7E{strs:List A0P}{last:Int}(h:B3p strs last){i:Nat}(hi:i<strs.length){s:A0P}(h1:s.1=(sAt strs i).1)(h2:s.2.1=1\/s.2.1=2)(h3:s.2.2.2.length<=2000):B3p (strs.set i s) last:=by
  obtain ⟨a,b,c⟩:=h;rw [A77 hi] at h1;refine ⟨by simpa using a,?_,fun x hx=>?_⟩
  · rw [List.map_set,h1]
    have:(strs.map (·.1)).set i strs[i].1=strs.map (·.1):=by
      apply List.ext_getElem (by simp);intro j hj1 hj2;rw [List.getElem_set];split
      · rename_i e;subst e;simp
      · rfl
    rw [this];exact b
  · rcases List.mem_or_eq_of_mem_set hx with q | q
    · exact c x q
    · subst q
      have:=c _ (List.getElem_mem hi);unfold D7N at this ⊢;rw [h1];exact ⟨this.1,this.2.1,this.2.2.1,h2,h3⟩
theorem D3J{strs:List A0P}{last:Int}(h:B3p strs last)(hl:strs.length<100){s:A0P}(h0:last<s.1)(h1:s.1.tmod 2=1)(h2:s.2.1=1\/s.2.1=2)(h3:s.2.2.2.length<=2000)(hp:1<=s.1):B3p (strs ++ [s]) s.1:=by
  obtain ⟨a,b,c⟩:=h;refine ⟨by simp;omega,?_,fun x hx=>?_⟩
  · rw [List.map_append,List.pairwise_append]
    refine ⟨b,by simp,fun x hx y hy=>?_⟩;obtain ⟨t,ht,rfl⟩:=List.mem_map.1 hx;have:=c t ht;simp only [List.map_cons,List.map_nil,List.mem_singleton] at hy;unfold D7N at this;omega
  · rcases List.mem_append.1 hx with q | q
    · have:=c x q
      unfold D7N at this ⊢;omega
    · rcases List.mem_singleton.1 q with rfl
      exact ⟨h1,hp,by omega,h2,h3⟩
theorem D7O{strs:List A0P}{last:Int}(h:B3p strs last)(i:Nat):B3p (strs.take i++strs.drop (i+1)) last:=by
  obtain ⟨a,b,c⟩:=h;have hs:(strs.take i++strs.drop (i+1)).Sublist strs:=by
    rw [<- List.eraseIdx_eq_take_drop_succ];exact List.eraseIdx_sublist strs i
  exact ⟨Nat.le_trans hs.length_le a,b.sublist (hs.map _),fun x hx=>c x (hs.subset hx)⟩
theorem D3K{strs:List A0P}{last last':Int}(h:B3p strs last)(hl:last<=last'):B3p strs last':=by
  obtain ⟨a,b,c⟩:=h;refine ⟨a,b,fun x hx=>?_⟩;have:=c x hx;unfold D7N at this ⊢;omega
theorem C7F(last:Int):B3p [] last:=⟨by simp,by simp,fun x hx=>by cases hx⟩
def atM(strs:List A0P)(id:Int):Nat:=K2 (fun j=>decide ((sAt strs j).1<id)) 0 strs.length
def B3q(strs:List A0P)(id:Int):Bool:=decide (atM strs id<strs.length)&&decide ((sAt strs (atM strs id)).1=id)
theorem B0O(pre:Int)(inn:List Int)(enc:B4)(dead:Int)(m:HM)(id:Int)(h:m.strs.length<=2000000) :
    K8 (mkC pre inn enc dead m) id=some ((atM m.strs id:Int),B3q m.strs id,mkC pre inn enc dead m,()):=by
  obtain ⟨i,h1,h2,h3,h4⟩:=str_eq (mkC pre inn enc dead m) id h;have e:atM m.strs id=i:=C08 _ _ i h1 (fun j hj=>A0 (h2 j hj)) (fun hi=>A3 (h3 hi));rw [h4,B3q,e];rfl
theorem B7k{strs:List A0P}{id:Int}(h:B3q strs id=true):atM strs id<strs.length/\(sAt strs (atM strs id)).1=id:=by
  unfold B3q at h;simpa using h
def A1b(m:HM)(s:A0P):HM:=if s.2.1=2 then {m with calls:=m.calls ++ [(s.1,s.2.2.1,s.2.2.2,0)]} else m
def A4n(m:HM)(i:Nat)(s:A0P):HM:={m with strs:=m.strs.set i s}
noncomputable def A6B(m:HM)(i:Nat)(ev:Int):Int×HM:=
  if (stV (sAt m.strs i).2.1 ev).2=1 then (1,m) else if (stV (sAt m.strs i).2.1 ev).2=2 then (5,m)
  else (0,A1b (A4n m i ((sAt m.strs i).1,(stV (sAt m.strs i).2.1 ev).1,(sAt m.strs i).2.2)) ((sAt m.strs i).1,(stV (sAt m.strs i).2.1 ev).1,(sAt m.strs i).2.2))
structure HI (m:HM):Prop where
  strs:B3p m.strs m.last
  last:0<=m.last/\m.last<=2147483647
  dec:P9 m.dec
  g:(m.g.1=0/\m.g.2.1=false/\m.g.2.2 = [])\/(1<=m.g.1/\m.g.1<=2147483647/\m.g.2.2.length<=3000)
  gb:Byt m.g.2.2
def HL(m:HM):Prop:=m.calls.length<=1000000000/\m.out.length<=10000000000000
section
variable (pre:Int) (inn:List Int) (enc:B4) (dead:Int)
theorem D3L(m:HM)(s:A0P)(hc:m.calls.length<=2000000000)(hs:s.2.2.2.length<=1000000):A0f (mkH pre inn enc dead m) s=some (mkH pre inn enc dead (A1b m s),()):=by
  simp only [A0f,A5N,A4G s.2.2.2 (by omega),bO];unfold A1b;by_cases h:s.2.1=2
  · rw [A0 h,if_pos h]
    simp only [mkH,cond_true];rw [D9u (by simp;omega)]
  · rw [A3 h,if_neg h];rfl
theorem C8Q(m:HM)(i:Nat)(s:A0P)(hi:i<m.strs.length)(hsi:sAt m.strs i=s)(hc:m.calls.length<=2000000000)(hs:s.2.2.2.length<=1000000) :
    O9 (mkH pre inn enc dead m) (s.1,s.2.1,s.2.2.1) (i:Int)=some (mkH pre inn enc dead (A1b m s),()):=by
  have d1:decide ((0:Int)<=(i:Int))=true:=A0 (by omega);have d2:decide ((i:Int)<(m.strs.length:Int))=true:=A0 (by omega);have e1:(rd F5 m.strs (i:Int))=s:=hsi;simp only [O9,A10,mkH,mkC,d1,d2,cond_true,e1];rw [A4G s.2.2.2 (by omega)];simp only [bO];unfold A1b;by_cases h:s.2.1=2
  · rw [A0 h,if_pos h]
    simp only [cond_true];rw [D9u (by simp;omega)]
  · rw [A3 h,if_neg h];rfl
theorem B7l(m:HM)(i:Nat)(ev:Int)(hi:i<m.strs.length)(hc:m.calls.length<=2000000000)(hs:(sAt m.strs i).2.2.2.length<=1000000) :
    N0 (mkH pre inn enc dead m) (i:Int) ev=some ((A6B m i ev).1,mkH pre inn enc dead (A6B m i ev).2,()):=by
  have d1:decide ((0:Int)<=(i:Int))=true:=A0 (by omega);have d2:decide ((i:Int)<(m.strs.length:Int))=true:=A0 (by omega);have e1:(rd F5 m.strs (i:Int))=sAt m.strs i:=rfl;simp only [N0,A40,mkH,mkC,d1,d2,cond_true,e1,D7M,bO];unfold A6B;by_cases h1:(stV (sAt m.strs i).2.1 ev).2=1
  · rw [A0 h1,if_pos h1];rfl
  rw [A3 h1,if_neg h1];by_cases h2:(stV (sAt m.strs i).2.1 ev).2=2
  · rw [A0 h2,if_pos h2];rfl
  rw [A3 h2,if_neg h2];simp only [cond_false,Int.toNat_natCast];have hset:sAt (m.strs.set i ((sAt m.strs i).1,(stV (sAt m.strs i).2.1 ev).1,(sAt m.strs i).2.2)) i=((sAt m.strs i).1,(stV (sAt m.strs i).2.1 ev).1,(sAt m.strs i).2.2):=by
    rw [A77 (by simpa using hi)];simp
  have e2:rd F5 (m.strs.set i ((sAt m.strs i).1,(stV (sAt m.strs i).2.1 ev).1,(sAt m.strs i).2.2)) (i:Int)=((sAt m.strs i).1,(stV (sAt m.strs i).2.1 ev).1,(sAt m.strs i).2.2):=hset;rw [e2];have key:=C8Q pre inn enc dead (A4n m i ((sAt m.strs i).1,(stV (sAt m.strs i).2.1 ev).1,(sAt m.strs i).2.2)) i ((sAt m.strs i).1,(stV (sAt m.strs i).2.1 ev).1,(sAt m.strs i).2.2) (by simpa [A4n] using hi) hset hc hs;simp only [mkH,mkC,A4n] at key;rw [key];rfl
end
theorem C0D(m:HM)(s:A0P):(A1b m s).strs=m.strs/\(A1b m s).last=m.last/\(A1b m s).dec=m.dec/\(A1b m s).g=m.g/\(A1b m s).out=m.out/\(A1b m s).calls.length<=m.calls.length+1:=by
  unfold A1b;split<;>simp
theorem E26:stV 1 1=(1,1)/\stV 1 2=(2,0)/\stV 1 3=(1,0)/\stV 1 4=(2,0)/\stV 2 1=(2,2)/\stV 2 2=(2,2)/\stV 2 3=(2,2)/\stV 2 4=(2,2)/\stV 0 1=(1,0)/\stV 0 2=(2,0):=⟨rfl,rfl,rfl,rfl,rfl,rfl,rfl,rfl,rfl,rfl⟩
theorem E09{m:HM}(h:HI m){i:Nat}{ev:Int}(hi:i<m.strs.length)(hev:1<=ev/\ev<=4):((A6B m i ev).1=0->HI (A6B m i ev).2)/\0<=(A6B m i ev).1/\(A6B m i ev).1<=20/\
    (A6B m i ev).2.last=m.last/\(A6B m i ev).2.out=m.out/\(A6B m i ev).2.dec=m.dec/\(A6B m i ev).2.calls.length<=m.calls.length+1:=by
  unfold A6B;by_cases h1:(stV (sAt m.strs i).2.1 ev).2=1
  · rw [if_pos h1];exact ⟨(fun h=>by cases h),(by simp only [];omega),(by simp only [];omega),rfl,rfl,rfl,Nat.le_succ _⟩
  rw [if_neg h1];by_cases h2:(stV (sAt m.strs i).2.1 ev).2=2
  · rw [if_pos h2];exact ⟨(fun h=>by cases h),(by simp only [];omega),(by simp only [];omega),rfl,rfl,rfl,Nat.le_succ _⟩
  rw [if_neg h2];obtain ⟨q1,q2,q3,q4,q5,q6⟩:=C0D (A4n m i ((sAt m.strs i).1,(stV (sAt m.strs i).2.1 ev).1,(sAt m.strs i).2.2)) ((sAt m.strs i).1,(stV (sAt m.strs i).2.1 ev).1,(sAt m.strs i).2.2);have hs:=h.strs.2.2 _ (List.getElem_mem hi);rw [<- A77 hi] at hs;refine ⟨fun _=>⟨?_,?_,?_,?_,?_⟩,(by simp only [];omega),(by simp only [];omega),q2,q5,q3,q6⟩
  · rw [q1,q2]
    refine C7E h.strs hi rfl ?_ hs.2.2.2.2;have ht:=E26;have he:ev=1\/ev=2\/ev=3\/ev=4:=by omega
    rcases hs.2.2.2.1 with e | e<;>rw [e] at h1 h2 ⊢<;>rcases he with rfl | rfl | rfl | rfl<;>simp_all
  · rw [q2];exact h.last
  · rw [q3];exact h.dec
  · rw [q4];exact h.g
  · rw [q4];exact h.gb
set_option maxRecDepth 100000
structure FrI (f:B0):Prop where
  k:0<=f.1/\f.1<=255
  fl:0<=f.2.1/\f.2.1<=255
  st:0<=f.2.2.1/\f.2.2.1<=2147483647
  n:f.2.2.2.length<=1000
  b:Byt f.2.2.2
def A1B(f:B0)(k:Int):Bool:=!decide (M5 .i64 f.2.1 k=0)
theorem A4o(f:B0)(k:Int):H7 f k=some (A1B f k,()):=rfl
noncomputable def fcV(f:B0):Int:=match F0 f with
  | some x=>x.1
  | none=>0
theorem A29(f:B0):F0 f=some (fcV f,()):=by
  have:∃ c,F0 f=some (c,()):=by
    have h1:∃ b,P8 f=some (b,()):=by
      simp only [P8,A21,F7,bO];cases decide (0<=f.1/\f.1<=255)<;>cases decide (0<=f.2.1/\f.2.1<=255)<;>cases decide (0<=f.2.2.1/\f.2.2.1<=2147483647)<;>exact ⟨_,rfl⟩
    have h2:∃ b,T3 f=some (b,()):=by
      simp only [T3,A3w,A4o,bO];cases decide (f.1=2)<;>cases decide (f.1=3)<;>cases decide (f.1=8)<;>cases decide (f.1=6)<;>cases decide (f.1=4)<;>cases decide (f.1=7)<;>cases decide ((f.2.2.2.length:Int).tmod 6=0)<;>cases decide ((f.2.2.2.length:Int)=0)<;>exact ⟨_,rfl⟩
    obtain ⟨b1,e1⟩:=h1;obtain ⟨b2,e2⟩:=h2;simp only [F0,A0E,e1,e2,bO];cases b1
    case false=>exact ⟨_,rfl⟩
    cases b2
    case false=>exact ⟨_,rfl⟩
    simp only [Bool.not_true,cond_false,bSl];cases decide (f.2.2.1=0)<;>cases decide (f.1=0)<;>cases decide (f.1=1)<;>cases decide (f.1=2)<;>cases decide (f.1=3)<;>cases decide (f.1=5)<;>cases decide (f.1=9)<;>cases decide (f.1=4)<;>cases decide (f.1=6)<;>cases decide (f.1=7)<;>exact ⟨_,rfl⟩
  obtain ⟨c,e⟩:=this;unfold fcV;rw [e]
def C0w(f:B0):Int:=if f.1=1 then (bif A1B f 32 then 5 else 0) else 0
def C5O(b:List Int)(ahead more:Int):List Int×Bool:=if ahead+more>(b.length:Int) then ([],false) else ((b.take ((b.length:Int)-more).toNat).drop ahead.toNat,true)
def A8H(f:B0):List Int×Bool:=bif A1B f 8 then (if f.2.2.2.length=0 then ([],false) else C5O (f.2.2.2.drop 1) (C0w f) (byN f.2.2.2 0:Int)) else C5O f.2.2.2 (C0w f) 0
theorem D0h(b:List Int)(a m:Int):(C5O b a m).1.length<=b.length:=by
  unfold C5O;split
  · simp
  · simp only [List.length_drop,List.length_take];omega
theorem E0A(f:B0):(A8H f).1.length<=f.2.2.2.length:=by
  unfold A8H;cases A1B f 8
  · exact D0h _ _ _
  · simp only [cond_true]
    split
    · simp
    · have:=D0h (f.2.2.2.drop 1) (C0w f) (byN f.2.2.2 0:Int)
      simp only [List.length_drop] at this;omega
theorem E0B{f:B0}(h:Byt f.2.2.2):Byt (A8H f).1:=by
  have hB:∀ b a m,Byt b->Byt (C5O b a m).1:=fun b a m hb=>by
    unfold C5O;split
    · exact fun x hx=>by cases hx
    · exact B0G (B7S hb _) _
  unfold A8H;cases A1B f 8
  · exact hB _ _ _ h
  · simp only [cond_true]
    split
    · exact fun x hx=>by cases hx
    · exact hB _ _ _ (B0G h _)
theorem E0C(b:List Int)(a m:Int)(ha:0<=a/\a<=5)(hm:0<=m/\m<256)(hl:b.length<=1000000) :
    (bif (decide ((IntKind.i64.wrap (a+m))>(b.length:Int))) then some ([],false,()) else bif decide (0<=a) then bif decide (a<=(IntKind.i64.wrap ((b.length:Int)-m))) then bif decide ((IntKind.i64.wrap ((b.length:Int)-m))<=(b.length:Int)) then A4 (A9 ((b.take ((IntKind.i64.wrap ((b.length:Int)-m)).toNat)).drop a.toNat)) fun c40=>some (c40.1,true,()) else none else none else none)=some ((C5O b a m).1,(C5O b a m).2,()):=by
  rw [w64 (n:=a+m) (by omega) (by omega),w64 (n:=(b.length:Int)-m) (by omega) (by omega)];unfold C5O;by_cases h:a+m>(b.length:Int)
  · rw [A0 h,if_pos h];rfl
  · rw [A3 h,if_neg h,A0 (show 0<=a by omega),A0 (show a<=(b.length:Int)-m by omega),A0 (show (b.length:Int)-m<=(b.length:Int) by omega),A4G _ (by simp;omega)]
    rfl
theorem E0D(f:B0):0<=C0w f/\C0w f<=5:=by
  unfold C0w;split
  · cases A1B f 32<;>simp
  · simp
theorem C3L{f:B0}(hf:FrI f):A5L f=some ((A8H f).1,(A8H f).2,()):=by
  have ha:(bif (decide (f.1=1)) then bif A1B f 32 then some ((5:Int),()) else some (0,()) else some (0,()))=some (C0w f,()):=by
    unfold C0w;by_cases h:f.1=1
    · rw [A0 h,if_pos h];cases A1B f 32<;>rfl
    · rw [A3 h,if_neg h];rfl
  have hr:=E0D f;have hn:=hf.n;simp only [A5L,B90,A4o,bO,ha];unfold A8H;cases A1B f 8
  · simp only [cond_false,bSl,bO]
    exact E0C f.2.2.2 (C0w f) 0 hr (by omega) (by omega)
  · simp only [cond_true]
    by_cases h0:f.2.2.2.length=0
    · rw [A0 (show (f.2.2.2.length:Int)=0 by omega),if_pos h0];rfl
    · have h1:=B6m hf.b (show 0<f.2.2.2.length by omega)
      rw [show ((0:Nat):Int)=0 from rfl] at h1;rw [A3 (show ¬ (f.2.2.2.length:Int)=0 by omega),if_neg h0,A0 (show (0:Int)<(f.2.2.2.length:Int) by omega),A0 (show (1:Int)<=(f.2.2.2.length:Int) by omega),h1.1,w64 (n:=(byN f.2.2.2 0:Int)) (by omega) (by omega),List.take_length];simp only [cond_false,cond_true,bSl,bO];exact E0C (f.2.2.2.drop 1) (C0w f) (byN f.2.2.2 0:Int) hr (by omega) (by simp;omega)
def A6P(g:I6)(f:B0):Bool:=if g.1=0 then !decide (f.1=9) else decide (f.1=9)&&decide (f.2.2.1=g.1)
def A8v(f:B0)(g:I6)(g2:I6):I6×List Int×Int:=
  if (g2.2.2.length:Int)>3000 then (g,[],4) else bif A1B f 4 then ((0,false,[]),g2.2.2,1) else (g2,[],0)
def C0E(g:I6)(f:B0):I6×List Int×Int:=
  if f.1=1 then (if (A8H f).2=false then (g,[],3) else A8v f g (f.2.2.1,A1B f 1,(A8H f).1)) else if f.1=9 then A8v f g (g.1,g.2.1,g.2.2++f.2.2.2) else (g,[],0)
noncomputable def L4(g:I6)(f:B0):I6×List Int×Int:=bif !decide (fcV f=0)||!A6P g f then (g,[],2) else C0E g f
theorem D3M(g:I6)(f:B0):A3Q g f=some (A6P g f,()):=by
  simp only [A3Q,A9T];unfold A6P;by_cases h:g.1=0
  · rw [A0 h,if_pos h];rfl
  · rw [A3 h,if_neg h]
    cases decide (f.1=9)<;>rfl
def GaI(g:I6):Prop:=(g.1=0/\g.2.1=false/\g.2.2 = [])\/(1<=g.1/\g.1<=2147483647/\g.2.2.length<=3000)
theorem B2S{g:I6}(h:GaI g):A0t g=some (true,()):=by
  simp only [A0t,B1c,F7,bO];rcases h with ⟨h1,h2,h3⟩ | ⟨h1,h2,h3⟩
  · rw [A0 h1,h2,h3];rfl
  · rw [A3 (show ¬ g.1=0 by omega),A0 (show 1<=g.1/\g.1<=2147483647 from ⟨h1,h2⟩),A0 (show (g.2.2.length:Int)<=3000 by omega)]
    rfl
theorem GaI.len{g:I6}(h:GaI g):g.2.2.length<=3000:=by
  rcases h with ⟨_,_,h3⟩ | ⟨_,_,h3⟩
  · rw [h3];simp
  · exact h3
theorem C7G{g:I6}(hg:GaI g){f:B0}(hf:FrI f):A7h g f=some ((L4 g f).1,(L4 g f).2.1,(L4 g f).2.2,()):=by
  have hl:=hg.len;have hn:=hf.n;have hcp:=B5C g (by omega);simp only [A7h,C2u,B2S hg,A29,D3M,hcp,C3L hf,A4o,bO,Bool.not_true,cond_false];unfold L4;cases decide (fcV f=0)
  case false=>rfl
  cases A6P g f
  case false=>rfl
  simp only [Bool.not_true,cond_false,bO,bSl,Bool.or_self];unfold C0E;by_cases h1:f.1=1
  · rw [A0 h1,if_pos h1]
    simp only [cond_true];cases hu:(A8H f).2 with
    | false=>rfl
    | true=>
      simp only [Bool.not_true,cond_false,bSl,Bool.true_eq_false,if_false];unfold A8v;by_cases h3:((A8H f).1.length:Int)>3000
      · rw [A0 h3,if_pos h3];rfl
      · rw [A3 h3,if_neg h3]
        cases A1B f 4<;>rfl
  · rw [A3 h1,if_neg h1]
    simp only [cond_false];by_cases h9:f.1=9
    · rw [A0 h9,if_pos h9,gA (by omega)]
      simp only [cond_true,bSl];unfold A8v;by_cases h3:((g.2.2++f.2.2.2).length:Int)>3000
      · rw [A0 h3,if_pos h3];rfl
      · rw [A3 h3,if_neg h3]
        cases A1B f 4<;>rfl
    · rw [A3 h9,if_neg h9];rfl
theorem D0i{f:B0}{g g2:I6}(h1:GaI g)(h2:1<=g2.1/\g2.1<=2147483647)(hb:Byt g.2.2)(hb2:Byt g2.2.2):GaI (A8v f g g2).1/\Byt (A8v f g g2).1.2.2/\Byt (A8v f g g2).2.1/\(A8v f g g2).2.1.length<=3000:=by
  have hn:Byt ([]:List Int):=fun x hx=>by cases hx
  unfold A8v;by_cases h3:(g2.2.2.length:Int)>3000
  · rw [if_pos h3];exact ⟨h1,hb,hn,by simp⟩
  · rw [if_neg h3]
    cases A1B f 4
    · exact ⟨.inr ⟨h2.1,h2.2,by simp only [cond_false];omega⟩,hb2,hn,by simp⟩
    · exact ⟨.inl ⟨rfl,rfl,rfl⟩,hn,hb2,by simp only [cond_true];omega⟩
theorem D0j{g:I6}(hg:GaI g)(hb:Byt g.2.2){f:B0}(hf:FrI f)(h0:f.2.2.1≠0\/f.1≠1):GaI (L4 g f).1/\Byt (L4 g f).1.2.2/\Byt (L4 g f).2.1/\(L4 g f).2.1.length<=3000:=by
  have hn:Byt ([]:List Int):=fun x hx=>by cases hx
  unfold L4;cases hd:(!decide (fcV f=0)||!A6P g f) with
  | true=>exact ⟨hg,hb,hn,by simp⟩
  | false=>
    simp only [cond_false];unfold C0E;by_cases h1:f.1=1
    · rw [if_pos h1]
      by_cases hu:(A8H f).2=false
      · rw [if_pos hu];exact ⟨hg,hb,hn,by simp⟩
      · rw [if_neg hu]
        have hs:=hf.st;exact D0i hg (by simp only;omega) hb (E0B hf.b)
    · rw [if_neg h1]
      by_cases h9:f.1=9
      · rw [if_pos h9]
        have hi:A6P g f=true:=by
          simp only [Bool.or_eq_false_iff,Bool.not_eq_false'] at hd;exact hd.2
        unfold A6P at hi;by_cases hg0:g.1=0
        · rw [if_pos hg0,A0 h9] at hi;cases hi
        · rcases hg with ⟨q,_⟩ | ⟨q1,q2,q3⟩
          · exact absurd q hg0
          · exact D0i (.inr ⟨q1,q2,q3⟩) ⟨q1,q2⟩ hb (A03 hb hf.b)
      · rw [if_neg h9];exact ⟨hg,hb,hn,by simp⟩
set_option maxRecDepth 100000
theorem D5t{f:B0}(h:fcV f=0)(h1:f.1=1):f.2.2.1≠0:=by
  intro h0;have e:=A29 f;rw [h] at e;have h2:∃ b,P8 f=some (b,()):=by
    simp only [P8,A21,F7,bO];cases decide (0<=f.1/\f.1<=255)<;>cases decide (0<=f.2.1/\f.2.1<=255)<;>cases decide (0<=f.2.2.1/\f.2.2.1<=2147483647)<;>exact ⟨_,rfl⟩
  have h3:∃ b,T3 f=some (b,()):=by
    simp only [T3,A3w,A4o,bO];cases decide (f.1=2)<;>cases decide (f.1=3)<;>cases decide (f.1=8)<;>cases decide (f.1=6)<;>cases decide (f.1=4)<;>cases decide (f.1=7)<;>cases decide ((f.2.2.2.length:Int).tmod 6=0)<;>cases decide ((f.2.2.2.length:Int)=0)<;>exact ⟨_,rfl⟩
  obtain ⟨b1,e1⟩:=h2;obtain ⟨b2,e2⟩:=h3;simp only [F0,A0E,e1,e2,bO,A0 h0,A0 h1] at e;cases b1
  case false=>simp [bSr] at e
  cases b2
  case false=>simp [bSr] at e
  simp only [Bool.not_true,cond_false,bSl] at e;cases hq:decide (f.1=0)<;>rw [hq] at e<;>simp [bO] at e
noncomputable def C8R(m:HM)(id:Int)(fin:Bool)(l:List A5):Int×HM:=
  if id.tmod 2=0\/id<=m.last then (1,m) else if 100<=m.strs.length then (11,m)
  else if (B23 l).2≠0 then (0,{m with last:=id,calls:=m.calls ++ [(id,(0,⟨#[]⟩,0),[],(B23 l).2)]})
  else (0,A1b {m with last:=id,strs:=m.strs ++ [(id,(if fin then 2 else 1),(B23 l).1,[])]} (id,(if fin then 2 else 1),(B23 l).1,[]))
noncomputable def A6Q(m:HM)(id:Int)(fin:Bool)(b:List Int):Int×HM:=
  if (L9 m.dec 4096 b).2.2.1≠0 then (9,m)
  else if B3q m.strs id=true then A6B {m with dec:=(L9 m.dec 4096 b).2.1} (atM m.strs id) (if fin then 2 else 1)
  else C8R {m with dec:=(L9 m.dec 4096 b).2.1} id fin (L9 m.dec 4096 b).1
noncomputable def B5E(m:HM)(f:B0):Int×HM:=
  if (L4 m.g f).2.2=2\/(L4 m.g f).2.2=3 then (1,{m with g:=(L4 m.g f).1}) else if (L4 m.g f).2.2=4 then (11,{m with g:=(L4 m.g f).1})
  else if (L4 m.g f).2.2=1 then A6Q {m with g:=(L4 m.g f).1} (if m.g.1=0 then f.2.2.1 else m.g.1) (if m.g.1=0 then A1B f 1 else m.g.2.1) (L4 m.g f).2.1
  else (0,{m with g:=(L4 m.g f).1})
def D3N(m:HM)(f:B0)(body:List Int):HM:=bif A1B f 1 then m else {m with out:=m.out++E5 (f.1,1,0,body)}
def D3O(m:HM)(f:B0):Int×HM:=if f.2.2.1>m.last then (1,m) else (0,m)
noncomputable def C0F(m:HM)(f:B0):Int×HM:=
  if B3q m.strs f.2.2.1=true then
    (if (A8H f).2=false then (1,m) else if ((sAt m.strs (atM m.strs f.2.2.1)).2.2.2.length:Int)+((A8H f).1.length:Int)>2000 then (11,m)
     else A6B (A4n m (atM m.strs f.2.2.1) ((sAt m.strs (atM m.strs f.2.2.1)).1,(sAt m.strs (atM m.strs f.2.2.1)).2.1,(sAt m.strs (atM m.strs f.2.2.1)).2.2.1,(sAt m.strs (atM m.strs f.2.2.1)).2.2.2++(A8H f).1)) (atM m.strs f.2.2.1) (bif A1B f 1 then 4 else 3))
  else D3O m f
def B98(m:HM)(f:B0):Int×HM:=
  if B3q m.strs f.2.2.1=true then (0,{m with strs:=m.strs.take (atM m.strs f.2.2.1)++m.strs.drop (atM m.strs f.2.2.1+1)}) else D3O m f
def E27(b:List Int):Bool:=(A7t b 0 4).2.1&&decide ((b.length:Int)=4)&&!decide (M5 .i64 (A7t b 0 4).1 2147483647=0)
noncomputable def frM(m:HM)(f:B0):Int×HM:=
  if fcV f=2 then (6,m) else if fcV f=3 then (1,m) else if m.g.1≠0\/f.1=1\/f.1=9 then B5E m f
  else if f.1=4 then (0,D3N m f []) else if f.1=6 then (0,D3N m f f.2.2.2) else if f.1=5 then (1,m) else if f.1=8 then (if E27 f.2.2.2=true then (0,m) else (1,m))
  else if f.1=0 then C0F m f else if f.1=3 then B98 m f else (0,m)
section
variable (pre:Int) (inn:List Int) (enc:B4) (dead:Int)
theorem D3P(m:HM)(h:HI m)(hl:m.calls.length<=1000000000)(id:Int)(fin:Bool)(b:List Int)(hb:Byt b)(hbl:b.length<=100000) :
    A0g (mkH pre inn enc dead m) id fin b=some ((A6Q m id fin b).1,mkH pre inn enc dead (A6Q m id fin b).2,()):=by
  have hg:=C3J h.dec (by omega:(4096:Int)<=4096) b;have hsl:=h.strs.1;have e0:=B3o h.dec hb (by omega) (most:=4096) (by omega);simp only [A0g,A5O,e0,bO];unfold A6Q;by_cases h9:(L9 m.dec 4096 b).2.2.1=0
  case neg=>rw [A3 h9,if_pos h9];rfl
  rw [A0 h9,if_neg (by simpa using h9)];have e1:=B0O pre inn enc dead {m with dec:=(L9 m.dec 4096 b).2.1} id (by simp only;omega);simp only [mkC] at e1;simp only [Bool.not_true,cond_false,e1,bO];cases hh:B3q m.strs id with
  | true=>
    have hlt:=B7k hh;have hst:=h.strs.2.2 _ (List.getElem_mem hlt.1);rw [<- A77 hlt.1] at hst;have eh:A7n fin=some ((if fin then 2 else 1),()):=by cases fin<;>rfl
    have e2:=B7l pre inn enc dead {m with dec:=(L9 m.dec 4096 b).2.1} (atM m.strs id) (if fin then 2 else 1) hlt.1 (by simp only;omega) (by have:=hst.2.2.2.2;simp only;omega);simp only [mkH,mkC] at e2;simp only [cond_true,eh,bO,e2,bSr,if_true]
  | false=>
    simp only [cond_false,Bool.false_eq_true,if_false];unfold C8R;have ho:(bif (decide ((id.tmod 2)=0)) then some (true,()) else some ((decide (id<=m.last)),()))=some (decide (id.tmod 2=0\/id<=m.last),()):=by
      by_cases q1:id.tmod 2=0
      · rw [A0 q1,A0 (show id.tmod 2=0\/id<=m.last from .inl q1)];rfl
      · rw [A3 q1]
        by_cases q2:id<=m.last
        · rw [A0 q2,A0 (show id.tmod 2=0\/id<=m.last from .inr q2)];rfl
        · rw [A3 q2,A3 (show ¬ (id.tmod 2=0\/id<=m.last) by omega)];rfl
    simp only [ho,bO];by_cases q:id.tmod 2=0\/id<=m.last
    · rw [A0 q,if_pos q];rfl
    rw [A3 q,if_neg q];simp only [cond_false];by_cases q2:100<=m.strs.length
    · rw [A0 (show (m.strs.length:Int)>=100 by omega),if_pos q2];rfl
    rw [A3 (show ¬ (m.strs.length:Int)>=100 by omega),if_neg q2];simp only [cond_false,bSl];rw [D3H _ (by have:=hg.2.1;omega) hg.2.2];simp only [bO];by_cases q3:(B23 (L9 m.dec 4096 b).1).2=0
    · rw [A0 q3,if_neg (by simpa using q3)]
      have eh:A7n fin=some ((if fin then 2 else 1),()):=by cases fin<;>rfl
      have es:K1 0 (if fin then 2 else 1)=some ((if fin then 2 else 1),0,()):=by cases fin<;>rfl
      simp only [Bool.not_true,cond_false,eh,bO,es];rw [D9u (by simp;omega)];have e3:=D3L pre inn enc dead {m with dec:=(L9 m.dec 4096 b).2.1,last:=id,strs:=m.strs ++ [(id,(if fin then 2 else 1),(B23 (L9 m.dec 4096 b).1).1,[])]} (id,(if fin then 2 else 1),(B23 (L9 m.dec 4096 b).1).1,[]) (by simp only;omega) (by simp);simp only [mkH,mkC] at e3;rw [e3];rfl
    · rw [A3 q3,if_pos (by simpa using q3)]
      simp only [Bool.not_false,cond_true];rw [D9u (by simp;omega)]
theorem B99(m:HM)(h:HI m)(hl:m.calls.length<=1000000000)(f:B0)(hf:FrI f)(hc:fcV f=0) :
    A19 (mkH pre inn enc dead m) f=some ((B5E m f).1,mkH pre inn enc dead (B5E m f).2,()):=by
  have hok:=D0j h.g h.gb hf (by by_cases h1:f.1=1;exact .inl (D5t hc h1);exact .inr h1);have ho:(bif (decide (m.g.1=0)) then some (f.2.2.1,A1B f 1,()) else some (m.g.1,m.g.2.1,()))=some ((if m.g.1=0 then f.2.2.1 else m.g.1),(if m.g.1=0 then A1B f 1 else m.g.2.1),()):=by
    by_cases q:m.g.1=0
    · rw [A0 q,if_pos q,if_pos q];rfl
    · rw [A3 q,if_neg q,if_neg q];rfl
  simp only [A19,A6M,A4o,bO,ho,C7G h.g hf];unfold B5E;by_cases q2:(L4 m.g f).2.2=2
  · rw [A0 q2,if_pos (show (L4 m.g f).2.2=2\/(L4 m.g f).2.2=3 from .inl q2)];rfl
  rw [A3 q2];simp only [cond_false,bO];by_cases q3:(L4 m.g f).2.2=3
  · rw [A0 q3,if_pos (show (L4 m.g f).2.2=2\/(L4 m.g f).2.2=3 from .inr q3)];rfl
  rw [A3 q3,if_neg (show ¬ ((L4 m.g f).2.2=2\/(L4 m.g f).2.2=3) by omega)];by_cases q4:(L4 m.g f).2.2=4
  · rw [A0 q4,if_pos q4];rfl
  rw [A3 q4,if_neg q4];by_cases q1:(L4 m.g f).2.2=1
  · rw [A0 q1,if_pos q1]
    have e:=D3P pre inn enc dead {m with g:=(L4 m.g f).1} ⟨h.strs,h.last,h.dec,hok.1,hok.2.1⟩ hl (if m.g.1=0 then f.2.2.1 else m.g.1) (if m.g.1=0 then A1B f 1 else m.g.2.1) (L4 m.g f).2.1 hok.2.2.1 (by omega);simp only [mkH,mkC] at e;simp only [cond_true,cond_false,e,bO]
  · rw [A3 q1,if_neg q1];rfl
theorem C0G(m:HM)(ho:m.out.length<=100000000000000)(f:B0)(b:List Int)(hb:b.length<=1000):A02 (mkH pre inn enc dead m) f b=some (mkH pre inn enc dead (D3N m f b),()):=by
  simp only [A02,A4h,A4o,bO,mkH];unfold D3N;cases A1B f 1 with
  | true=>rfl
  | false=>
    simp only [Bool.not_false,cond_true,cond_false];rw [A3U _ _ (by simp only;omega)];rfl
theorem B7m(m:HM)(f:B0):N1 (mkH pre inn enc dead m) f=some ((D3O m f).1,mkH pre inn enc dead (D3O m f).2,()):=by
  simp only [N1,A41,mkH,mkC];unfold D3O;by_cases h:f.2.2.1>m.last
  · rw [A0 h,if_pos h];rfl
  · rw [A3 h,if_neg h];rfl
theorem D7P(m:HM)(h:HI m)(hl:m.calls.length<=1000000000)(f:B0)(hf:FrI f) :
    A1A (mkH pre inn enc dead m) f=some ((C0F m f).1,mkH pre inn enc dead (C0F m f).2,()):=by
  have hsl:=h.strs.1;have hn:=hf.n;have hu:=E0A f;have e1:=B0O pre inn enc dead m f.2.2.1 (by omega);have e2:=B7m pre inn enc dead m f;simp only [mkC] at e1;simp only [mkH,mkC] at e2;simp only [A1A,A6N,mkH,mkC,e1,bO,C3L hf,A4o];unfold C0F;cases hh:B3q m.strs f.2.2.1 with
  | false=>
    simp only [Bool.not_false,cond_true,Bool.false_eq_true,if_false,e2,bO]
  | true=>
    have hlt:=B7k hh;have hst:=h.strs.2.2 _ (List.getElem_mem hlt.1);rw [<- A77 hlt.1] at hst;have h5:=hst.2.2.2.2;have d1:decide ((0:Int)<=(atM m.strs f.2.2.1:Int))=true:=A0 (by omega);have d2:decide ((atM m.strs f.2.2.1:Int)<(m.strs.length:Int))=true:=A0 (by omega);have e3:rd F5 m.strs (atM m.strs f.2.2.1:Int)=sAt m.strs (atM m.strs f.2.2.1):=rfl;simp only [Bool.not_true,cond_false,if_true,d1,d2,cond_true,e3];cases hq:(A8H f).2 with
    | false=>rfl
    | true=>
      simp only [Bool.not_true,cond_false,Bool.true_eq_false,if_false];rw [w64 (by omega) (by omega)];by_cases q:((sAt m.strs (atM m.strs f.2.2.1)).2.2.2.length:Int)+((A8H f).1.length:Int)>2000
      · rw [A0 q,if_pos q];rfl
      · rw [A3 q,if_neg q]
        simp only [cond_false];rw [gA (by omega)];simp only [Int.toNat_natCast,bO];have e4:=fun ev=>B7l pre inn enc dead (A4n m (atM m.strs f.2.2.1) ((sAt m.strs (atM m.strs f.2.2.1)).1,(sAt m.strs (atM m.strs f.2.2.1)).2.1,(sAt m.strs (atM m.strs f.2.2.1)).2.2.1,(sAt m.strs (atM m.strs f.2.2.1)).2.2.2++(A8H f).1)) (atM m.strs f.2.2.1) ev (by simpa [A4n] using hlt.1) (by simp only [A4n];omega) (by
          simp only [A4n];rw [A77 (by simpa using hlt.1),List.getElem_set_self];simp only [List.length_append];omega)
        simp only [mkH,mkC,A4n] at e4;cases A1B f 1
        · simp only [cond_false,e4,bO];rfl
        · simp only [cond_true,e4,bO];rfl
theorem D3Q(m:HM)(h:HI m)(f:B0):A0h (mkH pre inn enc dead m) f=some ((B98 m f).1,mkH pre inn enc dead (B98 m f).2,()):=by
  have hsl:=h.strs.1;have e1:=B0O pre inn enc dead m f.2.2.1 (by omega);have e2:=B7m pre inn enc dead m f;simp only [mkC] at e1;simp only [mkH,mkC] at e2;simp only [A0h,A5P,mkH,mkC,e1,bO];unfold B98;cases hh:B3q m.strs f.2.2.1 with
  | false=>simp only [Bool.not_false,cond_true,Bool.false_eq_true,if_false,e2,bO]
  | true=>
    have hlt:=B7k hh;have w1:IntKind.i64.wrap ((atM m.strs f.2.2.1:Int)+1)=((atM m.strs f.2.2.1+1:Nat):Int):=by rw [w64 (by omega) (by omega)];omega
    have e3:C4 m.strs (atM m.strs f.2.2.1:Int) ((atM m.strs f.2.2.1+1:Nat):Int)=some (m.strs.take (atM m.strs f.2.2.1)++m.strs.drop (atM m.strs f.2.2.1+1),()):=by
      rw [show C4=C6t from rfl];simp only [C6t];rw [A0 (by omega),A0 (by omega),A0 (by omega)];simp only [cond_true,Int.toNat_natCast]
    simp only [Bool.not_true,cond_false,w1,e3,bO,if_true]
theorem D0k(b:List Int)(hb:Byt b)(hl:b.length<=1000):∃ n,A4i b=some (n,E27 b,()):=by
  have e:=D03 b hb (by omega) 0 4 (by omega);rw [show ((4:Nat):Int)=4 from rfl] at e;simp only [A4i,B1r,e,bO];unfold E27;cases (A7t b 0 4).2.1<;>cases decide ((b.length:Int)=4)<;>cases decide (M5 .i64 (A7t b 0 4).1 2147483647=0)<;>exact ⟨_,rfl⟩
theorem D3R(m:HM)(h:HI m)(hl:HL m)(f:B0)(hf:FrI f):Q7 (mkH pre inn enc dead m) f=some ((frM m f).1,mkH pre inn enc dead (frM m f).2,()):=by
  have hn:=hf.n;simp only [Q7,A5Q,A29,bO];unfold frM;by_cases c2:fcV f=2
  · rw [A0 c2,if_pos c2];rfl
  rw [A3 c2,if_neg c2];by_cases c3:fcV f=3
  · rw [A0 c3,if_pos c3];rfl
  rw [A3 c3,if_neg c3];have hc:fcV f=0:=by
    have e:=A29 f;have hall:∃ c,F0 f=some (c,())/\(c=0\/c=2\/c=3):=by
      have h2:∃ b,P8 f=some (b,()):=by
        simp only [P8,A21,F7,bO];cases decide (0<=f.1/\f.1<=255)<;>cases decide (0<=f.2.1/\f.2.1<=255)<;>cases decide (0<=f.2.2.1/\f.2.2.1<=2147483647)<;>exact ⟨_,rfl⟩
      have h3:∃ b,T3 f=some (b,()):=by
        simp only [T3,A3w,A4o,bO];cases decide (f.1=2)<;>cases decide (f.1=3)<;>cases decide (f.1=8)<;>cases decide (f.1=6)<;>cases decide (f.1=4)<;>cases decide (f.1=7)<;>cases decide ((f.2.2.2.length:Int).tmod 6=0)<;>cases decide ((f.2.2.2.length:Int)=0)<;>exact ⟨_,rfl⟩
      obtain ⟨b1,e1⟩:=h2;obtain ⟨b2,e2⟩:=h3;simp only [F0,A0E,e1,e2,bO];cases b1
      case false=>exact ⟨_,rfl,.inr (.inl rfl)⟩
      cases b2
      case false=>exact ⟨_,rfl,.inr (.inl rfl)⟩
      simp only [Bool.not_true,cond_false,bSl];cases decide (f.2.2.1=0)<;>cases decide (f.1=0)<;>cases decide (f.1=1)<;>cases decide (f.1=2)<;>cases decide (f.1=3)<;>cases decide (f.1=5)<;>cases decide (f.1=9)<;>cases decide (f.1=4)<;>cases decide (f.1=6)<;>cases decide (f.1=7)<;>first | exact ⟨_,rfl,.inl rfl⟩ | exact ⟨_,rfl,.inr (.inr rfl)⟩
    obtain ⟨c,e1,e2⟩:=hall;rw [e1] at e;injection e with e
    injection e with e _
    omega
  simp only [cond_false];by_cases g0:m.g.1=0
  case neg=>
    rw [A3 g0,if_pos (.inl g0)];simp only [Bool.not_false,cond_true,B99 pre inn enc dead m h hl.1 f hf hc,bO]
  rw [A0 g0];simp only [Bool.not_true,cond_false];by_cases k1:f.1=1
  · rw [A0 k1,if_pos (.inr (.inl k1))]
    simp only [cond_true,bO,B99 pre inn enc dead m h hl.1 f hf hc]
  rw [A3 k1];simp only [cond_false,bO];by_cases k9:f.1=9
  · rw [A0 k9,if_pos (.inr (.inr k9))]
    simp only [cond_true,bO,B99 pre inn enc dead m h hl.1 f hf hc]
  rw [A3 k9,if_neg (by omega)];simp only [cond_false];by_cases k4:f.1=4
  · rw [A0 k4,if_pos k4]
    simp only [cond_true,C0G pre inn enc dead m (by have:=hl.2;omega) f [] (by simp),bO]
  rw [A3 k4,if_neg k4];simp only [cond_false];by_cases k6:f.1=6
  · rw [A0 k6,if_pos k6]
    simp only [cond_true,C0G pre inn enc dead m (by have:=hl.2;omega) f f.2.2.2 hn,bO]
  rw [A3 k6,if_neg k6];simp only [cond_false];by_cases k5:f.1=5
  · rw [A0 k5,if_pos k5];rfl
  rw [A3 k5,if_neg k5];simp only [cond_false];by_cases k8:f.1=8
  · rw [A0 k8,if_pos k8]
    obtain ⟨n,e⟩:=D0k f.2.2.2 hf.b hn;simp only [cond_true,e,bO];cases E27 f.2.2.2<;>rfl
  rw [A3 k8,if_neg k8];simp only [cond_false];by_cases k0:f.1=0
  · rw [A0 k0,if_pos k0]
    simp only [cond_true,D7P pre inn enc dead m h hl.1 f hf,bO]
  rw [A3 k0,if_neg k0];simp only [cond_false];by_cases k3:f.1=3
  · rw [A0 k3,if_pos k3]
    simp only [cond_true,D3Q pre inn enc dead m h f,bO]
  · rw [A3 k3,if_neg k3];rfl
end
set_option maxRecDepth 100000
structure FrO (m:HM) (r:Int×HM):Prop where
  code:0<=r.1/\r.1<=20
  hi:r.1=0->HI r.2
  last:0<=r.2.last/\r.2.last<=2147483647
  dec:P9 r.2.dec
  calls:r.2.calls.length<=m.calls.length+1
  out:r.2.out.length<=m.out.length+1100
theorem B24{m:HM}(h:HI m){c:Int}(hc:0<c/\c<=20):FrO m (c,m):=⟨by simp only;omega,fun e=>by simp only at e;omega,h.last,h.dec,by simp only;omega,by simp only;omega⟩
theorem B7n{m:HM}(h:HI m):FrO m (0,m):=⟨by simp only;omega,fun _=>h,h.last,h.dec,by simp only;omega,by simp only;omega⟩
theorem D0l{m m0:HM}(h:HI m){i:Nat}{ev:Int}(hi:i<m.strs.length)(hev:1<=ev/\ev<=4)(h1:m.calls=m0.calls)(h2:m.out=m0.out):FrO m0 (A6B m i ev):=by
  obtain ⟨a1,a2,a3,a4,a5,a6,a7⟩:=E09 h hi hev;exact ⟨⟨a2,a3⟩,a1,by rw [a4];exact h.last,by rw [a6];exact h.dec,by rw [<- h1];exact a7,by rw [a5,h2];omega⟩
theorem D7Q{m m0:HM}(h:HI m)(id:Int)(hid:id<=2147483647)(fin:Bool)(b:List Int)(h1:m.calls=m0.calls)(h2:m.out=m0.out):FrO m0 (A6Q m id fin b):=by
  have hg:=C3J h.dec (by omega:(4096:Int)<=4096) b;have hm:HI {m with dec:=(L9 m.dec 4096 b).2.1}:=⟨h.strs,h.last,hg.1,h.g,h.gb⟩;have hl:=h.last;unfold A6Q;by_cases h9:(L9 m.dec 4096 b).2.2.1≠0
  · rw [if_pos h9]
    exact ⟨by simp only;omega,fun e=>by simp only at e;omega,h.last,h.dec,by simp only [h1];omega,by simp only [h2];omega⟩
  rw [if_neg h9];cases hh:B3q m.strs id with
  | true=>
    rw [if_pos rfl];exact D0l hm (B7k hh).1 (by cases fin<;>simp) h1 h2
  | false=>
    rw [if_neg (by simp)];unfold C8R;by_cases q:id.tmod 2=0\/id<=m.last
    · rw [if_pos q]
      exact ⟨by simp only;omega,fun e=>by simp only at e;omega,h.last,hg.1,by simp only [h1];omega,by simp only [h2];omega⟩
    rw [if_neg q];by_cases q2:100<=m.strs.length
    · rw [if_pos q2]
      exact ⟨by simp only;omega,fun e=>by simp only at e;omega,h.last,hg.1,by simp only [h1];omega,by simp only [h2];omega⟩
    rw [if_neg q2];have ht:id.tmod 2=1:=by
      have:=Int.tmod_eq_emod_of_nonneg (a:=id) (b:=2) (by omega);omega
    by_cases q3:(B23 (L9 m.dec 4096 b).1).2≠0
    · rw [if_pos q3]
      exact ⟨by simp only;omega,fun _=>⟨D3K h.strs (by simp only;omega),by simp only;omega,hg.1,h.g,h.gb⟩,by simp only;omega,hg.1,by simp only [List.length_append,List.length_singleton,h1];omega,by simp only [h2];omega⟩
    · rw [if_neg q3]
      obtain ⟨z1,z2,z3,z4,z5,z6⟩:=C0D {m with dec:=(L9 m.dec 4096 b).2.1,last:=id,strs:=m.strs ++ [(id,(if fin then 2 else 1),(B23 (L9 m.dec 4096 b).1).1,[])]} (id,(if fin then 2 else 1),(B23 (L9 m.dec 4096 b).1).1,[]);refine ⟨by simp only;omega,fun _=>⟨?_,?_,?_,?_,?_⟩,?_,?_,?_,?_⟩
      · rw [z1,z2]
        exact D3J h.strs (by omega) (s:=(id,(if fin then 2 else 1),(B23 (L9 m.dec 4096 b).1).1,[])) (by simp only;omega) ht (by cases fin<;>simp) (by simp) (by simp only;omega)
      · rw [z2];simp only;omega
      · rw [z3];exact hg.1
      · rw [z4];exact h.g
      · rw [z4];exact h.gb
      · simp only;rw [z2];simp only;omega
      · simp only;rw [z3];exact hg.1
      · simp only at z6 ⊢;rw [<- h1];exact z6
      · simp only;rw [z5];simp only [h2];omega
theorem E0E{m:HM}(h:HI m){f:B0}(hf:FrI f)(hc:fcV f=0):FrO m (B5E m f):=by
  have hok:=D0j h.g h.gb hf (by by_cases h1:f.1=1;exact .inl (D5t hc h1);exact .inr h1);have hm:HI {m with g:=(L4 m.g f).1}:=⟨h.strs,h.last,h.dec,hok.1,hok.2.1⟩;unfold B5E;by_cases q2:(L4 m.g f).2.2=2\/(L4 m.g f).2.2=3
  · rw [if_pos q2]
    exact ⟨by simp only;omega,fun e=>by simp only at e;omega,h.last,h.dec,by simp only;omega,by simp only;omega⟩
  rw [if_neg q2];by_cases q4:(L4 m.g f).2.2=4
  · rw [if_pos q4]
    exact ⟨by simp only;omega,fun e=>by simp only at e;omega,h.last,h.dec,by simp only;omega,by simp only;omega⟩
  rw [if_neg q4];by_cases q1:(L4 m.g f).2.2=1
  · rw [if_pos q1]
    have hs:=hf.st;refine D7Q hm _ ?_ _ _ rfl rfl;by_cases g0:m.g.1=0
    · rw [if_pos g0];omega
    · rw [if_neg g0]
      rcases h.g with q | q
      · exact absurd q.1 g0
      · exact q.2.1
  · rw [if_neg q1]
    exact ⟨by simp only;omega,fun _=>hm,h.last,h.dec,by simp only;omega,by simp only;omega⟩
theorem D5u{m:HM}(h:HI m)(f:B0)(hf:FrI f)(b:List Int)(hb:b.length<=1000):FrO m (0,D3N m f b):=by
  have hk:=hf.k;unfold D3N;cases A1B f 1
  · have hl:=A5V (f.1,1,0,b) (fok _ _ _ _ (by omega) (by omega) (by omega) (by omega))
    exact ⟨by simp only;omega,fun _=>⟨h.strs,h.last,h.dec,h.g,h.gb⟩,h.last,h.dec,by simp only [cond_false];omega,by simp only [cond_false,List.length_append];omega⟩
  · exact B7n h
theorem D5v{m:HM}(h:HI m)(f:B0):FrO m (D3O m f):=by
  unfold D3O;split
  · exact B24 h (by omega)
  · exact B7n h
theorem E0F{m:HM}(h:HI m){f:B0}(hf:FrI f):FrO m (C0F m f):=by
  unfold C0F;cases hh:B3q m.strs f.2.2.1 with
  | false=>rw [if_neg (by simp)];exact D5v h f
  | true=>
    rw [if_pos rfl];have hlt:=B7k hh;have hst:=h.strs.2.2 _ (List.getElem_mem hlt.1);rw [<- A77 hlt.1] at hst;by_cases hu:(A8H f).2=false
    · rw [if_pos hu];exact B24 h (by omega)
    rw [if_neg hu];by_cases q:((sAt m.strs (atM m.strs f.2.2.1)).2.2.2.length:Int)+((A8H f).1.length:Int)>2000
    · rw [if_pos q];exact B24 h (by omega)
    rw [if_neg q];refine D0l ?_ ?_ ?_ rfl rfl
    · exact ⟨C7E h.strs hlt.1 rfl hst.2.2.2.1 (by simp only [List.length_append];omega),h.last,h.dec,h.g,h.gb⟩
    · simpa [A4n] using hlt.1
    · cases A1B f 1<;>simp
theorem D7R{m:HM}(h:HI m)(f:B0):FrO m (B98 m f):=by
  unfold B98;cases hh:B3q m.strs f.2.2.1 with
  | false=>rw [if_neg (by simp)];exact D5v h f
  | true=>
    rw [if_pos rfl];exact ⟨by simp only;omega,fun _=>⟨D7O h.strs _,h.last,h.dec,h.g,h.gb⟩,h.last,h.dec,by simp only;omega,by simp only;omega⟩
theorem E28(f:B0):fcV f=0\/fcV f=2\/fcV f=3:=by
  have e:=A29 f;have hall:∃ c,F0 f=some (c,())/\(c=0\/c=2\/c=3):=by
    have h2:∃ b,P8 f=some (b,()):=by
      simp only [P8,A21,F7,bO];cases decide (0<=f.1/\f.1<=255)<;>cases decide (0<=f.2.1/\f.2.1<=255)<;>cases decide (0<=f.2.2.1/\f.2.2.1<=2147483647)<;>exact ⟨_,rfl⟩
    have h3:∃ b,T3 f=some (b,()):=by
      simp only [T3,A3w,A4o,bO];cases decide (f.1=2)<;>cases decide (f.1=3)<;>cases decide (f.1=8)<;>cases decide (f.1=6)<;>cases decide (f.1=4)<;>cases decide (f.1=7)<;>cases decide ((f.2.2.2.length:Int).tmod 6=0)<;>cases decide ((f.2.2.2.length:Int)=0)<;>exact ⟨_,rfl⟩
    obtain ⟨b1,e1⟩:=h2;obtain ⟨b2,e2⟩:=h3;simp only [F0,A0E,e1,e2,bO];cases b1
    case false=>exact ⟨_,rfl,.inr (.inl rfl)⟩
    cases b2
    case false=>exact ⟨_,rfl,.inr (.inl rfl)⟩
    simp only [Bool.not_true,cond_false,bSl];cases decide (f.2.2.1=0)<;>cases decide (f.1=0)<;>cases decide (f.1=1)<;>cases decide (f.1=2)<;>cases decide (f.1=3)<;>cases decide (f.1=5)<;>cases decide (f.1=9)<;>cases decide (f.1=4)<;>cases decide (f.1=6)<;>cases decide (f.1=7)<;>first | exact ⟨_,rfl,.inl rfl⟩ | exact ⟨_,rfl,.inr (.inr rfl)⟩
  obtain ⟨c,e1,e2⟩:=hall;rw [e1] at e;injection e with e
  injection e with e _
  omega
theorem E0G{m:HM}(h:HI m){f:B0}(hf:FrI f):FrO m (frM m f):=by
  have hr:=E28 f;unfold frM;by_cases c2:fcV f=2
  · rw [if_pos c2];exact B24 h (by omega)
  rw [if_neg c2];by_cases c3:fcV f=3
  · rw [if_pos c3];exact B24 h (by omega)
  rw [if_neg c3];by_cases k:m.g.1≠0\/f.1=1\/f.1=9
  · rw [if_pos k];exact E0E h hf (by omega)
  rw [if_neg k];by_cases k4:f.1=4
  · rw [if_pos k4];exact D5u h f hf [] (by simp)
  rw [if_neg k4];by_cases k6:f.1=6
  · rw [if_pos k6];exact D5u h f hf _ hf.n
  rw [if_neg k6];by_cases k5:f.1=5
  · rw [if_pos k5];exact B24 h (by omega)
  rw [if_neg k5];by_cases k8:f.1=8
  · rw [if_pos k8]
    split
    · exact B7n h
    · exact B24 h (by omega)
  rw [if_neg k8];by_cases k0:f.1=0
  · rw [if_pos k0];exact E0F h hf
  rw [if_neg k0];by_cases k3:f.1=3
  · rw [if_pos k3];exact D7R h f
  · rw [if_neg k3];exact B7n h
section
variable (cs:List A4R) (os:List Int)
end
set_option maxRecDepth 100000
theorem B9A(b:List Int)(a c:Nat):∀ j,H2 (b.drop a) c j=H2 b (a+c) j
  | 0=>rfl
  | j+1=>by
    simp only [H2,B9A b a c j];rw [show (b.drop a).getD (c+j) 0=b.getD (a+c+j) 0 by simp [List.getD,List.getElem?_drop,Nat.add_assoc]]
theorem A5a(b:List Int)(n c:Nat):∀ j,c+j<=n->H2 (b.take n) c j=H2 b c j
  | 0,_=>rfl
  | j+1,h=>by
    simp only [H2,A5a b n c j (by omega)];rw [show (b.take n).getD (c+j) 0=b.getD (c+j) 0 by simp [List.getD,List.getElem?_take,show c+j<n by omega]]
def codeF(b:List Int):Nat:=if b.length<9 then 1 else if H2 b 0 3>1000 then 2 else if b.length<9+H2 b 0 3 then 1 else 0
def S0(b:List Int):Nat:=9+H2 b 0 3
def M3(b:List Int):B0:=(A3V b 0).1
theorem A8w{b:List Int}{a:Nat}(ha:a<=b.length):(A3V b a).2.2.1=(codeF (b.drop a):Int)/\(codeF (b.drop a)=0->(A3V b a).1=M3 (b.drop a)/\(A3V b a).2.1=((a+S0 (b.drop a):Nat):Int)/\a+S0 (b.drop a)<=b.length):=by
  have hl:(b.drop a).length=b.length-a:=by simp
  have e0:H2 (b.drop a) 0 3=H2 b a 3:=by rw [B9A];rfl
  have hg:∀ (k:Nat),rd (.int .u8) (b.drop a) (k:Int)=rd (.int .u8) b ((a:Int)+k):=fun k=>by
    simp only [rd];rw [show ((a:Int)+(k:Int)).toNat=a+k by omega,Int.toNat_natCast];simp [List.getD,List.getElem?_drop]
  unfold codeF S0 M3;rw [hl,e0];unfold A3V;by_cases h9:b.length-a<9
  · rw [if_pos h9,if_neg (show ¬ (0<=(a:Int)/\(a:Int)<=(b.length:Int)-9) by omega)]
    exact ⟨rfl,fun h=>by cases h⟩
  rw [if_neg h9,if_pos (show 0<=(a:Int)/\(a:Int)<=(b.length:Int)-9 by omega),Int.toNat_natCast];by_cases h1:H2 b a 3>1000
  · rw [if_pos h1,if_pos (show (H2 b a 3:Int)>1000 by omega)]
    exact ⟨rfl,fun h=>by cases h⟩
  rw [if_neg h1,if_neg (show ¬ (H2 b a 3:Int)>1000 by omega)];by_cases h2:b.length-a<9+H2 b a 3
  · rw [if_pos h2,if_pos (show (H2 b a 3:Int)>(b.length:Int)-(a:Int)-9 by omega)]
    exact ⟨rfl,fun h=>by cases h⟩
  rw [if_neg h2,if_neg (show ¬ (H2 b a 3:Int)>(b.length:Int)-(a:Int)-9 by omega)];refine ⟨rfl,fun _=>⟨?_,(by show (a:Int)+9+(H2 b a 3:Int)=((a+(9+H2 b a 3):Nat):Int);omega),by omega⟩⟩;rw [if_pos (show 0<=(0:Int)/\(0:Int)<=((b.drop a).length:Int)-9 by omega)];rw [show (0:Int).toNat=0 from rfl,e0,if_neg (show ¬ (H2 b a 3:Int)>1000 by omega),if_neg (show ¬ (H2 b a 3:Int)>((b.drop a).length:Int)-0-9 by omega)];have r3:=hg 3;have r4:=hg 4;rw [show ((3:Nat):Int)=3 from rfl] at r3;rw [show ((4:Nat):Int)=4 from rfl] at r4;simp only [Int.zero_add];rw [r3,r4];have e5:H2 (b.drop a) (5:Int).toNat 4=H2 b ((a:Int)+5).toNat 4:=by
    rw [B9A]
    congr 1
  rw [e5];have e9:((b.drop a).take ((9:Int)+(H2 b a 3:Int)).toNat).drop (9:Int).toNat=(b.take ((a:Int)+9+(H2 b a 3:Int)).toNat).drop ((a:Int)+9).toNat:=by
    rw [show ((a:Int)+9+(H2 b a 3:Int)).toNat=a+(9+H2 b a 3) by omega,show ((a:Int)+9).toNat=a+9 by omega,show ((9:Int)+(H2 b a 3:Int)).toNat=9+H2 b a 3 by omega,show (9:Int).toNat=9 from rfl];rw [List.drop_take,List.drop_take,List.drop_drop]
    congr 1
    omega
  rw [e9]
theorem B9B(b:List Int):codeF b=0\/codeF b=1\/codeF b=2:=by
  unfold codeF;split
  · omega
  · split
    · omega
    · split<;>omega
theorem B6o{b:List Int}(h:codeF b=1)(k:Nat):codeF (b.take k)=1:=by
  unfold codeF at h ⊢;by_cases h9:(b.take k).length<9
  · rw [if_pos h9]
  rw [if_neg h9];rw [List.length_take] at h9;rw [if_neg (by omega)] at h;rw [A5a _ _ _ _ (by omega),List.length_take];by_cases h1:H2 b 0 3>1000
  · rw [if_pos h1] at h;cases h
  rw [if_neg h1] at h ⊢;by_cases h2:b.length<9+H2 b 0 3
  · rw [if_pos (by omega)]
  · rw [if_neg h2] at h;cases h
theorem D0m{b:List Int}(h:codeF b=2):9<=b.length/\(∀ k,k<9->codeF (b.take k)=1)/\∀ k,9<=k->codeF (b.take k)=2:=by
  unfold codeF at h;by_cases h9:b.length<9
  · rw [if_pos h9] at h;cases h
  rw [if_neg h9] at h;by_cases h1:H2 b 0 3>1000
  · refine ⟨by omega,fun k hk=>?_,fun k hk=>?_⟩
    · unfold codeF
      rw [if_pos (by rw [List.length_take];omega)]
    · unfold codeF
      rw [if_neg (by rw [List.length_take];omega),A5a _ _ _ _ (by omega),if_pos h1]
  · rw [if_neg h1] at h
    split at h<;>cases h
theorem A90{b:List Int}(h:codeF b=0):S0 b<=b.length/\9<=S0 b/\S0 b<=1009/\(∀ k,k<S0 b->codeF (b.take k)=1)/\codeF (b.take (S0 b))=0:=by
  unfold codeF at h;by_cases h9:b.length<9
  · rw [if_pos h9] at h;cases h
  rw [if_neg h9] at h;by_cases h1:H2 b 0 3>1000
  · rw [if_pos h1] at h;cases h
  rw [if_neg h1] at h;by_cases h2:b.length<9+H2 b 0 3
  · rw [if_pos h2] at h;cases h
  unfold S0;refine ⟨by omega,by omega,by omega,fun k hk=>?_,?_⟩
  · unfold codeF
    by_cases hk9:k<9
    · rw [if_pos (by rw [List.length_take];omega)]
    · rw [if_neg (by rw [List.length_take];omega),A5a _ _ _ _ (by omega),if_neg h1,if_pos (by rw [List.length_take];omega)]
  · unfold codeF
    rw [if_neg (by rw [List.length_take];omega),A5a _ _ _ _ (by omega),if_neg h1,if_neg (by rw [List.length_take];omega)]
theorem D0n{b:List Int}(h:codeF b=0):M3 (b.take (S0 b))=M3 b:=by
  obtain ⟨h1,h2,h3,_,h5⟩:=A90 h;have hn:S0 b=9+H2 b 0 3:=rfl;have hl:(b.take (S0 b)).length=S0 b:=by rw [List.length_take];omega
  have hr:∀ (k:Nat),k<S0 b->rd (.int .u8) (b.take (S0 b)) (k:Int)=rd (.int .u8) b (k:Int):=fun k hk=>by
    simp only [rd,Int.toNat_natCast];simp [List.getD,List.getElem?_take,hk]
  have e3:H2 (b.take (S0 b)) 0 3=H2 b 0 3:=A5a _ _ _ _ (by omega);unfold M3 A3V;rw [if_pos (show 0<=(0:Int)/\(0:Int)<=((b.take (S0 b)).length:Int)-9 by omega),if_pos (show 0<=(0:Int)/\(0:Int)<=(b.length:Int)-9 by omega)];rw [show (0:Int).toNat=0 from rfl,e3];rw [if_neg (show ¬ (H2 b 0 3:Int)>1000 by omega),if_neg (show ¬ (H2 b 0 3:Int)>((b.take (S0 b)).length:Int)-0-9 by omega),if_neg (show ¬ (H2 b 0 3:Int)>1000 by omega),if_neg (show ¬ (H2 b 0 3:Int)>(b.length:Int)-0-9 by omega)];simp only [Int.zero_add];have r3:=hr 3 (by omega);have r4:=hr 4 (by omega);rw [show ((3:Nat):Int)=3 from rfl] at r3;rw [show ((4:Nat):Int)=4 from rfl] at r4;rw [r3,r4,A5a _ _ _ _ (show (5:Int).toNat+4<=S0 b by simp;omega)];rw [show ((9:Int)+(H2 b 0 3:Int)).toNat=S0 b by omega,List.take_take,Nat.min_self]
theorem C7H{b:List Int}(hb:Byt b)(h:codeF b=0):FrI (M3 b):=by
  obtain ⟨h1,h2,h3,_,_⟩:=A90 h;have hn:S0 b=9+H2 b 0 3:=rfl;have r3:=B6m hb (show 3<b.length by omega);have r4:=B6m hb (show 4<b.length by omega);rw [show ((3:Nat):Int)=3 from rfl] at r3;rw [show ((4:Nat):Int)=4 from rfl] at r4;have hs:=C1o hb 5 4;have hm:M5 .i64 (H2 b 5 4:Int) 2147483647=((H2 b 5 4 % 2 ^ 31:Nat):Int):=by
    rw [show (2147483647:Int)=((2147483647:Nat):Int) from rfl,B0L (by simp at hs;omega) (by omega),show (2147483647:Nat)=2 ^ 31-1 from rfl,Nat.and_two_pow_sub_one_eq_mod]
  have hlt:H2 b 5 4 % 2 ^ 31<2 ^ 31:=Nat.mod_lt _ (by decide);have e:M3 b=(rd (.int .u8) b 3,rd (.int .u8) b 4,M5 .i64 (H2 b 5 4:Int) 2147483647,(b.take ((9:Int)+(H2 b 0 3:Int)).toNat).drop (9:Int).toNat):=by
    unfold M3 A3V;rw [if_pos (show 0<=(0:Int)/\(0:Int)<=(b.length:Int)-9 by omega),show (0:Int).toNat=0 from rfl,if_neg (show ¬ (H2 b 0 3:Int)>1000 by omega),if_neg (show ¬ (H2 b 0 3:Int)>(b.length:Int)-0-9 by omega)];simp only [Int.zero_add];rfl
  rw [e];refine ⟨?_,?_,?_,?_,?_⟩
  · simp only [r3.1];omega
  · simp only [r4.1];omega
  · simp only [hm];omega
  · simp only [List.length_drop,List.length_take];omega
  · exact B0G (B7S hb _) _
set_option maxRecDepth 100000
abbrev priS:X0:=⟨#[80,82,73,32,42,32,72,84,84,80,47,50,46,48,13,10,13,10,83,77,13,10,13,10]⟩
def goB(last code:Int):List Int:=E5 (7,0,0,big (B0E last) 4++big (B0E code) 4)
theorem D5w(last code:Int):(goB last code).length=17:=by
  simp only [goB,E5,List.length_append,A2U,List.length_cons,List.length_nil]
structure BS where
  pre:Nat
  inn:List Int
  dead:Int
  m:HM
def B0P(pre:Nat)(m:HM)(code:Int):BS:=⟨pre,[],code,{m with g:=(0,false,[]),strs:= [],out:=m.out++goB m.last code}⟩
noncomputable def A2A(st:BS)(x:Int):BS:=
  if st.dead≠0 then st
  else if st.pre<24 then (if x=bt priS (st.pre:Int) then ⟨st.pre+1,st.inn,0,st.m⟩ else B0P st.pre st.m 1)
  else if codeF (st.inn ++ [x])=1 then ⟨st.pre,st.inn ++ [x],0,st.m⟩
  else if codeF (st.inn ++ [x])=2 then B0P st.pre st.m 6
  else if (frM st.m (M3 (st.inn ++ [x]))).1=0 then ⟨st.pre,[],0,(frM st.m (M3 (st.inn ++ [x]))).2⟩
  else B0P st.pre (frM st.m (M3 (st.inn ++ [x]))).2 (frM st.m (M3 (st.inn ++ [x]))).1
noncomputable def M4(st:BS)(b:List Int):BS:=b.foldl A2A st
theorem A6C(st:BS)(h:st.dead≠0):∀ b,M4 st b=st
  | []=>rfl
  | x::b=>by
    have e:A2A st x=st:=by unfold A2A;rw [if_pos h]
    show M4 (A2A st x) b=st;rw [e];exact A6C st h b
theorem B6p(st:BS)(a b:List Int):M4 st (a++b)=M4 (M4 st a) b:=by
  unfold M4;rw [List.foldl_append]
structure BI (st:BS):Prop where
  pre:st.pre<=24
  hi:HI st.m
  inb:Byt st.inn
  more:codeF st.inn=1
  emp:st.pre<24\/st.dead≠0->st.inn = []
  gone:st.dead≠0->st.m.strs = []/\st.m.g.1=0
  dead:0<=st.dead/\st.dead<=20
theorem D7S:codeF []=1:=rfl
theorem C8S{pre:Nat}(hp:pre<=24){m:HM}(h1:0<=m.last/\m.last<=2147483647)(h2:P9 m.dec){code:Int}(hc:0<=code/\code<=20):BI (B0P pre m code):=
  ⟨hp,⟨C7F _,h1,h2,.inl ⟨rfl,rfl,rfl⟩,fun x hx=>by cases hx⟩,(fun x hx=>by cases hx),rfl,fun _=>rfl,fun _=>⟨rfl,rfl⟩,hc⟩
theorem E0H{b:List Int}(hb:Byt b){x:Int}(hx:0<=x/\x<256):Byt (b ++ [x]):=A03 hb fun y hy=>by rcases List.mem_singleton.1 hy with rfl;exact hx
theorem E0I{st:BS}(h:BI st){x:Int}(hx:0<=x/\x<256):BI (A2A st x)/\(A2A st x).m.calls.length<=st.m.calls.length+1/\(A2A st x).m.out.length<=st.m.out.length+1200:=by
  unfold A2A;by_cases hd:st.dead≠0
  · rw [if_pos hd];exact ⟨h,by omega,by omega⟩
  rw [if_neg hd];have hb:=E0H h.inb hx;have hg:=D5w;by_cases hp:st.pre<24
  · rw [if_pos hp]
    by_cases hq:x=bt priS (st.pre:Int)
    · rw [if_pos hq]
      refine ⟨⟨by simp only;omega,h.hi,h.inb,h.more,fun _=>h.emp (.inl hp),fun e=>absurd rfl e,by simp⟩,by simp only;omega,by simp only;omega⟩
    · rw [if_neg hq]
      exact ⟨C8S h.pre h.hi.last h.hi.dec (by omega),by simp only [B0P];omega,by simp only [B0P,List.length_append,hg];omega⟩
  rw [if_neg hp];by_cases c1:codeF (st.inn ++ [x])=1
  · rw [if_pos c1]
    exact ⟨⟨h.pre,h.hi,hb,c1,(fun e=>by rcases e with e | e;exact absurd e hp;exact absurd rfl e),(fun e=>absurd rfl e),by simp⟩,by simp only;omega,by simp only;omega⟩
  rw [if_neg c1];by_cases c2:codeF (st.inn ++ [x])=2
  · rw [if_pos c2]
    exact ⟨C8S h.pre h.hi.last h.hi.dec (by omega),by simp only [B0P];omega,by simp only [B0P,List.length_append,hg];omega⟩
  rw [if_neg c2];have c0:codeF (st.inn ++ [x])=0:=by have:=B9B (st.inn ++ [x]);omega
  have ho:=E0G h.hi (C7H hb c0);have h1:=ho.calls;have h2:=ho.out;by_cases hr:(frM st.m (M3 (st.inn ++ [x]))).1=0
  · rw [if_pos hr]
    exact ⟨⟨h.pre,ho.hi hr,(fun x hx=>by cases hx),rfl,fun _=>rfl,(fun e=>absurd rfl e),by simp⟩,by simp only;omega,by simp only;omega⟩
  · rw [if_neg hr]
    exact ⟨C8S h.pre ho.last ho.dec ho.code,by simp only [B0P];omega,by simp only [B0P,List.length_append,hg];omega⟩
theorem B9C:∀ {b:List Int} {st:BS},BI st->Byt b->BI (M4 st b)/\(M4 st b).m.calls.length<=st.m.calls.length+b.length/\(M4 st b).m.out.length<=st.m.out.length+1200*b.length
  | [],st,h,_=>⟨h,by simp [M4],by simp [M4]⟩
  | x::b,st,h,hb=>by
    obtain ⟨h1,h2,h3⟩:=E0I h (hb x List.mem_cons_self);obtain ⟨h4,h5,h6⟩:=B9C (b:=b) h1 fun y hy=>hb y (List.mem_cons_of_mem _ hy)
    have e:M4 st (x::b)=M4 (A2A st x) b:=rfl;rw [e];exact ⟨h4,by simp only [List.length_cons];omega,by simp only [List.length_cons];omega⟩
theorem B3r(st:BS)(hd:st.dead=0)(hp:¬ st.pre<24):∀ (k:Nat) (xs:List Int),xs.length=k->(∀ j,j<=k->codeF (st.inn++xs.take j)=1)->M4 st xs=⟨st.pre,st.inn++xs,0,st.m⟩:=by
  intro k
  induction k generalizing st with
  | zero=>
    intro xs hx _;have:xs = []:=List.length_eq_zero_iff.1 hx;subst this;show st=_;rw [List.append_nil];cases st;simp only at hd;subst hd;rfl
  | succ k ih=>
    intro xs hx hc;cases xs with
    | nil=>cases hx
    | cons x xs=>
      have h1:=hc 1 (by omega);simp only [List.take_succ_cons,List.take_zero] at h1;have e:A2A st x=⟨st.pre,st.inn ++ [x],0,st.m⟩:=by
        unfold A2A;rw [if_neg (by omega),if_neg hp,if_pos h1]
      show M4 (A2A st x) xs=_;rw [e,ih ⟨st.pre,st.inn ++ [x],0,st.m⟩ rfl hp xs (by simpa using hx) fun j hj=>by
        have:=hc (j+1) (by omega);simpa using this]
      simp
noncomputable def B6q:Nat->HM->List Int->Int×HM×List Int
  | 0,m,b=>(0,m,b)
  | k+1,m,b=>if codeF b=1 then (0,m,b) else if codeF b=2 then (6,m,b) else
    if (frM m (M3 b)).1≠0 then ((frM m (M3 b)).1,(frM m (M3 b)).2,b) else B6q k (frM m (M3 b)).2 (b.drop (S0 b))
def C7I(pre:Nat)(r:Int×HM×List Int):BS:=if r.1=0 then ⟨pre,r.2.2,0,r.2.1⟩ else B0P pre r.2.1 r.1
theorem C0H(pre:Nat)(hp:¬ pre<24):∀ (k:Nat) (xs inn:List Int) (m:HM),inn.length+xs.length<=k->codeF inn=1->M4 ⟨pre,inn,0,m⟩ xs=C7I pre (B6q (k+1) m (inn++xs)):=by
  intro k
  induction k with
  | zero=>
    intro xs inn m hk hi;have h1:xs = []:=List.length_eq_zero_iff.1 (by omega);subst h1;simp only [B6q,List.append_nil,if_pos hi,C7I,if_true];rfl
  | succ k ih=>
    intro xs inn m hk hi;rw [B6q];have hpre:∀ j,j<=inn.length+xs.length->inn.length<=j->(inn++xs).take j=inn++xs.take (j-inn.length):=fun j h1 h2=>by
      rw [List.take_append,List.take_of_length_le h2]
    rcases B9B (inn++xs) with c | c | c
    · obtain ⟨w1,w2,w3,w4,w5⟩:=A90 c
      have hlt:inn.length<S0 (inn++xs):=by
        rcases Nat.lt_or_ge inn.length (S0 (inn++xs)) with h | h
        · exact h
        · exfalso
          have h7:=B6o hi (S0 (inn++xs));have:(inn++xs).take (S0 (inn++xs))=inn.take (S0 (inn++xs)):=by rw [List.take_append_of_le_length h]
          rw [this,h7] at w5;cases w5
      rw [List.length_append] at w1;obtain ⟨n,hn⟩:∃ n,S0 (inn++xs)=inn.length+(n+1):=⟨S0 (inn++xs)-inn.length-1,by omega⟩;have hlen:n<xs.length:=by omega
      have hsplit:xs=xs.take n++(xs[n]::xs.drop (n+1)):=by
        rw [<- List.drop_eq_getElem_cons hlen,List.take_append_drop]
      have hw:M4 ⟨pre,inn,0,m⟩ (xs.take n)=⟨pre,inn++xs.take n,0,m⟩:=by
        refine B3r ⟨pre,inn,0,m⟩ rfl hp n (xs.take n) (by rw [List.length_take];omega) fun j hj=>?_
        have:=w4 (inn.length+j) (by omega);rw [hpre _ (by omega) (by omega)] at this;rw [List.take_take,Nat.min_eq_left hj];simpa using this
      have hB:inn++xs.take n ++ [xs[n]]=(inn++xs).take (S0 (inn++xs)):=by
        rw [hpre _ (by omega) (by omega),hn,show inn.length+(n+1)-inn.length=n+1 by omega,List.append_assoc,List.take_succ_eq_append_getElem hlen]
      have hD:(inn++xs).drop (S0 (inn++xs))=xs.drop (n+1):=by
        rw [hn,List.drop_append,List.drop_eq_nil_of_le (by omega),List.nil_append]
        congr 1
        omega
      rw [if_neg (by omega),if_neg (by omega)];have e1:M4 ⟨pre,inn,0,m⟩ xs=M4 (A2A ⟨pre,inn++xs.take n,0,m⟩ xs[n]) (xs.drop (n+1)):=by
        conv=>lhs;rw [hsplit]
        rw [B6p,hw];rfl
      rw [e1];have e2:A2A ⟨pre,inn++xs.take n,0,m⟩ xs[n]=if (frM m (M3 (inn++xs))).1=0 then ⟨pre,[],0,(frM m (M3 (inn++xs))).2⟩ else B0P pre (frM m (M3 (inn++xs))).2 (frM m (M3 (inn++xs))).1:=by
        unfold A2A;simp only [hB,w5,D0n c];rw [if_neg (by omega),if_neg hp,if_neg (by omega),if_neg (by omega)]
      rw [e2];by_cases hr:(frM m (M3 (inn++xs))).1=0
      · rw [if_pos hr,if_neg (by simpa using hr),hD]
        exact ih (xs.drop (n+1)) [] _ (by simp;omega) rfl
      · rw [if_neg hr,if_pos hr,A6C _ (by simpa [B0P] using hr)]
        simp only [C7I,if_neg hr]
    · rw [if_pos c]
      simp only [C7I,if_true];refine B3r ⟨pre,inn,0,m⟩ rfl hp xs.length xs rfl fun j hj=>?_
      have:=B6o c (inn.length+j);rw [hpre _ (by omega) (by omega)] at this;simpa using this
    · obtain ⟨w1,w2,w3⟩:=D0m c
      have hlt:inn.length<9:=by
        rcases Nat.lt_or_ge inn.length 9 with h | h
        · exact h
        · exfalso
          have h7:=B6o hi 9;have h8:=w3 9 (by omega);have:(inn++xs).take 9=inn.take 9:=by rw [List.take_append_of_le_length h]
          rw [this,h7] at h8;cases h8
      rw [List.length_append] at w1;obtain ⟨n,hn⟩:∃ n,9=inn.length+(n+1):=⟨8-inn.length,by omega⟩;have hlen:n<xs.length:=by omega
      have hsplit:xs=xs.take n++(xs[n]::xs.drop (n+1)):=by
        rw [<- List.drop_eq_getElem_cons hlen,List.take_append_drop]
      have hw:M4 ⟨pre,inn,0,m⟩ (xs.take n)=⟨pre,inn++xs.take n,0,m⟩:=by
        refine B3r ⟨pre,inn,0,m⟩ rfl hp n (xs.take n) (by rw [List.length_take];omega) fun j hj=>?_
        have:=w2 (inn.length+j) (by omega);rw [hpre _ (by omega) (by omega)] at this;rw [List.take_take,Nat.min_eq_left hj];simpa using this
      have hB:codeF (inn++xs.take n ++ [xs[n]])=2:=by
        have:=w3 9 (by omega);rw [hpre _ (by omega) (by omega),show 9-inn.length=n+1 by omega,List.take_succ_eq_append_getElem hlen,<- List.append_assoc] at this;exact this
      rw [if_neg (by omega),if_pos c];have e1:M4 ⟨pre,inn,0,m⟩ xs=M4 (A2A ⟨pre,inn++xs.take n,0,m⟩ xs[n]) (xs.drop (n+1)):=by
        conv=>lhs;rw [hsplit]
        rw [B6p,hw];rfl
      have e2:A2A ⟨pre,inn++xs.take n,0,m⟩ xs[n]=B0P pre m 6:=by
        unfold A2A;rw [if_neg (by simp),if_neg hp,if_neg (by simp only [hB];omega),if_pos hB]
      rw [e1,e2,A6C _ (by simp [B0P])];rfl
set_option maxRecDepth 100000
theorem E0J{c:Q4}(h:B3p c.2.2.2.2.2.1 c.2.2.2.2.2.2.1):D9c c=true:=by
  obtain ⟨h1,h2,h3⟩:=h;have hall:∀ i,i<c.2.2.2.2.2.1.length->B92 c i=true:=fun i hi=>by
    have e:=A77 hi;have hs:=h3 _ (List.getElem_mem hi);rw [<- e] at hs;unfold D7N at hs;have e0:rd F5 c.2.2.2.2.2.1 (i:Int)=sAt c.2.2.2.2.2.1 i:=rfl;unfold B92;rw [e0,A0 hs.1,A0 (show 1<=(sAt c.2.2.2.2.2.1 i).1/\(sAt c.2.2.2.2.2.1 i).1<=c.2.2.2.2.2.2.1 from ⟨hs.2.1,hs.2.2.1⟩),A3 (show ¬ (List.length (sAt c.2.2.2.2.2.1 i).2.2.2:Int)>2000 by omega)];have hst:(decide ((sAt c.2.2.2.2.2.1 i).2.1=1)||decide ((sAt c.2.2.2.2.2.1 i).2.1=2))=true:=by
      rcases hs.2.2.2.1 with q | q<;>rw [q]<;>rfl
    rw [hst];have hup:(decide (i=0)||!decide ((sAt c.2.2.2.2.2.1 i).1<=(rd F5 c.2.2.2.2.2.1 ((i:Int)-1)).1))=true:=by
      by_cases h0:i=0
      · rw [A0 h0];rfl
      · have e1:rd F5 c.2.2.2.2.2.1 ((i:Int)-1)=sAt c.2.2.2.2.2.1 (i-1):=by
          unfold sAt;rw [show (i:Int)-1=((i-1:Nat):Int) by omega]
        have hp:=List.pairwise_iff_getElem.1 h2 (i-1) i (by simp;omega) (by simpa using hi) (by omega);simp only [List.getElem_map] at hp;rw [e1,e,A77 (show i-1<c.2.2.2.2.2.1.length by omega),A3 (Int.not_le.2 hp),Bool.not_false,Bool.or_true]
    rw [hup];rfl
  have hn:K2 (B92 c) 0 c.2.2.2.2.2.1.length=c.2.2.2.2.2.1.length:=C08 _ _ _ (Nat.le_refl _) hall (fun h=>absurd h (Nat.lt_irrefl _));unfold D9c;rw [A0 hn,A0 (show (c.2.2.2.2.2.1.length:Int)<=100 by omega)];rfl
abbrev bsC(enc:B4)(st:BS):Q4:=mkC (st.pre:Int) st.inn enc st.dead st.m
abbrev bsH(enc:B4)(st:BS):C8:=mkH (st.pre:Int) st.inn enc st.dead st.m
theorem C7J{b:List Int}(h:codeF b=1):b.length<=1009:=by
  unfold codeF at h;split at h
  · omega
  · split at h
    · cases h
    · split at h
      · omega
      · cases h
theorem B5F{enc:B4}(he:P9 enc){st:BS}(h:BI st):A3u (bsC enc st)=some (true,()):=by
  have hpre:=h.pre;have hd:=h.dead;have hl:=h.hi.last;have hn:=C7J h.more;have hsl:=h.hi.strs.1;have e5:=D6v (bsC enc st) (by simp only [maxLen];omega);rw [E0J (c:=bsC enc st) h.hi.strs] at e5;have e6:=A7u st.inn h.inb (by omega) 0 (by omega);have e7:=(A8w (b:=st.inn) (a:=0) (by omega)).1;rw [List.drop_zero,h.more,show ((0:Nat):Int)=0 from rfl] at e7;simp only [A3u,B6T,F7,B2S h.hi.g,C7B h.hi.dec,C7B he,bO];rw [e5];rw [A0 (show (0:Int)<=(st.pre:Int)/\(st.pre:Int)<=24 by omega),A0 hl,A0 hd,A3 (show ¬ (st.inn.length:Int)>1100 by omega),e6];simp only [Bool.not_true,cond_false,bO,bSl,e7];by_cases h1:st.pre<24
  · have hi:st.inn.length=0:=by rw [h.emp (.inl h1)];rfl
    rw [A0 (show (st.pre:Int)<24 by omega),A3 (show ¬ (st.inn.length:Int)>0 by omega)];simp only [cond_true,cond_false];by_cases h2:st.dead>0
    · obtain ⟨g1,g2⟩:=h.gone (by omega)
      have g3:st.m.strs.length=0:=by rw [g1];rfl
      rw [A0 h2,A3 (show ¬ (st.m.strs.length:Int)>0 by omega),A0 g2];rfl
    · rw [A3 h2];rfl
  · rw [A3 (show ¬ (st.pre:Int)<24 by omega)]
    by_cases h2:st.dead>0
    · have hi:st.inn.length=0:=by rw [h.emp (.inr (by omega))];rfl
      obtain ⟨g1,g2⟩:=h.gone (by omega);have g3:st.m.strs.length=0:=by rw [g1];rfl
      rw [A0 h2,A3 (show ¬ (st.inn.length:Int)>0 by omega),A3 (show ¬ (st.m.strs.length:Int)>0 by omega),A0 g2];rfl
    · rw [A3 h2];rfl
theorem C8T(F T:List Int)(h1:F.length<=10000000000)(h2:T.length<=10000000000):L3 [F,T]=some (F++T,()):=by
  have r0:rd (.sl 5 (.int .u8)) ([F,T]:List (List Int)) 0=F:=rfl;have r1:rd (.sl 5 (.int .u8)) ([F,T]:List (List Int)) 1=T:=rfl;have hl:(([F,T]:List (List Int)).length:Int)=2:=rfl;have d0:decide ((0:Int)<2)=true:=rfl;have d1:decide ((0:Int)<=0)=true:=rfl;have d2:decide ((1:Int)<2)=true:=rfl;have d3:decide ((0:Int)<=1)=true:=rfl;have a1:C2 (N9 [F,T]) (0,0,())=some ((F.length:Int)+T.length,()):=by
    rw [A4F (y:=((F.length:Int),1,())) (by
      simp only [N9,hl,r0,d0,d1,cond_true,Int.zero_add];rw [w64 (n:=(F.length:Int)) (by omega) (by omega),A3 (p:=(F.length:Int)<0) (by omega)];rfl)]
    rw [A4F (y:=((F.length:Int)+T.length,2,())) (by
      simp only [N9,hl,r1,d2,d3,cond_true];rw [w64 (n:=(F.length:Int)+T.length) (by omega) (by omega),A3 (p:=(F.length:Int)+T.length<0) (by omega)];rfl)]
    rw [C3];rfl
  have a2:A6I ([]:List Int) ((F.length:Int)+T.length)=some ([],()):=by
    have:(([]:List Int).isEmpty&&decide (0<=(F.length:Int)+T.length)&&decide ((F.length:Int)+T.length<=1000000000000))=true:=by
      rw [A0 (by omega),A0 (by omega)];rfl
    simp only [A6I,this,cond_true]
  have a3:C2 (O0 [F,T]) (0,[],())=some (F++T,()):=by
    rw [A4F (y:=(1,F,())) (by
      simp only [O0,hl,r0,d0,d1,cond_true];rw [gA (by simp;omega)];rfl)]
    rw [A4F (y:=(2,F++T,())) (by
      simp only [O0,hl,r1,d2,d3,cond_true];rw [gA (by omega)];rfl)]
    rw [C3];rfl
  simp only [L3,V9,a1,A4];rw [show R7=A6I from rfl,a2];exact a3
def F8:List Int->Nat->Int×Nat×List Int
  | [],p=>(0,p,[])
  | x::xs,p=>if p<24 then (if x=bt priS (p:Int) then F8 xs (p+1) else (1,p,[])) else (0,p,x::xs)
theorem C7K:∀ (xs:List Int) (p:Nat),p<=24->(F8 xs p).2.1<=24/\(F8 xs p).2.2.length<=xs.length/\((F8 xs p).1=0\/(F8 xs p).1=1)/\(∀ x∈(F8 xs p).2.2,x∈xs)/\((F8 xs p).2.1<24->(F8 xs p).2.2 = [])
  | [],p,h=>⟨h,by simp [F8],.inl rfl,fun x hx=>by simp [F8] at hx,fun _=>rfl⟩
  | x::xs,p,h=>by
    unfold F8;by_cases hp:p<24
    · rw [if_pos hp]
      by_cases hx:x=bt priS (p:Int)
      · rw [if_pos hx]
        obtain ⟨a,b,c,d,e⟩:=C7K xs (p+1) (by omega);exact ⟨a,by simp only [List.length_cons];omega,c,fun y hy=>List.mem_cons_of_mem _ (d y hy),e⟩
      · rw [if_neg hx]
        exact ⟨h,by simp,.inr rfl,(fun y hy=>by cases hy),fun _=>rfl⟩
    · rw [if_neg hp]
      exact ⟨h,Nat.le_refl _,.inl rfl,fun y hy=>hy,fun q=>absurd q hp⟩
theorem B25(inn:List Int)(m:HM):∀ (xs:List Int) (p:Nat),p<=24->M4 ⟨p,inn,0,m⟩ xs=if (F8 xs p).1=0 then M4 ⟨(F8 xs p).2.1,inn,0,m⟩ (F8 xs p).2.2 else B0P (F8 xs p).2.1 m 1
  | [],p,_=>by simp [F8]
  | x::xs,p,h=>by
    have e:M4 ⟨p,inn,0,m⟩ (x::xs)=M4 (A2A ⟨p,inn,0,m⟩ x) xs:=rfl;unfold F8;by_cases hp:p<24
    · rw [if_pos hp,e]
      by_cases hx:x=bt priS (p:Int)
      · have e2:A2A ⟨p,inn,0,m⟩ x=⟨p+1,inn,0,m⟩:=by
          unfold A2A;rw [if_neg (by simp),if_pos hp,if_pos hx]
        rw [if_pos hx,e2];exact B25 inn m xs (p+1) (by omega)
      · have e2:A2A ⟨p,inn,0,m⟩ x=B0P p m 1:=by
          unfold A2A;rw [if_neg (by simp),if_pos hp,if_neg hx]
        rw [if_neg hx,e2,A6C _ (by simp [B0P])];rfl
    · rw [if_neg hp]
      rfl
section
variable (enc:B4)
theorem C3M(inn:List Int)(dead:Int)(m:HM):∀ (xs:List Int) (p:Nat),p<=24->Byt xs->xs.length<=1000000000->G1 (mkH (p:Int) inn enc dead m) xs=some ((F8 xs p).2.2,(F8 xs p).1,mkH ((F8 xs p).2.1:Int) inn enc dead m,())
  | [],p,h,_,_=>by
    simp only [G1,K9];rw [C3];simp only [M2,List.length_nil,show decide (((0:Nat):Int)>0)=false from rfl,cond_false,bSr];rfl
  | x::xs,p,h,hb,hl=>by
    have d1:decide ((((x::xs).length:Nat):Int)>0)=true:=A0 (by simp only [List.length_cons];omega);have d2:decide ((0:Int)<(((x::xs).length:Nat):Int))=true:=A0 (by simp only [List.length_cons];omega);have d3:decide ((1:Int)<=(((x::xs).length:Nat):Int))=true:=A0 (by simp only [List.length_cons];omega);have e0:rd (.int .u8) (x::xs) 0=x:=rfl;have ht:((x::xs).take (x::xs).length).drop 1=xs:=by rw [List.take_length];rfl
    unfold F8;by_cases hp:p<24
    · have d4:decide ((p:Int)<24)=true:=A0 (by omega)
      have d5:decide ((0:Int)<=(p:Int))=true:=A0 (by omega);have d6:decide ((p:Int)<(priS.size:Int))=true:=A0 (by rw [show priS.size=24 from rfl];omega);rw [if_pos hp];by_cases hx:x=bt priS (p:Int)
      · have w1:IntKind.i64.wrap ((p:Int)+1)=((p+1:Nat):Int):=by rw [w64 (by omega) (by omega)];omega
        rw [if_pos hx,<- C3M inn dead m xs (p+1) (by omega) (fun y hy=>hb y (List.mem_cons_of_mem _ hy)) (by simp only [List.length_cons] at hl;omega)];simp only [G1,K9]
        conv=>lhs;rw [C3]
        simp only [M2,d1,d2,d3,d4,d5,d6,cond_true,bSl,e0,A0 hx,Bool.not_true,cond_false,ht,w1]
      · rw [if_neg hx]
        simp only [G1,K9];rw [C3];simp only [M2,d1,d2,d3,d4,d5,d6,cond_true,bSl,e0,A3 hx,Bool.not_false,bSr]
    · have d4:decide ((p:Int)<24)=false:=A3 (by omega)
      rw [if_neg hp];simp only [G1,K9];rw [C3];simp only [M2,d1,d4,cond_true,cond_false,bSr];rfl
abbrev frL(a:Int)(pre:Int)(inn:List Int)(dead:Int)(m:HM):Int×Int×Int×Bool×Int×Int×Int×Int×List Int×List Int×List A5×List A5×List A0P×List A4R×List Int×Unit:=
  (a,pre,m.g.1,m.g.2.1,m.dec.1,enc.1,m.last,dead,inn,m.g.2.2,m.dec.2,enc.2,m.strs,m.calls,m.out,())
theorem B5G(pre:Int)(inn:List Int)(dead:Int)(b:List Int)(hb:Byt b)(hl:b.length<=1000000000):∀ (k a:Nat) (m:HM),a<=b.length->b.length<a+k->HI m->m.calls.length<=a->m.out.length<=1100*a->
    C2 (A39 O7 Q7 A9 b) (frL enc (a:Int) pre inn dead m) =
      some ((B6q k m (b.drop a)).1,mkH pre (if (B6q k m (b.drop a)).1=0 then (B6q k m (b.drop a)).2.2 else inn) enc dead (B6q k m (b.drop a)).2.1,())
  | 0,a,m,ha,hk,_,_,_=>by omega
  | k+1,a,m,ha,hk,hi,hc,ho=>by
    have e1:=A7u b hb (by omega) (a:Int) (by omega);obtain ⟨g1,g2⟩:=A8w ha;rw [C3];simp only [A39,e1,bO,g1];unfold B6q;rcases B9B (b.drop a) with c | c | c
    · obtain ⟨f1,f2,f3⟩:=g2 c
      have w:=A90 c;have hfi:=C7H (B0G hb a) c;have hfo:=E0G hi hfi;have e2:=D3R pre inn enc dead m hi ⟨by omega,by omega⟩ (M3 (b.drop a)) hfi;have e2':Q7 ((pre,inn,(m.g.1,m.g.2.1,m.g.2.2),(m.dec.1,m.dec.2),(enc.1,enc.2),m.strs,m.last,dead),m.calls,m.out) (M3 (b.drop a))=some ((frM m (M3 (b.drop a))).1,mkH pre inn enc dead (frM m (M3 (b.drop a))).2,()):=e2;rw [c];simp only [show decide (((0:Nat):Int)=1)=false from rfl,show decide (((0:Nat):Int)=2)=false from rfl,cond_false,f1,f2,e2',bO];rw [if_neg (show ¬ (0:Nat)=1 by omega),if_neg (show ¬ (0:Nat)=2 by omega)];by_cases hr:(frM m (M3 (b.drop a))).1=0
      · rw [A0 hr,if_neg (show ¬ (frM m (M3 (b.drop a))).1≠0 by simpa using hr)]
        have ih:=B5G pre inn dead b hb hl k (a+S0 (b.drop a)) (frM m (M3 (b.drop a))).2 f3 (by omega) (hfo.hi hr) (by have:=hfo.calls;omega) (by have:=hfo.out;omega);rw [List.drop_drop];simp only [Bool.not_true,cond_false];exact ih
      · rw [A3 hr,if_pos (show (frM m (M3 (b.drop a))).1≠0 from hr)]
        simp only [Bool.not_false,cond_true];rw [if_neg hr]
    · rw [c]
      simp only [show decide (((1:Nat):Int)=1)=true from rfl,cond_true,if_true];rw [A0 (show (0:Int)<=(a:Int) by omega),A0 (show (a:Int)<=(b.length:Int) by omega),List.take_length,Int.toNat_natCast,A4G _ (by simp;omega)];rfl
    · rw [c]
      simp only [show decide (((2:Nat):Int)=1)=false from rfl,show decide (((2:Nat):Int)=2)=true from rfl,cond_true,cond_false];rw [if_neg (show ¬ (2:Nat)=1 by omega),if_pos trivial];rfl
theorem D0o(pre:Nat)(inn:List Int)(m:HM)(code:Int)(ho:m.out.length<=100000000000000):A25 (mkH (pre:Int) inn enc 0 m) code=some (bsH enc (B0P pre m code),()):=by
  have e1:=A8u [] m.last 4 (by omega) (by simp);have e2:=A8u ([]++big (B0E m.last) 4) code 4 (by omega) (by simp [A2U]);rw [show ((4:Nat):Int)=4 from rfl] at e1 e2;have hg:=D5w m.last code;simp only [A25,A7q,A5l,A9b,e1,bO,e2];rw [A3U _ _ (by simp [A2U];omega)];rfl
theorem C3N(he:P9 enc){st:BS}(h:BI st)(hc:st.m.calls = [])(ho:st.m.out = []){b:List Int}(hb:Byt b)(hl:b.length<=900000000) :
    A1T (bsC enc st) b=some (bsC enc (M4 st b),(M4 st b).m.calls,(M4 st b).m.out,()):=by
  have hsl:=h.hi.strs.1;have hdl:=A3o h.hi.dec;have hel:=A3o he;have hgl:=h.hi.g;have hil:=C7J h.more;have hcp:=B3j (bsC enc st) ⟨by simp only;omega,(by rcases hgl with ⟨_,_,q⟩ | ⟨_,_,q⟩;(simp only [q];simp);(simp only;omega)),by simp only;omega,by simp only;omega,by simp only;omega,fun x hx=>by have:=(h.hi.strs.2.2 x hx).2.2.2.2;omega⟩;obtain ⟨pre,inn,dead,m⟩:=st;simp only at hc ho hcp;simp only [A1T,A9c,hcp,bO];have hd:=h.dead;by_cases h0:dead=0
  · subst h0
    have hck:=B5F he h;simp only [bsC] at hck;simp only [show decide ((0:Int)>0)=false from rfl,cond_false,hck,bO,Bool.not_true,bSl];have es:=C3M enc inn 0 m b pre h.pre hb (by omega);simp only [mkH,hc,ho] at es;rw [es];simp only [bO];obtain ⟨s1,s2,s3,s4,s5⟩:=C7K b pre h.pre;rw [B25 inn m b pre h.pre];rcases s3 with s3 | s3
    · rw [s3,C8T inn _ (by simp only at hil;omega) (by omega)]
      simp only [decide_true,cond_true,bO,if_true,A1g,A4j];have hB:Byt (inn++(F8 b pre).2.2):=A03 h.inb fun y hy=>hb y (s4 y hy)
      have hBl:(inn++(F8 b pre).2.2).length<=1000000000:=by rw [List.length_append];simp only at hil;omega
      have el:=B5G enc ((F8 b pre).2.1:Int) inn 0 (inn++(F8 b pre).2.2) hB hBl ((inn++(F8 b pre).2.2).length+1) 0 m (by omega) (by omega) h.hi (by rw [hc];simp) (by rw [ho];simp);simp only [frL,hc,ho] at el;rw [show ((0:Nat):Int)=0 from rfl,List.drop_zero] at el;rw [el];simp only [bO];have key:M4 ⟨(F8 b pre).2.1,inn,0,m⟩ (F8 b pre).2.2=C7I (F8 b pre).2.1 (B6q ((inn++(F8 b pre).2.2).length+1) m (inn++(F8 b pre).2.2)):=by
        by_cases hp:(F8 b pre).2.1<24
        · have hr:=s5 hp
          rw [hr];have hi0:inn = []:=by
            refine h.emp (.inl ?_);have:pre<=(F8 b pre).2.1:=by
              have:∀ (xs:List Int) (p:Nat),p<=(F8 xs p).2.1:=by
                intro xs
                induction xs with
                | nil=>intro p;exact Nat.le_refl _
                | cons x xs ih=>
                  intro p;unfold F8;split
                  · split
                    · have:=ih (p+1);omega
                    · exact Nat.le_refl _
                  · exact Nat.le_refl _
              exact this b pre
            simp only;omega
          subst hi0;rfl
        · exact C0H _ hp _ (F8 b pre).2.2 inn m (by rw [List.length_append];omega) h.more
      rw [key];have hbi:=(B9C (st:=⟨(F8 b pre).2.1,inn,0,m⟩) (b:=(F8 b pre).2.2) ⟨s1,h.hi,h.inb,h.more,(fun q=>h.emp (by
        rcases q with q | q
        · left
          have:∀ (xs:List Int) (p:Nat),p<=(F8 xs p).2.1:=by
            intro xs
            induction xs with
            | nil=>intro p;exact Nat.le_refl _
            | cons x xs ih=>
              intro p;unfold F8;split
              · split
                · have:=ih (p+1);omega
                · exact Nat.le_refl _
              · exact Nat.le_refl _
          have:=this b pre;simp only at q ⊢;omega
        · exact absurd rfl q)),(fun q=>absurd rfl q),by simp⟩ fun y hy=>hb y (s4 y hy)).2.2
      rw [key] at hbi;unfold C7I at hbi ⊢;generalize B6q ((inn++(F8 b pre).2.2).length+1) m (inn++(F8 b pre).2.2)=R at hbi ⊢;by_cases hR:R.1=0
      · rw [if_pos hR,if_pos hR,A0 hR]
        rfl
      · rw [if_neg hR,if_neg hR,A3 hR]
        rw [if_neg hR] at hbi;have ee:=D0o enc (F8 b pre).2.1 inn R.2.1 R.1 (by
          simp only [B0P,List.length_append,ho,List.length_nil] at hbi;omega)
        simp only [mkH,mkC] at ee;simp only [Bool.not_false,cond_true,mkH,mkC,ee,bO]
    · rw [s3]
      simp only [show decide ((1:Int)=0)=false from rfl,cond_false,bO,Bool.not_false,cond_true];have ee:=D0o enc (F8 b pre).2.1 inn m 1 (by rw [ho];simp);simp only [mkH,mkC,hc,ho] at ee;rw [ee];rfl
  · have hp:dead>0:=by simp only at hd;omega
    rw [A0 hp];simp only [cond_true,bSr];rw [A6C _ h0];simp only [hc,ho]
end
set_option maxRecDepth 100000
theorem C3O(a:List Int)(h:a.length<=maxLen):A3T a a=some (true,()):=by
  simp only [A3T,A9d,decide_true,Bool.not_true,cond_false];have e:=E2U (A3n a a) a.length h (fun _=>true) (fun i hi=>by
    have g1:((i:Int)<(a.length:Int)):=by omega
    have g2:(0:Int)<=(i:Int):=by omega
    simp only [A3n,A0 g1,A0 g2,cond_true,decide_true,Bool.not_true,cond_false]) (by simp [A3n])
  rw [e];simp
theorem D7T(c:F9)(n:Int)(h:Cur c)(hn:0<n/\n<9223372036854775808):∃ b c',A7f c n=some (b,c',())/\Cur c':=by
  obtain ⟨r,c',e,hc,_⟩:=A7v c n h hn;simp only [A7f,B6W,e,A4];exact ⟨_,_,rfl,hc⟩
theorem B7o:Byt prefaceB:=by
  unfold prefaceB;refine A03 ?_ (B6k fun x hx=>by cases hx);intro x hx;simp only [pri,List.mem_cons,List.not_mem_nil,or_false] at hx;omega
set_option maxRecDepth 100000
def newB:BS:=⟨0,[],0,⟨(0,false,[]),(4096,[]),[],0,[],[]⟩⟩
def A0J:B4:=(4096,[])
theorem A05:P9 A0J:=⟨by decide,by decide,by simp [A0J,szT]⟩
theorem D60:BI newB:=⟨by decide,⟨C7F _,by decide,A05,.inl ⟨rfl,rfl,rfl⟩,fun x hx=>by cases hx⟩,(fun x hx=>by cases hx),rfl,fun _=>rfl,(fun e=>absurd rfl e),by decide⟩
theorem C8U:A8s=some (bsC A0J newB,()):=rfl
set_option maxRecDepth 100000
def C8V(x y:Nat×Nat):Bool:=Nat.ble x.2 y.2&&Nat.beq (y.1 / 2 ^ (y.2-x.2)) x.1
def D61:List (Nat×Nat)->Bool
  | []=>true
  | x::l=>l.all (fun y=>!C8V x y&&!C8V y x)&&D61 l
def C5P(x:Nat):Nat×Nat:=(coN x,leN x)
def codsL:List (Nat×Nat):=(codesT.zip lensT).map fun c=>(c.1.toNat,c.2.toNat)
theorem D3S:D61 codsL=true:=by kernel_rfl
theorem B9D:codsL.length=257:=by unfold codsL;rw [List.length_map,List.length_zip,A0H,R8];rfl
theorem B4s{x:Nat}(h:x<codsL.length):codsL[x]=C5P x:=by
  have h1:x<codesT.length:=by rw [A0H];rw [B9D] at h;exact h
  have h2:x<lensT.length:=by rw [R8];rw [B9D] at h;exact h
  have hc:codsL=(codesT.zip lensT).map fun c=>(c.1.toNat,c.2.toNat):=rfl
  rw [List.getElem_of_eq hc h];unfold C5P coN leN;simp [List.getD_eq_getElem?_getD,List.getElem?_eq_getElem h1,List.getElem?_eq_getElem h2,List.getElem_map,List.getElem_zip]
theorem C3P:∀ {l:List (Nat×Nat)},D61 l=true->l.Pairwise fun x y=>C8V x y=false/\C8V y x=false
  | [],_=>List.Pairwise.nil
  | x::l,h=>by
    simp only [D61,Bool.and_eq_true,List.all_eq_true,Bool.not_eq_true'] at h;exact List.Pairwise.cons (fun y hy=>h.1 y hy) (C3P h.2)
theorem D62{x y:Nat}(hx:x<257)(hy:y<257)(h:C8V (C5P x) (C5P y)=true):x=y:=by
  have hp:=List.pairwise_iff_getElem.1 (C3P D3S);have hl:=B9D;rcases Nat.lt_trichotomy x y with q | q | q
  · have:=hp x y (by omega) (by omega) q
    rw [B4s,B4s] at this;rw [this.1] at h;cases h
  · exact q
  · have:=hp y x (by omega) (by omega) q
    rw [B4s,B4s] at this;rw [this.2] at h;cases h
theorem D0p:∀ (k i:Nat) (c n:Int),fdC k i c n=none->∀ j,i<=j->j<i+k->¬ (codesT.getD j 0=c/\lensT.getD j 0=n)
  | 0,_,_,_,_,j,h1,h2=>by omega
  | k+1,i,c,n,h,j,h1,h2=>by
    unfold fdC at h;by_cases hc:codesT.getD i 0=c/\lensT.getD i 0=n
    · rw [if_pos hc] at h;cases h
    · rw [if_neg hc] at h
      by_cases hj:j=i
      · subst hj;exact hc
      · exact D0p k (i+1) c n h j (by omega) (by omega)
theorem D7U{x:Nat}(hx:x<257):A4I (coN x) (leN x)=some x:=by
  have hf:=C1r hx;have hr:=B0K hx;cases h:A4I (coN x) (leN x) with
  | none=>
    exfalso;refine D0p 257 0 _ _ h x (by omega) (by omega) ⟨?_,?_⟩
    · unfold coN;omega
    · unfold leN;omega
  | some j=>
    obtain ⟨h1,h2,h3⟩:=A5W h;have:C8V (C5P j) (C5P x)=true:=by
      unfold C8V C5P;rw [h2,h3];simp
    rw [D62 h1 hx this]
theorem D3T{x n:Nat}(hx:x<257)(hn:n<leN x):A4I (coN x / 2 ^ (leN x-n)) n=none:=by
  cases h:A4I (coN x / 2 ^ (leN x-n)) n with
  | none=>rfl
  | some j=>
    exfalso;obtain ⟨h1,h2,h3⟩:=A5W h;have:C8V (C5P j) (C5P x)=true:=by
      unfold C8V C5P;rw [h2,h3];simp;omega
    have:=D62 h1 hx this;subst this;omega
theorem D0q(v n:Nat)(x:Bool)(hx:x=v.testBit n):2*(v / 2 ^ (n+1))+x.toNat=v / 2 ^ n:=by
  subst hx;have h1:v / 2 ^ (n+1)=v / 2 ^ n / 2:=by rw [Nat.pow_succ,Nat.div_div_eq_div_mul]
  rw [h1,Nat.testBit_eq_decide_div_mod_eq];have:=Nat.mod_two_eq_zero_or_one (v / 2 ^ n);rcases this with e | e
  · rw [e];simp;omega
  · rw [e];simp;omega
theorem D0r{x:Nat}(hx:x<256)(out:List Int)(rest:List Bool):∀ k,k<leN x->Q1 H3 (H8 (k+1) (coN x)++rest) (coN x / 2 ^ (k+1),leN x-(k+1),out)=Q1 H3 rest (0,0,out ++ [(x:Int)])
  | 0,hk=>by
    have hr:=B0K (show x<257 by omega);have hl:leN x<=30:=by unfold leN;omega
    have e1:=D0q (coN x) 0 _ rfl;simp only [Nat.pow_zero,Nat.div_one] at e1;have e2:leN x-1+1=leN x:=by omega
    have e3:=D7U (show x<257 by omega);simp only [H8,List.cons_append,List.nil_append,Q1];have e:H3 (coN x / 2 ^ (0+1),leN x-(0+1),out) ((coN x).testBit 0)=some (0,0,out ++ [(x:Int)]):=by
      unfold H3;simp only [e1,Nat.zero_add,e2,e3];rw [if_neg (by omega),if_neg (by omega)]
    rw [e]
  | k+1,hk=>by
    have hr:=B0K (show x<257 by omega);have hl:leN x<=30:=by unfold leN;omega
    have e1:=D0q (coN x) (k+1) _ rfl;have e2:leN x-(k+1+1)+1=leN x-(k+1):=by omega
    have e3:=D3T (show x<257 by omega) (show leN x-(k+1)<leN x by omega);rw [show leN x-(leN x-(k+1))=k+1 by omega] at e3;rw [show H8 (k+1+1) (coN x)=(coN x).testBit (k+1)::H8 (k+1) (coN x) from rfl];simp only [List.cons_append,Q1];have e:H3 (coN x / 2 ^ (k+1+1),leN x-(k+1+1),out) ((coN x).testBit (k+1))=some (coN x / 2 ^ (k+1),leN x-(k+1),out):=by
      unfold H3;simp only [e1,e2,e3];rw [if_neg (by omega)]
    rw [e];exact D0r hx out rest k (by omega)
theorem E29{x:Nat}(hx:x<256)(out:List Int)(rest:List Bool):Q1 H3 (cod x++rest) (0,0,out)=Q1 H3 rest (0,0,out ++ [(x:Int)]):=by
  have hr:=B0K (show x<257 by omega);have hf:=(C1r (show x<257 by omega)).2;obtain ⟨k,hk⟩:∃ k,leN x=k+1:=⟨leN x-1,by unfold leN;omega⟩;have:=D0r hx out rest k (by omega);rw [<- hk,Nat.div_eq_of_lt hf,Nat.sub_self] at this;exact this
theorem D0s:∀ (l:List Int),Byt l->∀ (out:List Int) (rest:List Bool),Q1 H3 (O1 (A80 l)++rest) (0,0,out)=Q1 H3 rest (0,0,out++l)
  | [],_,out,rest=>by simp [A80,O1]
  | x::l,hb,out,rest=>by
    have hx:=hb x List.mem_cons_self;have ih:=D0s l (fun y hy=>hb y (List.mem_cons_of_mem _ hy)) (out ++ [x]) rest;have e:O1 (A80 (x::l))=cod x.toNat++O1 (A80 l):=by simp [A80,O1]
    rw [e,List.append_assoc,E29 (by omega),Int.toNat_of_nonneg hx.1,ih,List.append_assoc];rfl
theorem D7V:∀ j,j<8->A4I (2 ^ j-1) j=none:=by
  intro j hj;have:(List.range 8).all (fun j=>(A4I (2 ^ j-1) j).isNone)=true:=by kernel_rfl
  have:=List.all_eq_true.1 this j (List.mem_range.2 hj);simpa using this
theorem E0K(out:List Int):∀ p,p<8->Q1 H3 (List.replicate p true) (0,0,out)=((2 ^ p-1,p,out),false):=by
  intro p hp
  induction p with
  | zero=>rfl
  | succ p ih=>
    rw [List.replicate_succ',C3B,ih (by omega)];simp only [cond_false,Q1];have e1:2*(2 ^ p-1)+true.toNat=2 ^ (p+1)-1:=by
      have:=Nat.two_pow_pos p;rw [Nat.pow_succ];simp;omega
    have e:H3 (2 ^ p-1,p,out) true=some (2 ^ (p+1)-1,p+1,out):=by
      unfold H3;simp only [e1,D7V (p+1) hp];rw [if_neg (by omega)]
    rw [e]
theorem D3U(s:X0):C8I s s.size=A80 (bytesOf s):=by
  conv=>lhs;rw [<- A5o s]
  exact D0T (B3e s)
theorem D0t(s:X0):A3p (R9 s)=(s,true,()):=by
  obtain ⟨c1,p,c2,c3⟩:=B6l s;rw [D3U] at c3;have e:Q1 H3 (F2 (R9 s)) (0,0,[])=((2 ^ p-1,p,bytesOf s),false):=by
    rw [c3,D0s _ (B3e s),List.nil_append];exact E0K _ p c2
  have hu:unH (R9 s)=bytesOf s:=by unfold unH;rw [e]
  have hok:C8K (R9 s)=true:=by
    rw [<- (E02 (R9 s) c1).1,hu,A5o]
  unfold A3p;rw [if_pos hok,hu,A5o]
theorem D0u{b:List Int}:∀ (k w p n i:Nat) (rest:List Int),w<128 ^ (k+1)->n+w*2 ^ (7*i)<=16777216->b.drop p=more k (w:Int)++rest->gpL b (k+1) p n i=(((n+w*2 ^ (7*i):Nat):Int),((p+(more k (w:Int)).length:Nat):Int),true,())
  | 0,w,p,n,i,rest,hw,hn,hd=>by
    have hw':w<128:=by simpa using hw
    have e0:more 0 (w:Int) = [(w:Int)]:=by simp only [more];rw [B7h (by omega)]
    rw [e0] at hd ⊢;have hlt:p<b.length:=by
      have:=congrArg List.length hd;simp at this;omega
    have hb:byN b p=w:=by
      unfold byN;have:b.getD p 0=(b.drop p).getD 0 0:=by simp [List.getD]
      rw [this,hd];simp
    unfold gpL;have hg:gpN b p n i=n+w*2 ^ (7*i):=by unfold gpN;rw [hb,Nat.mod_eq_of_lt hw']
    rw [if_pos hlt,hb,if_pos hw',hg,if_neg (by omega)];simp
  | k+1,w,p,n,i,rest,hw,hn,hd=>by
    have hlt:p<b.length:=by
      have:=congrArg List.length hd;have h2:0<(more (k+1) (w:Int)).length:=by simp only [more];split<;>simp
      simp at this;omega
    by_cases hb:(w:Int)>127
    · have e1:M5 .i64 (w:Int) 127=((w % 128:Nat):Int):=by
        have hw2:w<9223372036854775808:=by
          have:w<=w*2 ^ (7*i):=Nat.le_mul_of_pos_right _ (Nat.two_pow_pos _);omega
        rw [show (127:Int)=((127:Nat):Int) from rfl,B0L hw2 (by omega),show (127:Nat)=2 ^ 7-1 from rfl,Nat.and_two_pow_sub_one_eq_mod]
      have e2:IntKind.u8.wrap (bOr .i64 (M5 .i64 (w:Int) 127) 128)=((w % 128+128:Nat):Int):=by
        have hm:w % 128<2 ^ 7:=Nat.mod_lt _ (by decide);rw [e1,show (128:Int)=((128:Nat):Int) from rfl,B7e (by omega) (by omega),Nat.or_comm];have:=Nat.two_pow_add_eq_or_of_lt hm 1;rw [show 2 ^ 7*1=128 from rfl] at this;rw [<- this,B7h (by omega)];omega
      have e3:((w:Int)).fdiv 128=((w / 128:Nat):Int):=by rw [Int.fdiv_eq_ediv_of_nonneg _ (by omega)];omega
      have e0:more (k+1) (w:Int)=((w % 128+128:Nat):Int)::more k ((w / 128:Nat):Int):=by
        simp only [more];rw [if_pos hb,e2,e3]
      rw [e0] at hd ⊢;have hby:byN b p=w % 128+128:=by
        unfold byN;have:b.getD p 0=(b.drop p).getD 0 0:=by simp [List.getD]
        rw [this,hd];simp;omega
      have hd2:b.drop (p+1)=more k ((w / 128:Nat):Int)++rest:=by
        have:b.drop (p+1)=(b.drop p).drop 1:=by rw [List.drop_drop]
        rw [this,hd];rfl
      have hg:gpN b p n i=n+w % 128*2 ^ (7*i):=by unfold gpN;rw [hby];congr 2;omega
      have hs:n+w % 128*2 ^ (7*i)+w / 128*2 ^ (7*(i+1))=n+w*2 ^ (7*i):=by
        have h7:2 ^ (7*(i+1))=128*2 ^ (7*i):=by rw [show 7*(i+1)=7+7*i by omega,Nat.pow_add]
        rw [h7,<- Nat.mul_assoc,Nat.add_assoc,<- Nat.add_mul]
        congr 2
        omega
      have ih:=D0u k (w / 128) (p+1) (n+w % 128*2 ^ (7*i)) (i+1) rest (by rw [Nat.pow_succ] at hw;omega) (by omega) hd2;rw [gpL,if_pos hlt,if_neg (by omega),hg,ih,hs];simp only [List.length_cons];rw [show p+1+(more k ((w / 128:Nat):Int)).length=p+((more k ((w / 128:Nat):Int)).length+1) by omega]
    · have hw':w<128:=by omega
      have e0:more (k+1) (w:Int) = [(w:Int)]:=by simp only [more];rw [if_neg hb,B7h (by omega)]
      rw [e0] at hd ⊢;have hby:byN b p=w:=by
        unfold byN;have:b.getD p 0=(b.drop p).getD 0 0:=by simp [List.getD]
        rw [this,hd];simp
      rw [gpL];have hg:gpN b p n i=n+w*2 ^ (7*i):=by unfold gpN;rw [hby,Nat.mod_eq_of_lt hw']
      rw [if_pos hlt,hby,if_pos hw',hg,if_neg (by omega)];simp
theorem B26{b:List Int}{p m F v:Nat}{rest:List Int}(hm:4<=m/\m<=7)(hF:F % 2 ^ m=0/\F+2 ^ m<=256)(hv:v<=16777216)(hd:b.drop p=pfx ((2 ^ m-1:Nat):Int) (F:Int) (v:Int)++rest) :
    B1 b p m=((v:Int),((p+(pfx ((2 ^ m-1:Nat):Int) (F:Int) (v:Int)).length:Nat):Int),true,())/\F<=byN b p/\byN b p<F+2 ^ m:=by
  have h16:2 ^ 4<=2 ^ m:=B7g hm.1;have h128:2 ^ m<=2 ^ 7:=B7g hm.2;have hor:∀ x:Nat,x<2 ^ m->bOr .i64 (F:Int) (x:Int)=((F+x:Nat):Int):=fun x hx=>by
    have:=Nat.two_pow_add_eq_or_of_lt hx (F / 2 ^ m);have hq:2 ^ m*(F / 2 ^ m)=F:=by have:=Nat.div_add_mod F (2 ^ m);omega
    rw [hq] at this;rw [B7e (by omega) (by omega),<- this]
  have hlt:p<b.length:=by
    have:=congrArg List.length hd;have h2:0<(pfx ((2 ^ m-1:Nat):Int) (F:Int) (v:Int)).length:=by unfold pfx;split<;>simp
    simp at this;omega
  have hby:b.getD p 0=(b.drop p).getD 0 0:=by simp [List.getD]
  by_cases hb:(v:Int)<((2 ^ m-1:Nat):Int)
  · have e0:pfx ((2 ^ m-1:Nat):Int) (F:Int) (v:Int) = [((F+v:Nat):Int)]:=by
      unfold pfx;rw [if_pos hb,hor v (by omega),B7h (by omega)]
    rw [e0] at hd ⊢;have hbN:byN b p=F+v:=by unfold byN;rw [hby,hd];simp;omega
    have hmod:(F+v) % 2 ^ m=v:=by rw [Nat.add_mod,hF.1,Nat.zero_add,Nat.mod_mod,Nat.mod_eq_of_lt (by omega)]
    unfold B1;rw [if_pos hlt,hbN,hmod,if_pos (by omega)];exact ⟨by simp,by omega,by omega⟩
  · have e0:pfx ((2 ^ m-1:Nat):Int) (F:Int) (v:Int)=((F+(2 ^ m-1):Nat):Int)::more 3 ((v-(2 ^ m-1):Nat):Int):=by
      unfold pfx;rw [if_neg hb,hor _ (by omega),B7h (by omega),show (v:Int)-((2 ^ m-1:Nat):Int)=((v-(2 ^ m-1):Nat):Int) by omega]
    rw [e0] at hd ⊢;have hbN:byN b p=F+(2 ^ m-1):=by unfold byN;rw [hby,hd];simp;omega
    have hmod:(F+(2 ^ m-1)) % 2 ^ m=2 ^ m-1:=by rw [Nat.add_mod,hF.1,Nat.zero_add,Nat.mod_mod,Nat.mod_eq_of_lt (by omega)]
    have hd2:b.drop (p+1)=more 3 ((v-(2 ^ m-1):Nat):Int)++rest:=by
      have:b.drop (p+1)=(b.drop p).drop 1:=by rw [List.drop_drop]
      rw [this,hd];rfl
    have ih:=D0u 3 (v-(2 ^ m-1)) (p+1) (2 ^ m-1) 0 rest (by omega) (by simp;omega) hd2;unfold B1;rw [if_pos hlt,hbN,hmod,if_neg (by omega),ih];refine ⟨?_,by omega,by omega⟩;have e3:(2 ^ m-1)+(v-(2 ^ m-1))*2 ^ (7*0)=v:=by simp;omega
    rw [e3];simp only [List.length_cons];rw [show p+1+(more 3 ((v-(2 ^ m-1):Nat):Int)).length=p+((more 3 ((v-(2 ^ m-1):Nat):Int)).length+1) by omega]
theorem B0Q{b A rest:List Int}{p:Nat}(h:b.drop p=A++rest):b.drop (p+A.length)=rest:=by
  rw [<- List.drop_drop,h,List.drop_left]
theorem D0v{b A rest:List Int}{p:Nat}(h:b.drop p=A++rest):A6j b p A.length=A:=by
  unfold A6j;rw [List.drop_take,h];simp
theorem B3s{b:List Int}{p:Nat}{s:X0}{rest:List Int}(hs:s.size<=4000)(hd:b.drop p=B21 s++rest):I4 b p=(s,((p+(B21 s).length:Nat):Int),true,()):=by
  have hblen:∀ {q:Nat} {A R:List Int},b.drop q=A++R->q<=b.length->q+A.length<=b.length:=fun {q A R} h hq=>by
    have:=congrArg List.length h;simp at this;omega
  have hp:p<=b.length:=by
    rcases Nat.lt_or_ge b.length p with h | h
    · exfalso
      rw [List.drop_eq_nil_of_le (by omega)] at hd;have h0:=congrArg List.length hd;have:0<(B21 s).length:=by
        unfold B21;have h2:∀ M F v,0<(pfx M F v).length:=fun M F v=>by unfold pfx;split<;>simp
        split
        · have:=h2 127 128 ((R9 s).length:Int);simp only [List.length_append];omega
        · have:=h2 127 0 (s.size:Int);simp only [List.length_append];omega
      simp at h0;omega
    · exact h
  unfold B21 at hd ⊢;by_cases hh:(R9 s).length<s.size
  · rw [if_pos hh] at hd ⊢
    rw [List.append_assoc] at hd;obtain ⟨e1,e2,e3⟩:=B26 (m:=7) (F:=128) (v:=(R9 s).length) (by omega) (by decide) (by omega) hd;have hd2:=B0Q hd;have hl1:=hblen hd hp;have hl2:=hblen hd2 hl1;have hp2:=D0v hd2;rw [show ((2 ^ 7-1:Nat):Int)=127 from rfl,show ((128:Nat):Int)=128 from rfl] at e1;unfold I4;rw [e1];simp only [Int.toNat_natCast,Bool.true_eq_false,if_false];rw [hp2,D0t];rw [if_neg (by omega),if_neg (by omega),if_neg (by omega)];simp only [Bool.true_eq_false,if_false];rw [if_neg (by omega)];simp only [List.length_append];rw [show ((p+(pfx 127 128 ((R9 s).length:Int)).length:Nat):Int)+((R9 s).length:Int)=((p+((pfx 127 128 ((R9 s).length:Int)).length+(R9 s).length):Nat):Int) by omega]
  · rw [if_neg hh] at hd ⊢
    rw [List.append_assoc] at hd;obtain ⟨e1,e2,e3⟩:=B26 (m:=7) (F:=0) (v:=s.size) (by omega) (by decide) (by omega) hd;have hd2:=B0Q hd;have hl1:=hblen hd hp;have hl2:=hblen hd2 hl1;have hp2:=D0v hd2;have hbl:(bytesOf s).length=s.size:=bytesOf_length s;rw [hbl] at hp2 hl2;rw [show ((2 ^ 7-1:Nat):Int)=127 from rfl,show ((0:Nat):Int)=0 from rfl] at e1;unfold I4;rw [e1];simp only [Int.toNat_natCast,Bool.true_eq_false,if_false];rw [hp2,if_neg (by omega),if_neg (by omega),if_pos (by omega),A5o];simp only [List.length_append,hbl];rw [show ((p+(pfx 127 0 (s.size:Int)).length:Nat):Int)+(s.size:Int)=((p+((pfx 127 0 (s.size:Int)).length+s.size):Nat):Int) by omega]
set_option maxRecDepth 100000
theorem C3Q(all:List A5)(f:A5):∀ k:Nat,k<=all.length->B3g all f k≠0->∃ j:Nat,B3g all f k=(j:Int)+1/\j<all.length/\(rd A7 all (j:Int)).1.toList=f.1.toList
  | 0,_,h=>absurd rfl h
  | k+1,hk,h=>by
    simp only [B3g] at h ⊢;by_cases hb:B3g all f k=0
    · rw [if_pos hb] at h ⊢
      by_cases hq:((rd A7 all (k:Int)).1.toList == f.1.toList)=true
      · rw [if_pos hq]
        exact ⟨k,rfl,by omega,by simpa using hq⟩
      · rw [if_neg hq] at h;exact absurd rfl h
    · rw [if_neg hb]
      exact C3Q all f k (by omega) hb
theorem toList_inj{a b:X0}(h:a.toList=b.toList):a=b:=D5U h
theorem C3R{all:List A5}{f:A5}(h:(A0k all f).2=true):∃ j:Nat,(A0k all f).1=(j:Int)+1/\j<all.length/\rd A7 all (j:Int)=f:=by
  unfold A0k at h ⊢;by_cases hl:K2 (exa all f) 0 all.length<all.length
  · rw [if_pos hl] at h ⊢
    refine ⟨_,rfl,hl,?_⟩;have hf:=B1u (exa all f) all.length 0 (by omega);simp only [exa,Bool.not_eq_false',eqB,Bool.and_true,Bool.and_eq_true,decide_eq_true_eq] at hf;exact Prod.ext hf.1 hf.2
  · rw [if_neg hl] at h;cases h
theorem D3V{all:List A5}{f:A5}(h:(A0k all f).1≠0):∃ j:Nat,(A0k all f).1=(j:Int)+1/\j<all.length/\(rd A7 all (j:Int)).1=f.1:=by
  cases hb:(A0k all f).2 with
  | true=>
    obtain ⟨j,e1,e2,e3⟩:=C3R hb;exact ⟨j,e1,e2,by rw [e3]⟩
  | false=>
    unfold A0k at h hb ⊢;by_cases hl:K2 (exa all f) 0 all.length<all.length
    · rw [if_pos hl] at hb;cases hb
    · rw [if_neg hl] at h ⊢
      obtain ⟨j,e1,e2,e3⟩:=C3Q all f all.length (Nat.le_refl _) h;exact ⟨j,e1,e2,toList_inj e3⟩
theorem D0w{t:B4}{j:Nat}(h:j<(firstT++t.2).length):V5 t ((j:Int)+1)=(rd A7 (firstT++t.2) (j:Int),true,()):=by
  have hF:=A5U;rw [List.length_append,hF] at h;unfold V5;by_cases h1:j<61
  · rw [if_pos (by omega),if_pos (by omega),show (j:Int)+1-1=(j:Int) by omega,E20 (by omega)]
  · rw [if_neg (by omega),if_neg (by omega),E21 (F:=firstT) (T:=t.2) (k:=j) (i:=(j:Int)+1-62) (by omega) (by omega)]
def A6D(q:Int):Int×Int:=if q=1 then (63,64) else (15,16)
noncomputable def B6r(t:B4)(f:A5)(q:Int):List Int:=
  if (A0k (firstT++t.2) f).2=true/\q≠3 then pfx 127 128 (A0k (firstT++t.2) f).1
  else pfx (A6D q).1 (A6D q).2 (A0k (firstT++t.2) f).1++((if (A0k (firstT++t.2) f).1=0 then B21 f.1 else [])++B21 f.2)
noncomputable def C10(t:B4)(f:A5)(q:Int):B4:=if (A0k (firstT++t.2) f).2=true/\q≠3 then t else if q=1 then C8M t f else t
theorem B0R{t:B4}{f:A5}{q:Int}(hq:q=1\/q=3)(ht:P9 t)(h1:f.1.size<=10000)(h2:f.2.size<=10000){b:List Int}(hb:b.length<=1000000000) :
    U8 t b f q=some (b++B6r t f q,C10 t f q,())/\P9 (C10 t f q)/\(B6r t f q).length<=15+f.1.size+f.2.size/\Byt (B6r t f q):=by
  have hl:=A3o ht;have hr:=C75 (firstT++t.2) f;have hF:=A5U;rw [List.length_append] at hr;have hfi:=C35 t f (by omega);have ha:=C8N ht h1 h2;have hs1:=D0H f.1;have hs2:=D0H f.2;unfold B6r C10;simp only [U8,A9Q,hfi,bO];generalize A0k (firstT++t.2) f=w at *
  obtain ⟨j,found⟩:=w;simp only at hr ⊢;by_cases hc:found=true/\q≠3
  · obtain ⟨rfl,hq3⟩:=hc
    have e:=(D0F j b (by omega) (by omega) (by omega)).2;rw [if_pos ⟨rfl,hq3⟩,if_pos ⟨rfl,hq3⟩];have hpl:=B4r 127 128 j;refine ⟨?_,ht,by omega,C1p _ _ _⟩;simp only [A3 hq3,cond_true,Bool.not_false,e,bO,bSr]
  · rw [if_neg hc,if_neg hc]
    obtain ⟨n,hP,hM,hT⟩:∃ n:Int,Pf n (A6D q).2 (A6D q).1/\B1R q=some (n,(A6D q).2,())/\(if q=1 then C8M t f else t)=(bif decide (q=1) then C8M t f else t):=by
      rcases hq with rfl | rfl
      · exact ⟨6,E1s,rfl,rfl⟩
      · exact ⟨4,E1t,rfl,rfl⟩
    have hsk:(bif found then bif (!decide (q=3)) then (A4 (Q9 b 7 128 j) fun c28=>some (.inr (c28.1,t,()))) else some (.inl (())) else some (.inl (())))=some (Sum.inl (β:=List Int×B4×Unit) ()):=by
      cases found with
      | false=>rfl
      | true=>
        have:q=3:=Classical.byContradiction fun h=>hc ⟨rfl,h⟩
        rw [this];rfl
    have hpl:=B4r (A6D q).1 (A6D q).2 j;have hpb:=C1p (A6D q).1 (A6D q).2 j;rw [hsk];simp only [bSl,hM,bO,(hP j b (by omega) (by omega) (by omega)).2];generalize pfx (A6D q).1 (A6D q).2 j=p at *
    have hname:(bif (decide (j=0)) then (A4 (A1N (b++p) f.1) fun c56=>some (c56.1,())) else some (b++p,()))=some (b++(p++(if j=0 then B21 f.1 else [])),()):=by
      by_cases hj:j=0
      · rw [A0 hj,if_pos hj,B3f _ _ (by simp only [List.length_append];omega) (by omega)]
        simp only [cond_true,bO,List.append_assoc]
      · rw [A3 hj,if_neg hj,List.append_nil];rfl
    have hnl:(if j=0 then B21 f.1 else []).length<=f.1.size+5:=by split;exact hs1;simp
    have hnb:Byt (if j=0 then B21 f.1 else []):=by split;exact D0I _;exact fun x hx=>by cases hx
    rw [hname];simp only [bO];rw [B3f _ _ (by simp only [List.length_append];omega) (by omega)];simp only [bO,List.append_assoc];refine ⟨?_,?_,by simp only [List.length_append];omega,A03 hpb (A03 hnb (D0I _))⟩
    · rcases hq with rfl | rfl
      · rw [if_pos rfl]
        simp only [decide_true,cond_true,ha.1,bO]
      · rfl
    · rcases hq with rfl | rfl
      · rw [if_pos rfl];exact ha.2
      · exact ht
theorem E0L{t:B4}{f:A5}{q:Int}(hq:q=1\/q=3)(ht:P9 t)(h1:f.1.size<=4000)(h2:f.2.size<=4000){b rest:List Int}{p:Nat}{l:List A5}(most:Int)(hd:b.drop p=B6r t f q++rest) :
    A9f b most t p l=A6A (C10 t f q) (p+(B6r t f q).length) l f:=by
  have hl:=A3o ht;have hr:=C75 (firstT++t.2) f;have hF:=A5U;have hlen:(firstT++t.2).length=61+t.2.length:=by rw [List.length_append,hF]
  rw [hlen] at hr;obtain ⟨n,hn⟩:∃ n:Nat,(A0k (firstT++t.2) f).1=(n:Int):=⟨(A0k (firstT++t.2) f).1.toNat,by omega⟩;unfold B6r C10 at *
  unfold A9f;by_cases hc:(A0k (firstT++t.2) f).2=true/\q≠3
  · rw [if_pos hc] at hd ⊢
    rw [if_pos hc];obtain ⟨j,j1,j2,j3⟩:=C3R hc.1;have hf:=D0w j2;rw [<- j1,j3] at hf;rw [hn] at hd hf ⊢;obtain ⟨e1,e2,e3⟩:=B26 (m:=7) (F:=128) (v:=n) (by omega) (by decide) (by omega) hd;rw [show ((2 ^ 7-1:Nat):Int)=127 from rfl,show ((128:Nat):Int)=128 from rfl] at e1;rw [if_pos e2,e1];simp only [Bool.true_eq_false,if_false,hf,Int.toNat_natCast]
  · rw [if_neg hc] at hd ⊢
    rw [if_neg hc];rw [hn,List.append_assoc] at hd;have key:∀ (m F:Nat),4<=m/\m<=7->F % 2 ^ m=0/\F+2 ^ m<=256->((2 ^ m-1:Nat):Int)=(A6D q).1->((F:Nat):Int)=(A6D q).2->
        A3B t b p m=(0,f,p+(pfx (A6D q).1 (A6D q).2 (n:Int)++((if (n:Int)=0 then B21 f.1 else [])++B21 f.2)).length)/\F<=byN b p/\byN b p<F+2 ^ m:=by
      intro m F hm hFm hM1 hM2;rw [<- hM1,<- hM2] at hd ⊢;obtain ⟨e1,e2,e3⟩:=B26 hm hFm (by omega) hd;have hd1:=B0Q hd;refine ⟨?_,e2,e3⟩;unfold A3B;rw [e1];simp only [Bool.true_eq_false,if_false,Int.toNat_natCast];generalize pfx ((2 ^ m-1:Nat):Int) (F:Int) (n:Int)=A at *
      by_cases h0:(n:Int)=0
      · rw [if_pos h0]
        rw [if_pos h0,List.append_assoc] at hd1;rw [if_pos h0];have g1:=B3s h1 hd1;have hd2:=B0Q hd1;have g2:=B3s h2 hd2;rw [g1];simp only [Bool.true_eq_false,if_false,Int.toNat_natCast];rw [g2];simp only [Bool.true_eq_false,if_false,Int.toNat_natCast,List.length_append,Nat.add_assoc]
      · rw [if_neg h0]
        rw [if_neg h0,List.nil_append] at hd1;rw [if_neg h0];obtain ⟨j,j1,j2,j3⟩:=D3V (all:=firstT++t.2) (f:=f) (by rw [hn];exact h0);have hf:=D0w j2;rw [<- j1,hn] at hf;have g2:=B3s h2 hd1;rw [hf,g2];simp only [Bool.true_eq_false,if_false,Int.toNat_natCast,List.nil_append,List.length_append,Nat.add_assoc,j3]
    rw [hn];rcases hq with rfl | rfl
    · obtain ⟨k1,k2,k3⟩:=key 6 64 (by omega) (by decide) rfl rfl
      rw [if_neg (by omega),if_pos (by omega),k1];simp only [if_true]
    · obtain ⟨k1,k2,k3⟩:=key 4 16 (by omega) (by decide) rfl rfl
      rw [if_neg (by omega),if_neg (by omega),if_neg (by omega),k1];simp only [if_true];rfl
abbrev nAuth:X0:=⟨#[97,117,116,104,111,114,105,122,97,116,105,111,110]⟩
def A2q(f:A5):Int:=if (f.1.toList == nAuth.toList)=true then 3 else 1
theorem B0S(f:A5):A2q f=1\/A2q f=3:=by unfold A2q;split<;>simp
noncomputable def B2v:B4->List A5->B4
  | t,[]=>t
  | t,f::fs=>B2v (C10 t f (A2q f)) fs
noncomputable def A14:B4->List A5->List Int
  | _,[]=> []
  | t,f::fs=>B6r t f (A2q f)++A14 (C10 t f (A2q f)) fs
def FsI(fs:List A5):Prop:=∀ f∈fs,f.1.size<=4000/\f.2.size<=4000
theorem C3S:∀ {fs:List A5} {t:B4},P9 t->FsI fs->P9 (B2v t fs)/\Byt (A14 t fs)
  | [],t,ht,_=>⟨ht,fun x hx=>by cases hx⟩
  | f::fs,t,ht,hf=>by
    obtain ⟨h1,h2⟩:=hf f List.mem_cons_self;obtain ⟨_,a,_,c⟩:=B0R (B0S f) ht (Nat.le_trans h1 (by decide)) (Nat.le_trans h2 (by decide)) (b:= []) (by simp);obtain ⟨d,e⟩:=C3S (fs:=fs) a fun x hx=>hf x (List.mem_cons_of_mem _ hx)
    exact ⟨d,A03 c e⟩
theorem D63{b:List Int}(most:Int):∀ {fs:List A5} {t:B4} {p:Nat} {l:List A5} (k:Nat),P9 t->FsI fs->l.length+fs.length<=100->b.drop p=A14 t fs->p<=b.length->b.length<=p+k->gfM b most k t p l=(0,B2v t fs,l++fs)
  | [],t,p,l,k,ht,hf,hl,hd,hp,hk=>by
    have:b.length=p:=by
      have h:=congrArg List.length hd;simp only [A14,List.length_drop,List.length_nil] at h;omega
    rw [List.append_nil];cases k with
    | zero=>rfl
    | succ k=>rw [gfM,if_neg (by omega)];rfl
  | f::fs,t,p,l,k,ht,hf,hl,hd,hp,hk=>by
    obtain ⟨h1,h2⟩:=hf f List.mem_cons_self;simp only [List.length_cons] at hl;obtain ⟨_,a,_,c⟩:=B0R (B0S f) ht (Nat.le_trans h1 (by decide)) (Nat.le_trans h2 (by decide)) (b:= []) (by simp);have hd':b.drop p=B6r t f (A2q f)++A14 (C10 t f (A2q f)) fs:=hd;have e1:=E0L (B0S f) ht h1 h2 (l:=l) most hd';have hpos:0<(B6r t f (A2q f)).length:=by
      have h2:∀ M F v,0<(pfx M F v).length:=fun M F v=>by unfold pfx;split<;>simp
      unfold B6r;split
      · exact h2 _ _ _
      · have:=h2 (A6D (A2q f)).1 (A6D (A2q f)).2 (A0k (firstT++t.2) f).1
        simp only [List.length_append];omega
    have hlen:b.length-p=(B6r t f (A2q f)).length+(A14 (C10 t f (A2q f)) fs).length:=by
      have h:=congrArg List.length hd';simpa using h
    obtain ⟨k,rfl⟩:∃ j,k=j+1:=⟨k-1,by omega⟩;have e2:A6A (C10 t f (A2q f)) (p+(B6r t f (A2q f)).length) l f=(0,C10 t f (A2q f),p+(B6r t f (A2q f)).length,l ++ [f]):=by
      unfold A6A;rw [if_neg (by omega)]
    rw [gfM,if_pos (by omega),e1,e2];simp only [if_true];rw [D63 most k a (fun x hx=>hf x (List.mem_cons_of_mem _ hx)) (by simp;omega) (B0Q hd') (by omega) (by omega)];simp [B2v]
theorem C0I{t:B4}(ht:P9 t){fs:List A5}(hf:FsI fs)(hl:fs.length<=100)(most:Int):L9 t most (A14 t fs)=(fs,B2v t fs,0,()):=by
  have e:=D63 (b:=A14 t fs) most (p:=0) (l:= []) (A14 t fs).length ht hf (by simpa using hl) (by simp) (by omega) (by omega);unfold L9;rw [e];simp
theorem D7W{fs:List A5}{k:Nat}{T:B4}{o:List Int}{f:A5}{U:B4}{V:List Int}(a1:(k:Int)<(fs.length:Int))(a2:(0:Int)<=(k:Int))(a3:rd A7 fs (k:Int)=f)(w1:IntKind.i64.wrap ((k:Int)+1)=((k+1:Nat):Int))
    (p1:U8 (T.1,T.2) o f (A2q f)=some (V,U,())) :
    A17 U8 fs ((k:Int),T.1,T.2,o,())=some (.inl (((k+1:Nat):Int),U.1,U.2,V,())):=by
  simp only [A17,A0 a1,A0 a2,cond_true,a3,w1];unfold A2q at p1;cases hq:(f.1.toList == nAuth.toList) with
  | true=>
    rw [hq] at p1;simp only [if_true] at p1 ⊢;simp only [cond_true,bO,p1]
  | false=>
    rw [hq] at p1;simp only [Bool.false_eq_true,if_false] at p1 ⊢;simp only [cond_false,bO,p1]
theorem B2T{t:B4}(ht:P9 t){fs:List A5}(hf:FsI fs)(hl:fs.length<=100):A0C t fs=some (A14 t fs,B2v t fs,()):=by
  have htl:=A3o ht;have hlenV:∀ {fs:List A5} {t:B4},P9 t->FsI fs->(A14 t fs).length<=9000*fs.length:=by
    intro fs
    induction fs with
    | nil=>intro t _ _;simp [A14]
    | cons f fs ih=>
      intro t ht hf;obtain ⟨h1,h2⟩:=hf f List.mem_cons_self;obtain ⟨_,a,c,_⟩:=B0R (B0S f) ht (Nat.le_trans h1 (by decide)) (Nat.le_trans h2 (by decide)) (b:= []) (by simp);have:=ih a fun x hx=>hf x (List.mem_cons_of_mem _ hx)
      simp only [A14,List.length_append,List.length_cons];omega
  have key:∀ (k:Nat) (T:B4) (o:List Int),k<=fs.length->P9 T->o.length<=9000*k->C2 (A17 U8 fs) ((k:Int),T.1,T.2,o,())=some ((B2v T (fs.drop k)).1,(B2v T (fs.drop k)).2,o++A14 T (fs.drop k),()):=by
    intro k
    induction hj:fs.length-k generalizing k with
    | zero=>
      intro T o hk hT ho;have e1:¬ (k:Int)<(fs.length:Int):=by omega
      rw [C3];simp only [A17,A3 e1,cond_false];rw [List.drop_eq_nil_of_le (by omega)];simp [B2v,A14]
    | succ j ih=>
      intro T o hk hT ho;have hlt:k<fs.length:=by omega
      have a1:(k:Int)<(fs.length:Int):=by omega
      have a2:(0:Int)<=(k:Int):=by omega
      have a3:rd A7 fs (k:Int)=fs[k]:=A6O (k:=A7) hlt;have a4:=hf fs[k] (List.getElem_mem hlt);rw [List.drop_eq_getElem_cons hlt];generalize fs[k]=f at a3 a4;obtain ⟨a5,a6⟩:=a4;have ih':=ih (k+1) (by omega);obtain ⟨p1,p2,p3,p4⟩:=B0R (t:=T) (f:=f) (q:=A2q f) (B0S f) hT (Nat.le_trans a5 (by decide)) (Nat.le_trans a6 (by decide)) (b:=o) (by omega);have w1:IntKind.i64.wrap ((k:Int)+1)=((k+1:Nat):Int):=by rw [w64 (by omega) (by omega)];omega
      rw [C3,D7W a1 a2 a3 w1 p1];simp only [];rw [ih' (C10 T f (A2q f)) (o++B6r T f (A2q f)) (by omega) p2 (by simp only [List.length_append];omega),List.append_assoc];rfl
  have e:=key 0 t [] (by omega) ht (by simp);rw [show ((0:Nat):Int)=0 from rfl,List.drop_zero,List.nil_append] at e;simp only [A0C,A9R,A4m t (by omega),C7B ht,bO,Bool.not_true,cond_false,e]
set_option maxRecDepth 100000
theorem E4l{f:B0}(h:J6 f=true):(0<=f.1/\f.1<=255)/\(0<=f.2.1/\f.2.1<=255)/\(0<=f.2.2.1/\f.2.2.1<=2147483647)/\f.2.2.2.length<=1000:=by
  simp only [J6,Bool.and_eq_true,decide_eq_true_eq] at h;exact ⟨h.1.1.1,h.1.1.2,h.1.2,by omega⟩
theorem E2d{x:Int}(h:0<=x/\x<=255):IntKind.u8.wrap x=x:=by
  simp only [IntKind.wrap,IntKind.bits,IntKind.signed,Bool.false_and];simp;omega
theorem D10(f:B0):(E5 f).length=9+f.2.2.2.length:=by
  simp only [E5,List.length_append,A2U,List.length_cons,List.length_nil]
theorem C0J{f:B0}(h:J6 f=true)(rest:List Int):codeF (E5 f++rest)=0/\S0 (E5 f++rest)=(E5 f).length/\M3 (E5 f++rest)=f:=by
  obtain ⟨h1,h2,h3,h4⟩:=E4l h;have hs:=D10 f;have e:E5 f++rest=big (f.2.2.2.length:Int) 3++(f.1::f.2.1::(big f.2.2.1 4++(f.2.2.2++rest))):=by
    have hc:B0E f.2.2.1=f.2.2.1:=by unfold B0E;rw [if_neg (by omega)]
    unfold E5;rw [E2d h1,E2d h2,hc];simp
  have b3:((H2 (E5 f++rest) 0 3:Nat):Int)=(f.2.2.2.length:Int):=C72 [] (f.1::f.2.1::(big f.2.2.1 4++(f.2.2.2++rest))) _ 3 0 e rfl (by omega) (by simp;omega);have b3':H2 (E5 f++rest) 0 3=f.2.2.2.length:=by omega
  have e2:E5 f++rest=(big (f.2.2.2.length:Int) 3 ++ [f.1,f.2.1])++(big f.2.2.1 4++(f.2.2.2++rest)):=by rw [e];simp
  have b4:((H2 (E5 f++rest) 5 4:Nat):Int)=f.2.2.1:=C72 _ _ _ 4 5 e2 (by simp [A2U]) h3.1 (by simp;omega);have hl:(E5 f++rest).length=9+f.2.2.2.length+rest.length:=by rw [List.length_append,hs]
  refine ⟨?_,by unfold S0;rw [b3',hs],?_⟩
  · unfold codeF
    rw [if_neg (by omega),b3',if_neg (by omega),if_neg (by omega)]
  · have r3:rd (.int .u8) (E5 f++rest) 3=f.1:=by
      rw [e];simp [rd,List.getD,List.getElem?_append_right,A2U]
    have r4:rd (.int .u8) (E5 f++rest) 4=f.2.1:=by
      rw [e];simp [rd,List.getD,List.getElem?_append_right,A2U]
    have hb:((E5 f++rest).take (9+f.2.2.2.length)).drop 9=f.2.2.2:=by
      have e3:E5 f++rest=(big (f.2.2.2.length:Int) 3 ++ [f.1,f.2.1]++big f.2.2.1 4)++(f.2.2.2++rest):=by rw [e2];simp
      have hA:(big (f.2.2.2.length:Int) 3 ++ [f.1,f.2.1]++big f.2.2.1 4).length=9:=by simp [A2U]
      rw [e3,List.drop_take,<- hA,List.drop_left];simp
    have ha:M5 .i64 f.2.2.1 2147483647=f.2.2.1:=by
      obtain ⟨n,hn⟩:∃ n:Nat,f.2.2.1=(n:Int):=⟨f.2.2.1.toNat,by omega⟩;rw [hn,show (2147483647:Int)=((2 ^ 31-1:Nat):Int) from rfl,B0L (by omega) (by omega),Nat.and_two_pow_sub_one_eq_mod,Nat.mod_eq_of_lt (by omega)]
    unfold M3 A3V;rw [if_pos (by omega)];simp only [Int.zero_add,show (0:Int).toNat=0 from rfl,b3',r3,r4,show (5:Int).toNat=5 from rfl,b4,ha];rw [if_neg (by omega),if_neg (by omega)];simp only [show ((9:Int)+(f.2.2.2.length:Int)).toNat=9+f.2.2.2.length by omega,show (9:Int).toNat=9 from rfl,hb]
def A6E:List B0->List Int
  | []=> []
  | f::fs=>E5 f++A6E fs
theorem B7p:∀ a b:List B0,A6E (a++b)=A6E a++A6E b
  | [],b=>rfl
  | f::a,b=>by simp only [List.cons_append,A6E,B7p a b,List.append_assoc]
theorem C7L(fs:List B0):∀ k,k<=fs.length->C5K fs k=A6E (fs.take k)
  | 0,_=>rfl
  | k+1,h=>by
    have h2:fs.getD k (0,0,0,[])=fs[k]:=by rw [List.getD_eq_getElem?_getD,List.getElem?_eq_getElem (by omega)];rfl
    rw [C5K,C7L fs k (by omega),h2,List.take_succ_eq_append_getElem (by omega),B7p];simp [A6E]
theorem D11(fs:List B0):C5K fs fs.length=A6E fs:=by rw [C7L fs _ (Nat.le_refl _),List.take_length]
noncomputable def A0K:HM->List B0->Option HM
  | m,[]=>some m
  | m,f::fs=>if (frM m f).1=0 then A0K (frM m f).2 fs else none
theorem B0T:∀ {a b:List B0} {m m1 m2:HM},A0K m a=some m1->A0K m1 b=some m2->A0K m (a++b)=some m2
  | [],b,m,m1,m2,h1,h2=>by
    cases h1;exact h2
  | f::a,b,m,m1,m2,h1,h2=>by
    simp only [List.cons_append,A0K] at h1 ⊢;by_cases h:(frM m f).1=0
    · rw [if_pos h] at h1 ⊢
      exact B0T h1 h2
    · rw [if_neg h] at h1;cases h1
theorem D12:∀ {fs:List B0} {m m':HM} (k:Nat) (rest:List Int),(∀ f∈fs,J6 f=true)->A0K m fs=some m'->B6q (k+fs.length) m (A6E fs++rest)=B6q k m' rest
  | [],m,m',k,rest,_,h=>by
    cases h;rfl
  | f::fs,m,m',k,rest,hf,h=>by
    simp only [A0K] at h;obtain ⟨a,b,c⟩:=C0J (hf f List.mem_cons_self) (A6E fs++rest);have h0:(frM m f).1=0:=Classical.byContradiction fun q=>by rw [if_neg q] at h;cases h
    rw [if_pos h0] at h;simp only [List.length_cons,A6E,List.append_assoc];rw [<- Nat.add_assoc,B6q,a,if_neg (by omega),if_neg (by omega),c,if_neg (by omega),b,List.drop_left];exact D12 k rest (fun x hx=>hf x (List.mem_cons_of_mem _ hx)) h
theorem E0M{f:B0}{v:Int}(h:F0 f=some (v,())):fcV f=v:=by
  unfold fcV;rw [h]
theorem A81{t fl id:Int}{X:List Int}(ht:t=0\/t=1\/t=9)(hfl:0<=fl/\fl<=255)(hid:1<=id/\id<=2147483647)(hX:X.length<=1000):fcV (t,fl,id,X)=0:=by
  refine E0M ?_;have d1:decide (0<=t/\t<=255)=true:=A0 (by omega);have d2:decide (0<=id/\id<=2147483647)=true:=A0 (by omega);have d3:decide ((X.length:Int)<=1000)=true:=A0 (by omega);have d4:decide (id=0)=false:=A3 (by omega);simp only [F0,A0E,P8,A21,F7,bO,d1,A0 hfl,d2,d3,cond_true,T3,A3w,Bool.not_true,cond_false,d4];rcases ht with rfl | rfl | rfl<;>rfl
theorem E3N:fcV (4,0,0,[])=0:=E0M rfl
def B3t(fl k:Int):Bool:=!decide (M5 .i64 fl k=0)
theorem B0U(t fl id:Int)(X:List Int)(k:Int):A1B (t,fl,id,X) k=B3t fl k:=rfl
theorem hN:(B3t 0 1=false/\B3t 1 1=true/\B3t 4 1=false/\B3t 5 1=true)/\(B3t 0 4=false/\B3t 1 4=false/\B3t 4 4=true/\B3t 5 4=true)/\(B3t 0 8=false/\B3t 1 8=false/\B3t 4 8=false/\B3t 5 8=false)/\(B3t 0 32=false/\B3t 1 32=false/\B3t 4 32=false/\B3t 5 32=false):=
  ⟨⟨by kernel_rfl,by kernel_rfl,by kernel_rfl,by kernel_rfl⟩,⟨by kernel_rfl,by kernel_rfl,by kernel_rfl,by kernel_rfl⟩,⟨by kernel_rfl,by kernel_rfl,by kernel_rfl,by kernel_rfl⟩,⟨by kernel_rfl,by kernel_rfl,by kernel_rfl,by kernel_rfl⟩⟩
theorem bO4:bOr .i64 0 4=4/\bOr .i64 1 4=5:=⟨by kernel_rfl,by kernel_rfl⟩
abbrev g0:I6:=(0,false,[])
theorem B0V{fl id:Int}{X:List Int}(hfl:fl=0\/fl=1\/fl=4\/fl=5)(t:Int):A8H (t,fl,id,X)=(X,true):=by
  have h8:A1B (t,fl,id,X) 8=false:=by rcases hfl with rfl | rfl | rfl | rfl<;>simp [B0U,hN]
  have h32:A1B (t,fl,id,X) 32=false:=by rcases hfl with rfl | rfl | rfl | rfl<;>simp [B0U,hN]
  have ha:C0w (t,fl,id,X)=0:=by
    unfold C0w;rw [h32];split<;>rfl
  unfold A8H;rw [h8,ha];simp [C5O]
theorem D13{m:HM}(hg:m.g=g0){fl id:Int}{X:List Int}(hfl:fl=0\/fl=1)(hid:1<=id/\id<=2147483647)(hX:X.length<=1000) :
    frM m (1,fl,id,X)=(0,{m with g:=(id,decide (fl=1),X)})/\frM m (1,bOr .i64 fl 4,id,X)=A6Q m id (decide (fl=1)) X:=by
  have hm:{m with g:=g0}=m:=by rw [<- hg]
  have c0:¬ (X.length:Int)>3000:=by omega
  constructor
  · have hf:=A81 (t:=1) (fl:=fl) (id:=id) (X:=X) (by omega) (by omega) hid hX
    have hu:=B0V (fl:=fl) (id:=id) (X:=X) (by omega) 1;have h4:A1B (1,fl,id,X) 4=false:=by rcases hfl with rfl | rfl<;>simp [B0U,hN,bO4]
    have h1:A1B (1,fl,id,X) 1=decide (fl=1):=by rcases hfl with rfl | rfl<;>simp [B0U,hN,bO4]
    have hfeed:L4 m.g (1,fl,id,X)=((id,decide (fl=1),X),[],0):=by
      unfold L4 C0E;rw [hf,hu,hg];simp only [A6P,h1];simp [A8v,c0,h4]
    unfold frM;rw [hf,if_neg (by omega),if_neg (by omega),if_pos (by simp)];unfold B5E;rw [hfeed];simp
  · have h5:bOr .i64 fl 4=4\/bOr .i64 fl 4=5:=by rcases hfl with rfl | rfl<;>simp [bO4]
    have hf:=A81 (t:=1) (fl:=bOr .i64 fl 4) (id:=id) (X:=X) (by omega) (by omega) hid hX;have hu:=B0V (fl:=bOr .i64 fl 4) (id:=id) (X:=X) (by omega) 1;have h4:A1B (1,bOr .i64 fl 4,id,X) 4=true:=by rcases hfl with rfl | rfl<;>simp [B0U,hN,bO4]
    have h1:A1B (1,bOr .i64 fl 4,id,X) 1=decide (fl=1):=by rcases hfl with rfl | rfl<;>simp [B0U,hN,bO4]
    have hfeed:L4 m.g (1,bOr .i64 fl 4,id,X)=(g0,X,1):=by
      unfold L4 C0E;rw [hf,hu,hg];simp only [A6P,h1];simp [A8v,c0,h4]
    unfold frM;rw [hf,if_neg (by omega),if_neg (by omega),if_pos (by simp)];unfold B5E;rw [hfeed,h1,hg,hm];simp
theorem D14{m:HM}{id:Int}{e:Bool}{Y X:List Int}(hg:m.g=(id,e,Y))(hid:1<=id/\id<=2147483647)(hX:X.length<=1000)(hY:Y.length+X.length<=3000) :
    frM m (9,0,id,X)=(0,{m with g:=(id,e,Y++X)})/\frM m (9,bOr .i64 0 4,id,X)=A6Q {m with g:=g0} id e (Y++X):=by
  have c0:¬ ((Y++X).length:Int)>3000:=by rw [List.length_append];omega
  have i0:¬ id=0:=by omega
  have c1:(Y.length:Int)+(X.length:Int)<=3000:=by omega
  constructor
  · have hf:=A81 (t:=9) (fl:=0) (id:=id) (X:=X) (by omega) (by omega) hid hX
    have h4:A1B (9,0,id,X) 4=false:=by simp [B0U,hN]
    have hfeed:L4 m.g (9,0,id,X)=((id,e,Y++X),[],0):=by
      unfold L4 C0E;rw [hf,hg];simp only [A6P];simp [A8v,c1,h4,i0]
    unfold frM;rw [hf,if_neg (by omega),if_neg (by omega),if_pos (by simp)];unfold B5E;rw [hfeed];simp
  · have h5:bOr .i64 0 4=4:=bO4.1
    rw [h5];have hf:=A81 (t:=9) (fl:=4) (id:=id) (X:=X) (by omega) (by omega) hid hX;have h4:A1B (9,4,id,X) 4=true:=by simp [B0U,hN]
    have hfeed:L4 m.g (9,4,id,X)=(g0,Y++X,1):=by
      unfold L4 C0E;rw [hf,hg];simp only [A6P];simp [A8v,c1,h4,i0]
    unfold frM;rw [hf,if_neg (by omega),if_neg (by omega),if_pos (by simp)];unfold B5E;rw [hfeed,hg];simp [i0]
theorem B4t(n:Nat)(V:List Int)(j:Nat):V.take (j*n)++O4 n V j=V.take (j*n+n):=by
  unfold O4
  conv=>rhs;rw [<- List.take_append_drop (j*n) (V.take (j*n+n))]
  rw [List.take_take,Nat.min_eq_left (by omega)]
theorem D15{m:HM}(hg:m.g=g0){fl id:Int}{n:Nat}{V:List Int}(hfl:fl=0\/fl=1)(hid:1<=id/\id<=2147483647)(hn:1<=n/\n<=1000)(hV:V.length<=3000) :
    ∀ j,A0K m (frs id fl n V (j+1))=some {m with g:=(id,decide (fl=1),V.take ((j+1)*n))}
  | 0=>by
    have hp:=A2V n V 0;have e:=(D13 hg (X:=O4 n V 0) hfl hid (by omega)).1;have hp0:=B4t n V 0;simp only [Nat.zero_mul,List.take_zero,List.nil_append,Nat.zero_add] at hp0;rw [hp0] at e;simp only [frs,List.nil_append,frx,if_true,A0K,hp0,e,Nat.zero_add,Nat.one_mul]
  | j+1=>by
    have ih:=D15 hg hfl hid hn hV j;have hp:=A2V n V (j+1);have ha:=B4t n V (j+1);have hl:=congrArg List.length ha;rw [List.length_append] at hl;have hl2:(V.take ((j+1)*n+n)).length<=3000:=by rw [List.length_take];omega
    have e:=(D14 (m:={m with g:=(id,decide (fl=1),V.take ((j+1)*n))}) (X:=O4 n V (j+1)) rfl hid (by omega) (by omega)).1;show A0K m (frs id fl n V (j+1) ++ [frx id fl n V (j+1)])=_;refine B0T ih ?_;simp only [frx,A0K,Nat.succ_ne_zero,Nat.add_one_ne_zero,if_false,e,if_true,ha];rw [show (j+1+1)*n=(j+1)*n+n from Nat.succ_mul _ _]
theorem C7M{m:HM}(hg:m.g=g0){fl id:Int}{n:Nat}{V:List Int}(hfl:fl=0\/fl=1)(hid:1<=id/\id<=2147483647)(hn:1<=n/\n<=1000)(hV:V.length<=3000)(h0:(A6Q m id (decide (fl=1)) V).1=0) :
    A0K m (A69 id fl n V)=some (A6Q m id (decide (fl=1)) V).2:=by
  have hm:{m with g:=g0}=m:=by rw [<- hg]
  have hc:=C8C (n:=n) (L:=V.length) (by omega);unfold A69;generalize hJ:max 1 (ceN n V.length)-1=J;have hJ2:V.length<=J*n+n:=by
    rw [<- Nat.succ_mul];refine Nat.le_trans hc (Nat.mul_le_mul_right _ ?_);omega
  have hp:=A2V n V J;have ha:=B4t n V J;rw [List.take_of_length_le hJ2] at ha;cases J with
  | zero=>
    simp only [Nat.zero_mul,List.take_zero,List.nil_append] at ha;have e:=(D13 hg (X:=O4 n V 0) hfl hid (by omega)).2;rw [ha] at e;simp only [frs,List.nil_append,D77,frx,if_true,A0K,ha,e,h0]
  | succ j=>
    have ih:=D15 hg hfl hid hn hV j;have hl:=congrArg List.length ha;rw [List.length_append] at hl;have e:=(D14 (m:={m with g:=(id,decide (fl=1),V.take ((j+1)*n))}) (X:=O4 n V (j+1)) rfl hid (by omega) (by omega)).2;refine B0T ih ?_;simp only [D77,frx,A0K,Nat.add_one_ne_zero,if_false,e,ha,hm,h0,if_true]
set_option maxRecDepth 100000
noncomputable def E0N(op:Int):X0:=rd .str [(⟨#[80,79,83,84]⟩:X0),(⟨#[72,69,65,68]⟩:X0),(⟨#[80,65,84,67,72]⟩:X0),(⟨#[80,85,84]⟩:X0),(⟨#[71,69,84]⟩:X0),(⟨#[68,69,76,69,84,69]⟩:X0)] (op-1)
abbrev emB:X0:=⟨#[]⟩
noncomputable def flR(r:A1m):List A5:= [(nM,E0N r.1),(nS,(⟨#[104,116,116,112,115]⟩:X0)),(nP,nUp++r.2.1)]++(bif (A9g r.1).1.toList == emB.toList then [] else [((A9g r.1).1,itB r.2.2)])
theorem C8W(r:A1m):(flR r).length<=4:=by
  unfold flR;cases (A9g r.1).1.toList == emB.toList<;>simp
theorem C3T(r:A1m)(h:B6j r=true):A4S r=some (flR r,()):=by
  obtain ⟨hr,hs,hn0,hn1⟩:=C0B h;have hsz:r.2.1.size<=maxLen:=by simp only [maxLen];omega
  have hpl:nUp.size=4:=rfl;have hmax:¬ (((nUp.size+r.2.1.size:Nat):Int)>IntKind.i64.max):=by
    simp only [IntKind.max,IntKind.signed,IntKind.bits,hpl];simp;omega
  have w:IntKind.i64.wrap (r.1-1)=r.1-1:=w64 (by omega) (by omega);have hm:J0 r.1=some (E0N r.1,()):=by
    simp only [J0,B1T,w,A0 (show 0<=r.1-1 by omega),A0 (show r.1-1<(6:Int) by omega),cond_true,E0N]
  unfold flR;simp only [A4S,B1U,C33 r hsz,h,bO,Bool.not_true,cond_false,hm,B0N,A3 hmax];cases (A9g r.1).1.toList == emB.toList with
  | true=>simp only [Bool.not_true,cond_true,cond_false,List.append_nil]
  | false=>
    simp only [Bool.not_false,cond_true,cond_false,C1q r.2.2 hn0 hn1,bO];rw [D36 (by simp)]
def idsL:List X0:= [(⟨#[97]⟩:X0),(⟨#[98]⟩:X0),(⟨#[117,112,49]⟩:X0),(⟨#[101,105,103,104,116,108,101,116]⟩:X0)]
def D7a(op:Int):List Int:=if op=1\/op=3 then [0,5,24,100,1000000000] else if op=4 then [0,5,24,100,1000000000,4294967295] else [0]
def reqsL:List A1m:= [(1:Int),2,3,4,5,6].flatMap fun op=>idsL.flatMap fun s=>(D7a op).map fun n=>(op,s,n)
noncomputable def E43(r:A1m):Bool:=B6j r&&(decide ((B23 (flR r)).2=0)&&(decide ((B23 (flR r)).1.1=r.1)&&(((B23 (flR r)).1.2.1.toList == r.2.1.toList)&&(decide ((B23 (flR r)).1.2.2=r.2.2)&&(flR r).all fun f=>Nat.ble f.1.size 40&&Nat.ble f.2.size 40))))
theorem E2A:reqsL.all E43=true:=by kernel_rfl
theorem C8a{r:A1m}(h:r∈reqsL):B6j r=true/\B23 (flR r)=(r,0)/\∀ f∈flR r,f.1.size<=40/\f.2.size<=40:=by
  have h2:=List.all_eq_true.1 E2A r h;simp only [E43,Bool.and_eq_true,List.all_eq_true,decide_eq_true_eq,beq_iff_eq,Nat.ble_eq] at h2;obtain ⟨a,b,c,d,e,f⟩:=h2;exact ⟨a,Prod.ext (Prod.ext c (Prod.ext (toList_inj d) e)) b,f⟩
theorem D3W(c:F9)(hc:Cur c):∃ r c',A7g c=some (r,c',())/\Cur c'/\r∈reqsL:=by
  obtain ⟨k,c1,q1,h1,k0,k1⟩:=A7v c 6 hc (by omega);obtain ⟨s,c2,q2,h2,hs⟩:=D9e c1 [(⟨#[97]⟩:X0),(⟨#[98]⟩:X0),(⟨#[117,112,49]⟩:X0),(⟨#[101,105,103,104,116,108,101,116]⟩:X0)] h1 (by simp);have w:IntKind.i64.wrap (1+k)=1+k:=w64 (by omega) (by omega);simp only [A7g,B6a,q1,q2,bO,w];have key:∀ op n,op=1+k->n∈D7a op->((op,s,n):A1m)∈reqsL:=fun op n ho hn=>by
    unfold reqsL;rw [List.mem_flatMap];refine ⟨op,?_,?_⟩
    · have:op=1\/op=2\/op=3\/op=4\/op=5\/op=6:=by omega
      rcases this with rfl | rfl | rfl | rfl | rfl | rfl<;>simp
    · rw [List.mem_flatMap]
      exact ⟨s,hs,List.mem_map.2 ⟨n,hn,rfl⟩⟩
  obtain ⟨m,qm,hm1,hm2⟩:∃ m,A64 (1+k)=some (m,())/\(m>=0->1+k=1\/1+k=3\/1+k=4)/\(¬ m>=0->¬ (1+k=1\/1+k=3\/1+k=4)):=by
    simp only [A64,B3Q];by_cases e1:1+k=1
    · rw [A0 e1];exact ⟨_,rfl,by omega,by simp⟩
    rw [A3 e1];by_cases e3:1+k=3
    · rw [A0 e3];exact ⟨_,rfl,by omega,by simp⟩
    rw [A3 e3];by_cases e4:1+k=4
    · rw [A0 e4];exact ⟨_,rfl,by omega,by simp⟩
    · rw [A3 e4];exact ⟨_,rfl,by simp,by omega⟩
  rw [qm];simp only [bO];by_cases hm:m>=0
  · have ho:=hm1 hm
    obtain ⟨n,c3,q3,h3,hn⟩:=B7T c2 [0,5,24,100,1000000000] h2 (by simp);have hn2:n∈D7a (1+k):=by
      unfold D7a;by_cases h13:1+k=1\/1+k=3
      · rw [if_pos h13];exact hn
      · rw [if_neg h13,if_pos (by omega)]
        simp only [List.mem_cons,List.not_mem_nil,or_false] at hn ⊢;omega
    rw [A0 hm];simp only [cond_true,q3,bO];by_cases e4:1+k=4
    · obtain ⟨b,c4,q4,h4⟩:=D7T c3 2 h3 (by omega)
      rw [A0 e4];simp only [cond_true,q4,bO];cases b
      · exact ⟨_,_,rfl,h4,key _ _ rfl hn2⟩
      · refine ⟨_,_,rfl,h4,key _ _ rfl ?_⟩
        unfold D7a;rw [if_neg (by omega),if_pos e4];simp
    · rw [A3 e4]
      exact ⟨_,_,rfl,h3,key _ _ rfl hn2⟩
  · have ho:=hm2 hm
    rw [A3 hm];refine ⟨_,_,rfl,h2,key _ _ rfl ?_⟩;unfold D7a;rw [if_neg (by omega),if_neg (by omega)];simp
theorem B0W(N:Nat):∀ {fs:List A5} {t:B4},P9 t->(∀ f∈fs,f.1.size<=40/\f.2.size<=40)->(A14 t fs).length<=95*fs.length
  | [],t,_,_=>by simp [A14]
  | f::fs,t,ht,hf=>by
    obtain ⟨h1,h2⟩:=hf f List.mem_cons_self;obtain ⟨_,a,c,_⟩:=B0R (B0S f) ht (Nat.le_trans h1 (by decide)) (Nat.le_trans h2 (by decide)) (b:= []) (by simp);have ih:=B0W N (fs:=fs) a fun x hx=>hf x (List.mem_cons_of_mem _ hx)
    simp only [A14,List.length_append,List.length_cons];omega
theorem B3u{fs:List A5}(h:∀ f∈fs,f.1.size<=40/\f.2.size<=40):FsI fs:=fun f hf=>by
  obtain ⟨a,b⟩:=h f hf;exact ⟨by omega,by omega⟩
def B3v(id:Int)(n:Nat)(xs:List Int):Nat->List B0
  | 0=> []
  | j+1=>B3v id n xs j ++ [(0,(if xs.length<=j*n+n then 1 else 0),id,O4 n xs j)]
theorem D16(id:Int)(n:Nat)(xs:List Int):∀ j,A6E (B3v id n xs j)=A7w id n xs j
  | 0=>rfl
  | j+1=>by
    rw [B3v,B7p,D16 id n xs j,A7w];simp [A6E]
theorem C8b(id:Int)(n:Nat)(xs:List Int)(hid:1<=id/\id<=2147483647)(hn:n<=1000):∀ j,∀ f∈B3v id n xs j,J6 f=true
  | 0,f,hf=>by cases hf
  | j+1,f,hf=>by
    rcases List.mem_append.1 hf with hf | hf
    · exact C8b id n xs hid hn j f hf
    · rcases List.mem_singleton.1 hf with rfl;exact C8E id n xs hid hn j
theorem E0O{st ev a b:Int}(h:K1 st ev=some (a,b,())):stV st ev=(a,b):=by
  unfold stV;rw [h]
theorem E3O:stV 1 3=(1,0):=E0O rfl
theorem E3P:stV 1 4=(2,0):=E0O rfl
theorem D64(id:Int)(x:Int×A1m×List Int):atM [(id,x)] id=0/\B3q [(id,x)] id=true:=by
  have e:atM [(id,x)] id=0:=by
    unfold atM K2;simp [sAt,rd]
  refine ⟨e,?_⟩;unfold B3q;rw [e];simp [sAt,rd]
theorem E0P{m:HM}(hg:m.g=g0){id:Int}{r:A1m}{Y X:List Int}(hs:m.strs = [(id,1,r,Y)])(hid:1<=id/\id<=2147483647)(hX:X.length<=1000)(hY:Y.length+X.length<=2000) :
    frM m (0,0,id,X)=(0,{m with strs:= [(id,1,r,Y++X)]})/\frM m (0,1,id,X)=(0,{m with strs:= [(id,2,r,Y++X)],calls:=m.calls ++ [(id,r,Y++X,0)]}):=by
  obtain ⟨e1,e2⟩:=D64 id (1,r,Y);have hsa:sAt [(id,1,r,Y)] 0=(id,1,r,Y):=rfl;have hsb:sAt [(id,1,r,Y++X)] 0=(id,1,r,Y++X):=rfl;have c0:¬ ((Y.length:Int)+(X.length:Int)>2000):=by omega
  constructor
  · have hf:=A81 (t:=0) (fl:=0) (id:=id) (X:=X) (by omega) (by omega) hid hX
    have hu:=B0V (fl:=0) (id:=id) (X:=X) (by omega) 0;have h1:A1B (0,0,id,X) 1=false:=by simp [B0U,hN]
    unfold frM;rw [hf,if_neg (by omega),if_neg (by omega),if_neg (by rw [hg];simp)];simp only [show ¬ (0:Int)=4 by omega,show ¬ (0:Int)=6 by omega,show ¬ (0:Int)=5 by omega,show ¬ (0:Int)=8 by omega,if_false,if_true];unfold C0F;rw [hu,hs,h1];simp only [e1,e2,if_true,hsa,if_neg c0,Bool.true_eq_false,if_false,cond_false];unfold A6B A4n;simp only [hs,List.set_cons_zero,hsb,E3O];simp [A1b]
  · have hf:=A81 (t:=0) (fl:=1) (id:=id) (X:=X) (by omega) (by omega) hid hX
    have hu:=B0V (fl:=1) (id:=id) (X:=X) (by omega) 0;have h1:A1B (0,1,id,X) 1=true:=by simp [B0U,hN]
    unfold frM;rw [hf,if_neg (by omega),if_neg (by omega),if_neg (by rw [hg];simp)];simp only [show ¬ (0:Int)=4 by omega,show ¬ (0:Int)=6 by omega,show ¬ (0:Int)=5 by omega,show ¬ (0:Int)=8 by omega,if_false,if_true];unfold C0F;rw [hu,hs,h1];simp only [e1,e2,if_true,hsa,if_neg c0,Bool.true_eq_false,if_false,cond_true];unfold A6B A4n;simp only [hs,List.set_cons_zero,hsb,E3P];simp [A1b]
theorem D17{m:HM}(hg:m.g=g0){id:Int}{r:A1m}(hs:m.strs = [(id,1,r,[])])(hid:1<=id/\id<=2147483647){n:Nat}(hn:1<=n/\n<=1000){xs:List Int}(hx:xs.length<=2000) :
    ∀ j,j<=ceN n xs.length->(j<ceN n xs.length->A0K m (B3v id n xs j)=some {m with strs:= [(id,1,r,xs.take (j*n))]})/\(j=ceN n xs.length->0<j->A0K m (B3v id n xs j)=some {m with strs:= [(id,2,r,xs)],calls:=m.calls ++ [(id,r,xs,0)]})
  | 0,_=>by
    refine ⟨fun _=>?_,fun _ h=>absurd h (Nat.lt_irrefl _)⟩;simp only [B3v,A0K,Nat.zero_mul,List.take_zero,<- hs]
  | j+1,hj=>by
    have hlt:j<ceN n xs.length:=hj;have ih:=(D17 hg hs hid hn hx j (by omega)).1 hlt;have hp:=A2V n xs j;have ha:=B4t n xs j;have hl:=congrArg List.length ha;rw [List.length_append] at hl;have hl2:(xs.take (j*n+n)).length<=2000:=by rw [List.length_take];omega
    obtain ⟨e1,e2⟩:=E0P (m:={m with strs:= [(id,1,r,xs.take (j*n))]}) hg (X:=O4 n xs j) rfl hid (by omega) (by omega);have hsm:(j+1)*n=j*n+n:=Nat.succ_mul _ _;refine ⟨fun h=>?_,fun h _=>?_⟩
    · have h3:=(B3h (n:=n) (L:=xs.length) (j:=j+1) (by omega)).1 h
      refine B0T ih ?_;rw [if_neg (show ¬ xs.length<=j*n+n by omega)];simp only [A0K,e1,if_true,ha,hsm]
    · have h3:=C8C (n:=n) (L:=xs.length) (by omega)
      rw [<- h,hsm] at h3;refine B0T ih ?_;rw [if_pos h3];simp only [A0K,e2,if_true,ha,List.take_of_length_le h3]
set_option maxRecDepth 100000
abbrev flE(xs:List Int):Int:=if decide ((xs.length:Int)=0)=true then 1 else 0
noncomputable abbrev D18(t:B4)(id:Int)(r:A1m)(xs:List Int)(n:Nat):List Int:=A6E (A69 id (flE xs) n (A14 t (flR r))++B3v id n xs (ceN n xs.length))
theorem C5Q{t:B4}(ht:P9 t){id:Int}(hid:1<=id/\id<=2147483647){r:A1m}(hr:r∈reqsL){xs:List Int}(hx:xs.length<=2000)(a4:Int) :
    A4D t id r xs a4=some (D18 t id r xs (czN a4),B2v t (flR r),()):=by
  obtain ⟨h1,h2,h3⟩:=C8a hr;obtain ⟨hr0,hs,hn0,hn1⟩:=C0B h1;have hsz:r.2.1.size<=maxLen:=by simp only [maxLen];omega
  have htl:=A3o ht;have hl4:=C8W r;have hV:=B0W 0 ht h3;have hf:=C3T r h1;have hp:=B2T ht (B3u h3) (by omega);have hn:=B7a a4;have hp2:=C76 id (decide ((xs.length:Int)=0)) (A14 t (flR r)) ((czN a4:Nat):Int) hid (by omega);rw [D3A] at hp2;have hpo:=C38 id (decide ((xs.length:Int)=0)) (czN a4) (A14 t (flR r)) hid hn.2;have hpl:=C77 id (if decide ((xs.length:Int)=0)=true then 1 else 0) (czN a4) (A14 t (flR r)) (by omega);have hif:=B3i _ hpo (by omega);have hcl:=C39 _ hpo _ (Nat.le_refl _);simp only [A4D,B3N,C7B ht,C33 r hsz,F7,bO,h1,A0 hid,Bool.not_true,cond_false,bSl,hf,hp,D9r,hp2,hif];rw [E3I id a4 xs _ hid (by omega) (by omega)];simp only [bO];rw [D11,<- D16,<- B7p]
theorem D3a:F8 pri 0=(0,24,[]):=by kernel_rfl
theorem D3b(m:HM):M4 ⟨0,[],0,m⟩ pri=⟨24,[],0,m⟩:=by
  have e:=B25 [] m pri 0 (by omega);rw [D3a] at e;rw [e];rfl
noncomputable abbrev E0Q(id:Int)(r:A1m)(xs:List Int):HM:=⟨g0,B2v A0J (flR r),[(id,2,r,xs)],id,[(id,r,xs,0)],E5 (4,1,0,[])⟩
theorem E2B(m:HM)(hg:m.g=g0):frM m (4,0,0,[])=(0,{m with out:=m.out++E5 (4,1,0,[])}):=by
  have h1:A1B (4,0,0,[]) 1=false:=by simp [B0U,hN]
  unfold frM;rw [E3N,if_neg (by omega),if_neg (by omega),if_neg (by rw [hg];simp)];unfold D3N;rw [h1];rfl
def m1:HM:=⟨g0,A0J,[],0,[],E5 (4,1,0,[])⟩
theorem E0R{id:Int}(hid:1<=id/\id<=2147483647)(hodd:id.tmod 2=1){r:A1m}(hr:r∈reqsL){xs:List Int}(hx:xs.length<=2000){n:Nat}(hn:1<=n/\n<=1000) :
    A0K newB.m ((4,0,0,[])::(A69 id (flE xs) n (A14 A0J (flR r))++B3v id n xs (ceN n xs.length)))=some (E0Q id r xs):=by
  obtain ⟨h1,h2,h3⟩:=C8a hr;have hl4:=C8W r;have hV:=B0W 0 A05 h3;have hG:=C0I A05 (B3u h3) (by omega);have e0:frM newB.m (4,0,0,[])=(0,m1):=E2B newB.m rfl;rw [A0K,e0,if_pos rfl];have hB:∀ fin:Bool,A6Q m1 id fin (A14 A0J (flR r))=(0,A1b ⟨g0,B2v A0J (flR r),[(id,(if fin then 2 else 1),r,[])],id,[],E5 (4,1,0,[])⟩ (id,(if fin then 2 else 1),r,[])):=fun fin=>by
    unfold A6Q;have e1:m1.dec=A0J:=rfl;have e2:B3q m1.strs id=false:=rfl;rw [e1,hG 4096,e2];simp only [ne_eq,not_true,if_false,Bool.false_eq_true];unfold C8R;rw [h2];simp only [];have e3:m1.last=0:=rfl;have e4:m1.strs = []:=rfl;rw [e3,e4,if_neg (by omega),if_neg (by simp)];rfl
  by_cases hx0:xs.length=0
  · have hxn:xs = []:=List.length_eq_zero_iff.1 hx0
    subst hxn;have hfl:flE []=1:=rfl;have hc:ceN n ([]:List Int).length=0:=by
      unfold ceN;rw [List.length_nil,Nat.zero_add,Nat.div_eq_of_lt (by omega)]
    rw [hc,hfl];have e:=C7M (m:=m1) rfl (fl:=1) (id:=id) (n:=n) (V:=A14 A0J (flR r)) (.inr rfl) hid hn (by omega) (by rw [hB]);simp only [B3v,List.append_nil];rw [e,hB];simp [A1b]
  · have hfl:flE xs=0:=by unfold flE;rw [if_neg (by simp;intro h;exact hx0 (by rw [h];rfl))]
    rw [hfl];have e:=C7M (m:=m1) rfl (fl:=0) (id:=id) (n:=n) (V:=A14 A0J (flR r)) (.inl rfl) hid hn (by omega) (by rw [hB]);refine B0T e ?_;rw [hB];have hpos:0<ceN n xs.length:=(B3h (by omega)).2 (by omega);have e2:=(D17 (m:=⟨g0,B2v A0J (flR r),[(id,1,r,[])],id,[],E5 (4,1,0,[])⟩) rfl rfl hid hn hx (ceN n xs.length) (Nat.le_refl _)).2 rfl hpos;simpa [A1b] using e2
theorem D19{id:Int}(hid:1<=id/\id<=2147483647)(hodd:id.tmod 2=1){r:A1m}(hr:r∈reqsL){xs:List Int}(hx:xs.length<=2000){n:Nat}(hn:1<=n/\n<=1000) :
    M4 newB (prefaceB++D18 A0J id r xs n)=⟨24,[],0,E0Q id r xs⟩:=by
  have hf:=E0R hid hodd hr hx hn;have hok:∀ f∈((4,0,0,[]):B0)::(A69 id (flE xs) n (A14 A0J (flR r))++B3v id n xs (ceN n xs.length)),J6 f=true:=fun f hf=>by
    rcases List.mem_cons.1 hf with rfl | hf
    · rfl
    · rcases List.mem_append.1 hf with hf | hf
      · exact C38 id (decide ((xs.length:Int)=0)) n _ hid hn.2 f hf
      · exact C8b id n xs hid hn.2 _ f hf
  have hcat:prefaceB++D18 A0J id r xs n=pri++A6E (((4,0,0,[]):B0)::(A69 id (flE xs) n (A14 A0J (flR r))++B3v id n xs (ceN n xs.length))):=by
    rw [A6E];unfold prefaceB;rw [List.append_assoc]
  rw [hcat,B6p];generalize hF:((4,0,0,[]):B0)::(A69 id (flE xs) n (A14 A0J (flR r))++B3v id n xs (ceN n xs.length))=F at hf hok;rw [show newB=⟨0,[],0,newB.m⟩ from rfl,D3b];rw [C0H 24 (by omega) ((A6E F).length+F.length) (A6E F) [] newB.m (by simp) rfl,List.nil_append];have e:=D12 ((A6E F).length+1) [] hok hf;rw [List.append_nil] at e;rw [show (A6E F).length+F.length+1=(A6E F).length+1+F.length by omega,e];rw [B6q,if_pos D7S];rfl
theorem C3U:∀ {fs:List B0},(∀ f∈fs,Byt f.2.2.2)->Byt (A6E fs)
  | [],_=>fun x hx=>by cases hx
  | f::fs,h=>A03 (B6k (h f List.mem_cons_self)) (C3U fun x hx=>h x (List.mem_cons_of_mem _ hx))
theorem D1A:∀ {fs:List B0},(∀ f∈fs,J6 f=true)->(A6E fs).length<=1009*fs.length
  | [],_=>by simp [A6E]
  | f::fs,h=>by
    have h1:=A5V f (h f List.mem_cons_self);have h2:=D1A (fs:=fs) fun x hx=>h x (List.mem_cons_of_mem _ hx)
    simp only [A6E,List.length_append,List.length_cons];omega
theorem C3V{id:Int}{n:Nat}{xs:List Int}(h:Byt xs):∀ j,∀ f∈B3v id n xs j,Byt f.2.2.2
  | 0,f,hf=>by cases hf
  | j+1,f,hf=>by
    rcases List.mem_append.1 hf with hf | hf
    · exact C3V h j f hf
    · rcases List.mem_singleton.1 hf with rfl;exact B95 h n j
theorem D1B(id:Int)(n:Nat)(xs:List Int):∀ j,(B3v id n xs j).length=j
  | 0=>rfl
  | j+1=>by simp [B3v,D1B id n xs j]
theorem D3c{id:Int}(hid:1<=id/\id<=2147483647)(hodd:id.tmod 2=1){r:A1m}(hr:r∈reqsL){xs:List Int}(hx:xs.length<=2000)(hb:Byt xs){n:Nat}(hn:1<=n/\n<=1000) :
    A1T (bsC A0J newB) (prefaceB++D18 A0J id r xs n)=some (bsC A0J ⟨24,[],0,E0Q id r xs⟩,[(id,r,xs,0)],E5 (4,1,0,[]),())/\(D18 A0J id r xs n).length<=5000000:=by
  obtain ⟨h1,h2,h3⟩:=C8a hr;have hl4:=C8W r;have hV:=B0W 0 A05 h3;have hok:∀ f∈A69 id (flE xs) n (A14 A0J (flR r))++B3v id n xs (ceN n xs.length),J6 f=true:=fun f hf=>by
    rcases List.mem_append.1 hf with hf | hf
    · exact C38 id (decide ((xs.length:Int)=0)) n _ hid hn.2 f hf
    · exact C8b id n xs hid hn.2 _ f hf
  have hbt:Byt (D18 A0J id r xs n):=C3U fun f hf=>by
    rcases List.mem_append.1 hf with hf | hf
    · exact C78 (C3S A05 (B3u h3)).2 f hf
    · exact C3V hb _ f hf
  have hle:=D1A hok;have hpl:=C77 id (flE xs) n (A14 A0J (flR r)) (by omega);have hbl:=D1B id n xs (ceN n xs.length);have hC:=C36 (n:=n) (L:=xs.length) (by omega);rw [List.length_append,hbl] at hle;have hlen:(D18 A0J id r xs n).length<=5000000:=by unfold D18;omega
  have hp:=C09;have e:=C3N A0J A05 D60 rfl rfl (A03 B7o hbt) (by rw [List.length_append];omega);rw [D19 hid hodd hr hx hn] at e;exact ⟨e,hlen⟩
set_option maxRecDepth 100000
abbrev nSt:X0:=⟨#[58,115,116,97,116,117,115]⟩
abbrev nOf:X0:=⟨#[117,112,108,111,97,100,45,111,102,102,115,101,116]⟩
def flP(p:L1):List A5:=if p.2>=0 then [(nSt,itB p.1)] ++ [(nOf,itB p.2)] else [(nSt,itB p.1)]
theorem B0a(p:L1)(h:B1v p=true):V4 p=some (flP p,()):=by
  have h':=h;simp only [B1v,Bool.and_eq_true,decide_eq_true_eq] at h';unfold flP;simp only [V4,A7e,B3d,h,bO,Bool.not_true,cond_false,C1q p.1 (by omega) (by omega)];by_cases ho:p.2>=0
  · rw [if_pos ho]
    simp only [A0 ho,cond_true,C1q p.2 (by omega) (by omega),bO];rw [D36 (by simp)]
  · rw [if_neg ho]
    simp only [A3 ho,cond_false]
def respL:List L1:= [(200:Int),201,204,404,409,100,599].flatMap fun a=> [(-1:Int),0,24,1000000000].map fun b=>(a,b)
def E2C(n:Int):Bool:=E07 (itB n) 1000000000&&decide ((B0M (itB n) (itB n).size:Int)=n)
def E44(p:L1):Bool:=B1v p&&(E2C p.1&&((decide (p.2=-1)||E2C p.2)&&(flP p).all fun f=>Nat.ble f.1.size 40&&Nat.ble f.2.size 40))
theorem E0S:respL.all E44=true:=by kernel_rfl
theorem D65{n:Int}(h:E2C n=true):A27 (itB n)=some (n,true,()):=by
  simp only [E2C,Bool.and_eq_true,decide_eq_true_eq] at h;simp only [A27,B6g,B5D (itB n) 1000000000 (by omega),h.1,cond_true,h.2,bO]
theorem C8c{p:L1}(h:p∈respL):B1v p=true/\A27 (itB p.1)=some (p.1,true,())/\(p.2=-1\/A27 (itB p.2)=some (p.2,true,()))/\∀ f∈flP p,f.1.size<=40/\f.2.size<=40:=by
  have h2:=List.all_eq_true.1 E0S p h;simp only [E44,Bool.and_eq_true,List.all_eq_true,Bool.or_eq_true,decide_eq_true_eq,Nat.ble_eq] at h2;obtain ⟨a,b,c,d⟩:=h2;exact ⟨a,D65 b,c.imp id D65,d⟩
theorem D1C(c:F9)(hc:Cur c):∃ p c',A65 c=some (p,c',())/\Cur c'/\p∈respL:=by
  obtain ⟨a,c1,q1,h1,ha⟩:=B7T c [200,201,204,404,409,100,599] hc (by simp);obtain ⟨b,c2,q2,h2,hb⟩:=B7T c1 [(-1),0,24,1000000000] h1 (by simp);simp only [A65,B3R,q1,q2,bO];exact ⟨_,_,rfl,h2,List.mem_flatMap.2 ⟨a,ha,List.mem_map.2 ⟨b,hb,rfl⟩⟩⟩
theorem C5R(a:List A5)(h:a.length<=1000):E2 a a=some (true,()):=by
  simp only [E2,L7,decide_true,Bool.not_true,cond_false];have e:=E2U (G2 a a) a.length (by simp only [maxLen];omega) (fun _=>true) (fun i hi=>by
    have g1:((i:Int)<(a.length:Int)):=by omega
    have g2:(0:Int)<=(i:Int):=by omega
    simp only [G2,A0 g1,A0 g2,cond_true,eqB];simp) (by simp [G2])
  rw [e];simp
theorem C8d(p:L1):(1<=(flP p).length/\(flP p).length<=2)/\(p.2>=0->(flP p).length=2/\rd A7 (flP p) 1=(nOf,itB p.2))/\(¬ p.2>=0->(flP p).length=1)/\rd A7 (flP p) 0=(nSt,itB p.1):=by
  unfold flP;by_cases h:p.2>=0
  · rw [if_pos h]
    exact ⟨by simp,fun _=>⟨by simp,rfl⟩,fun h'=>absurd h h',rfl⟩
  · rw [if_neg h]
    exact ⟨by simp,fun h'=>absurd h' h,fun _=>by simp,rfl⟩
theorem C8e{p:L1}(h:p∈respL):A7s (flP p)=some (p,true,()):=by
  obtain ⟨h1,h2,h3,h4⟩:=C8c h;obtain ⟨l1,l2,l3,l4⟩:=C8d p;have d1:decide (1<=((flP p).length:Int)/\((flP p).length:Int)<=2)=true:=A0 (by omega);have d2:decide (0<((flP p).length:Int))=true:=A0 (by omega);simp only [A7s,B6h,F7,d1,d2,bO,Bool.not_true,cond_false,cond_true,l4,h2];have key:(bif (decide (((flP p).length:Int)=2)) then bif decide (1<((flP p).length:Int)) then A4 (A27 ((rd A7 (flP p) 1).2)) fun c28=>some (p.1,c28.1,()) else none else some (p.1,(-1),()))=some (p.1,p.2,()):=by
    by_cases hp:p.2>=0
    · obtain ⟨a,b⟩:=l2 hp
      rcases h3 with h3 | h3
      · omega
      · rw [A0 (show ((flP p).length:Int)=2 by omega),A0 (show (1:Int)<((flP p).length:Int) by omega),b]
        simp only [cond_true,h3,bO]
    · have hrng:p.2=-1:=by
        simp only [B1v,Bool.and_eq_true,decide_eq_true_eq] at h1;omega
      rw [A3 (show ¬ ((flP p).length:Int)=2 by have:=l3 hp;omega),hrng];rfl
  rw [key];simp only [bO,B3d,h1,Bool.not_true,cond_false,B0a p h1,C5R (flP p) (by omega)]
theorem D7b(id fl:Int){n:Nat}{V:List Int}(hn:1<=n)(hV:V.length<=n):A69 id fl n V = [(1,bOr .i64 fl 4,id,V)]:=by
  have h1:¬ 1<ceN n V.length:=by
    rw [B3h (by omega)];omega
  have h2:max 1 (ceN n V.length)-1=0:=by omega
  unfold A69;rw [h2];have hp:O4 n V 0=V:=by
    unfold O4;rw [Nat.zero_mul,Nat.zero_add,List.take_of_length_le hV,List.drop_zero]
  simp [frs,D77,frx,hp]
theorem E0T{id:Int}{V:List Int}(hid:1<=id/\id<=2147483647)(hV:V.length<=1000):J6 (1,5,id,V)=true:=by
  simp only [J6,Bool.and_eq_true,decide_eq_true_eq];omega
theorem E0U{id:Int}{V:List Int}(hid:1<=id/\id<=2147483647)(hV:V.length<=1000):L4 g0 (1,5,id,V)=(g0,V,1):=by
  have hf:=A81 (t:=1) (fl:=5) (id:=id) (X:=V) (by omega) (by omega) hid hV;have hu:=B0V (fl:=5) (id:=id) (X:=V) (by omega) 1;have h4:A1B (1,5,id,V) 4=true:=by simp [B0U,hN]
  have h1:A1B (1,5,id,V) 1=true:=by simp [B0U,hN]
  have c0:¬ (V.length:Int)>3000:=by omega
  unfold L4 C0E;rw [hf,hu];simp only [A6P,h1];simp [A8v,c0,h4]
theorem B9E{f:B0}(h:J6 f=true)(hb:Byt f.2.2.2):A26 (E5 f)=some ([f],((E5 f).length:Int),1,()):=by
  obtain ⟨a1,a2,a3⟩:=C0J h [];rw [List.append_nil] at a1 a2 a3;have hl:=A5V f h;obtain ⟨b1,b2⟩:=A8w (b:=E5 f) (a:=0) (by omega);rw [List.drop_zero,a1] at b1;rw [List.drop_zero] at b2;obtain ⟨b3,b4,_⟩:=b2 a1;rw [a3] at b3;rw [a2] at b4;obtain ⟨c1,_⟩:=A8w (b:=E5 f) (a:=(E5 f).length) (by omega);rw [List.drop_length] at c1;have hg:=fun (a:Int) (ha:-9223372036854775808<=a/\a<9223372036854775808)=>A7u (E5 f) (B6k hb) (by omega) a ha
  simp only [A26,A7r];have s1:A2S O7 (E5 f) (0,[],())=some (.inl (((E5 f).length:Int),[f],())):=by
    simp only [A2S];rw [hg 0 (by omega)];rw [show ((0:Nat):Int)=0 from rfl] at b1 b3 b4;rw [Nat.zero_add] at b4;simp only [bO,b1,b3,b4];rfl
  rw [C3,s1];simp only [];rw [C3];simp only [A2S,hg _ (show -9223372036854775808<=((E5 f).length:Int)/\((E5 f).length:Int)<9223372036854775808 by omega),bO,c1];rfl
theorem B9F{id:Int}(hid:1<=id/\id<=2147483647){r:A1m}{xs:List Int}(hx:xs.length<=2000){T:B4}(hT:P9 T){o:List Int}(hBI:BI ⟨24,[],0,⟨g0,T,[(id,2,r,xs)],id,[(id,r,xs,0)],o⟩⟩){p:L1}(hp:p∈respL) :
    R4 (bsC A0J ⟨24,[],0,⟨g0,T,[(id,2,r,xs)],id,[(id,r,xs,0)],o⟩⟩) id p=some (mkC 24 [] (B2v A0J (flP p)) 0 ⟨g0,T,[],id,[],[]⟩,E5 (1,5,id,A14 A0J (flP p)),true,())/\
    R4 (mkC 24 [] (B2v A0J (flP p)) 0 ⟨g0,T,[],id,[],[]⟩) id p=some (mkC 24 [] (B2v A0J (flP p)) 0 ⟨g0,T,[],id,[],[]⟩,[],false,()):=by
  obtain ⟨h1,h2,h3,h4⟩:=C8c hp;have hl:=(C8d p).1;have hV:=B0W 0 A05 h4;have htl:=A3o hT;have hP:=B2T A05 (B3u h4) (by omega);have hT2:=(C3S A05 (B3u h4)).1;have htl2:=A3o hT2;have hel:=A3o A05;have hp2:=C76 id true (A14 A0J (flP p)) 1000 hid (by omega);rw [show czN 1000=1000 from rfl] at hp2;simp only [if_true] at hp2;rw [D7b id 1 (n:=1000) (by omega) (by omega),bO4.2] at hp2;have hif:=B3i [(1,5,id,A14 A0J (flP p))] (fun f hf=>by rcases List.mem_singleton.1 hf with rfl;exact E0T hid (by omega)) (by simp);rw [D11] at hif;simp only [A6E,List.append_nil] at hif;constructor
  · have hcp:=B3j (bsC A0J ⟨24,[],0,⟨g0,T,[(id,2,r,xs)],id,[(id,r,xs,0)],o⟩⟩) ⟨by simp,by simp,by simp only;omega,by simp only;omega,by simp,fun x hx'=>by simp only [List.mem_singleton] at hx';subst hx';simp only;omega⟩
    have hck:=B5F A05 hBI;have hst:=B0O 24 [] A0J 0 ⟨g0,T,[(id,2,r,xs)],id,[(id,r,xs,0)],o⟩ id (by simp);obtain ⟨e1,e2⟩:=D64 id (2,r,xs);simp only [e1,e2] at hst;simp only [bsC] at hcp hck ⊢;have hdl:C4 [(id,2,r,xs)] 0 (IntKind.i64.wrap (0+1))=some ([],()):=by
      rw [show C4=C6t from rfl,w64 (by omega) (by omega)];rfl
    have hrd:rd F5 [(id,2,r,xs)] 0=(id,2,r,xs):=rfl;simp only [R4,A4a,show ((24:Nat):Int)=24 from rfl,show ((0:Nat):Int)=0 from rfl] at hcp hck hst ⊢;simp only [hcp,hck,hst,bO,B3d,h1,hrd,decide_true,Bool.not_true,cond_false,List.length_singleton,B0a p h1,hP,hdl,hp2,hif];rfl
  · have hcp:=B3j (mkC 24 [] (B2v A0J (flP p)) 0 ⟨g0,T,[],id,[],[]⟩) ⟨by simp,by simp,by simp only;omega,by simp only;omega,by simp,fun x hx'=>by cases hx'⟩
    have hst:=B0O 24 [] (B2v A0J (flP p)) 0 ⟨g0,T,[],id,[],[]⟩ id (by simp);have e2:B3q [] id=false:=rfl;simp only [e2] at hst;simp only [R4,A4a,hcp,hst,bO];rfl
set_option maxRecDepth 100000
theorem D3d(a:List Int)(ha:a.length<=1048576):∃ r p,A66 a=some (r,p,())/\r∈reqsL/\p∈respL:=by
  obtain ⟨c0,q0,h0⟩:=D05 a ha;obtain ⟨r,c1,q1,h1,hr⟩:=D3W c0 h0;obtain ⟨p,c2,q2,h2,hp⟩:=D1C c1 h1;simp only [A66,B3S,q0,q1,q2,bO];exact ⟨r,p,rfl,hr,hp⟩
theorem C8f(a:List Int)(ha:a.length<=1048576):∃ xs n,T7 a=some (xs,n,())/\xs.length<=30/\Byt xs:=by
  obtain ⟨c0,q0,h0⟩:=D05 a ha;obtain ⟨n,c1,q1,h1,hn⟩:=B7T c0 [0,1,5,9,30] h0 (by simp);have hn2:0<=n/\n<=30:=by
    simp only [List.mem_cons,List.not_mem_nil,or_false] at hn;omega
  obtain ⟨xs,c2,q2,h2,hx,hb⟩:=D34 c1 n h1 (by omega);obtain ⟨k,c3,q3,h3,_⟩:=A7v c2 12 h2 (by omega);simp only [T7,A3A,q0,q1,q2,q3,bO];exact ⟨xs,_,rfl,by omega,hb⟩
theorem exactWhole(a:List Int):B3b a=some (true,()):=by
  simp only [B3b,B3a,C1n,C84,bO];by_cases hbig:(a.length:Int)>1048576
  · rw [A0 hbig];rfl
  rw [A3 hbig];obtain ⟨r,p,q1,hr,hp⟩:=D3d a (by omega);obtain ⟨xs,n,q2,hx,hb⟩:=C8f a (by omega);have hid:(1:Int)<=5/\(5:Int)<=2147483647:=by omega
  have hodd:(5:Int).tmod 2=1:=by decide
  have hn:=B7a n;have ea:=C5Q A05 hid hr (by omega:xs.length<=2000) n;obtain ⟨eh,hl⟩:=D3c hid hodd hr (by omega:xs.length<=2000) hb hn;have hp3:=C09;have hBI:BI ⟨24,[],0,E0Q 5 r xs⟩:=by
    obtain ⟨h1,h2,h3⟩:=C8a hr;rw [<- D19 hid hodd hr (by omega:xs.length<=2000) hn];refine (B9C D60 (A03 B7o (C3U fun f hf=>?_))).1;rcases List.mem_append.1 hf with hf | hf
    · exact C78 (C3S A05 (B3u h3)).2 f hf
    · exact C3V hb _ f hf
  have hT:=hBI.hi.dec;obtain ⟨e1,e2⟩:=B9F hid (by omega:xs.length<=2000) hT hBI hp;obtain ⟨p1,p2,p3,p4⟩:=C8c hp;have hl2:=(C8d p).1;have hV:=B0W 0 A05 p4;have hVb:=(C3S A05 (B3u p4)).2;have er:=B9E (f:=(1,5,5,A14 A0J (flP p))) (E0T hid (by omega)) hVb;have ef:=C7G (g:=g0) (.inl ⟨rfl,rfl,rfl⟩) (f:=(1,5,5,A14 A0J (flP p))) ⟨by simp only;omega,by simp only;omega,by simp only;omega,by simp only;omega,hVb⟩;rw [E0U hid (by omega)] at ef;have eg:=B3o A05 hVb (by omega) (most:=4096) (by omega);rw [C0I A05 (B3u p4) (by omega)] at eg;have eo:=C8e hp;have es:=C3O xs (by simp only [maxLen];omega);have hc1:rd A62 [((5:Int),r,xs,(0:Int))] 0=(5,r,xs,0):=rfl;have hf1:rd K6 [((1:Int),(5:Int),(5:Int),A14 A0J (flP p))] 0=(1,5,5,A14 A0J (flP p)):=rfl;have d1:decide (((1:Nat):Int)=1)=true:=rfl;have d2:decide ((0:Int)<((1:Nat):Int))=true:=rfl;have d0:decide (((([]:List A0P).length:Nat):Int)=0)=true:=rfl;have e1':R4 (bsC A0J ⟨24,[],0,E0Q 5 r xs⟩) 5 p=_:=e1;simp only [cond_false,q1,q2,bO,C8U,C87];rw [show A4D (4096,[]) 5 r xs n=_ from ea];simp only [bO];rw [gA (by omega),eh];simp only [bO,hc1,List.length_singleton,decide_true,Bool.not_true,cond_false,cond_true,es,eqM,Bool.and_self,bSl,d1,d2];rw [e1'];simp only [bO,er,List.length_singleton,d1,d2,d0,decide_true,Bool.not_true,cond_false,cond_true,bSl,hf1,ef];rw [show V0 (4096,[]) 4096 (A14 A0J (flP p))=_ from eg];simp only [bO,eo,e2,eqI,decide_true,Bool.and_self,cond_true,Bool.not_false]
end Go.Proofs.YthnfghmjipikhaaGreatDoor.Ev
