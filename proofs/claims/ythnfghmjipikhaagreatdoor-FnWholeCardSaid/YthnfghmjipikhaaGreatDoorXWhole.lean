/- What the plain functions of the program and of the reference answer: laws of plain data. -/
import Derived.Test.YthnfghmjipikhaaGreatDoorXWholea
set_option linter.unusedVariables false
set_option linter.unusedSimpArgs false
set_option linter.unusedSectionVars false
namespace Go.Proofs.YthnfghmjipikhaaGreatDoor.Ev
open IntKind (i64 u8 u64 u32)
set_option maxRecDepth 100000
set_option maxRecDepth 100000
set_option maxRecDepth 100000
set_option maxRecDepth 100000
set_option maxRecDepth 100000
set_option maxRecDepth 100000
set_option maxRecDepth 100000
set_option maxRecDepth 100000
set_option maxRecDepth 100000
set_option maxRecDepth 100000
set_option maxRecDepth 100000
set_option maxRecDepth 100000
set_option maxRecDepth 100000
set_option maxRecDepth 100000
set_option maxRecDepth 100000
set_option maxRecDepth 100000
set_option maxRecDepth 100000
set_option maxRecDepth 100000
section
variable {b:List Int} (hb:Byt b) (hl:b.length<=500000000)
include hb hl
end
set_option maxRecDepth 100000
set_option maxRecDepth 100000
theorem B9f(s:X0)(most:Int)(hm:most<=4294967295):A87 s most=some (bif E0G s most then ((B4o s s.size:Int),true,()) else (0,false,())):=by
  simp only [A87,B6B,O9,bO];unfold E0G;by_cases hr:1<=(s.size:Int)/\(s.size:Int)<=10
  · rw [A0 hr]
    simp only [E0,A7,L2];obtain ⟨i,h1,h2,h3,h4⟩:=A9O (A5O s) (fun i=>((B4o s i:Int),(i:Int),())) s.size (fun i=>if i<s.size then .inr (0,false,()) else .inl ((B4o s s.size:Int),())) (C78 s) (fun i hi=>by
      have h1:(i:Int)<(s.size:Int):=by omega
      have h2:(0:Int)<=(i:Int):=by omega
      have w1:i64.wrap ((i:Int)+1)=((i+1:Nat):Int):=by rw [w64 (by omega) (by omega)];omega
      have b1:=D0s s (i:Int);have b2:=C1R s (i:Int);have hn:=D5w s i;have hp:10 ^ i<=10 ^ 10:=A3N (by omega) (by omega);simp only [A9 hi,A5O,A0 h1,A0 h2,B2,w1];by_cases c1:bt s (i:Int)<48
      · rw [show C78 s i=false by unfold C78;rw [A8 (show ¬ 48<=bt s (i:Int) by omega)];rfl,A0 c1];rfl
      · rw [A8 c1]
        by_cases c2:bt s (i:Int)>57
        · rw [show C78 s i=false by unfold C78;rw [A8 (show ¬ bt s (i:Int)<=57 by omega),Bool.and_false],A0 c2];rfl
        · rw [show C78 s i=true by unfold C78;rw [A0 (show 48<=bt s (i:Int) by omega),A0 (show bt s (i:Int)<=57 by omega)];rfl,A8 c2]
          simp only [A7,bSl,J4];have e1:u8.wrap (bt s (i:Int)-48)=bt s (i:Int)-48:=by
            rw [show bt s (i:Int)-48=(((bt s (i:Int)-48).toNat:Nat):Int) by omega];exact C1h (by omega)
          rw [e1,w64 (n:=bt s (i:Int)-48) (by omega) (by omega),w64 (n:=(B4o s i:Int)*10) (by omega) (by omega),w64 (by omega) (by omega),B4o];rw [show (B4o s i:Int)*10+(bt s (i:Int)-48)=((B4o s i*10+(bt s (i:Int)-48).toNat:Nat):Int) by omega]) (by
      have h1:¬ ((s.size:Nat):Int)<(s.size:Int):=by omega
      simp only [A50,J1,A5O,A8 h1,A7])
    have h4':H8 (A5O s) (0,0,())=some (if i<s.size then .inr (0,false,()) else .inl ((B4o s s.size:Int),())):=h4;rw [h4'];by_cases hi:i<s.size
    · rw [A9 hi]
      have:(List.range s.size).all (C78 s)=false:=by
        rw [A8p];exact ⟨i,A1F.2 hi,by simp [h3 hi]⟩
      simp [K9,this]
    · rw [A5 hi]
      have ha:(List.range s.size).all (C78 s)=true:=by
        rw [C4];intro j hj;exact h2 j (by have:=A1F.1 hj;omega)
      simp only [bSl,ha,L2];by_cases hq:(B4o s s.size:Int)<=most
      · rw [A8 (show ¬ (B4o s s.size:Int)>most by omega),A0 hq,C4d _ (by omega) (by omega)]
        simp only [A7,bO,L2];cases ((itB (B4o s s.size:Int)).toList == s.toList)<;>rfl
      · rw [A0 (show (B4o s s.size:Int)>most by omega),A8 hq]
        rfl
  · rw [A8 hr]
    rfl
set_option maxRecDepth 100000
theorem D60{l:List B9}(hl:∀ f∈l,f.1.size<=10000/\f.2.size<=10000)(name:X0):∀ k,k<=l.length->(A3W l name k).size<=10000
  | 0,_=>by simp [A3W,ByteArray.size]
  | k+1,h=>by
    have h1:=D60 hl name k (by omega);have e:rd C8 l (k:Int)=l[k]:=B0p (k:=C8) (by omega);unfold A3W;split
    · split
      · rw [e];exact (hl _ (H1 _)).2
      · exact h1
    · exact h1
def B43(op:Int):X0×Int:=if op=1 then (⟨#[117,112,108,111,97,100,45,108,101,110,103,116,104]⟩,1000000000) else if op=3 then (⟨#[117,112,108,111,97,100,45,111,102,102,115,101,116]⟩,1000000000) else if op=4 then (⟨#[117,112,108,111,97,100,45,115,117,109]⟩,4294967295) else (⟨#[]⟩,0)
theorem B4p(op:Int):A2A op=some ((B43 op).1,(B43 op).2,()):=by
  simp only [A2A,A75];unfold B43;by_cases h1:op=1
  · rw [A0 h1,A9 h1];rfl
  rw [A8 h1,A5 h1];by_cases h3:op=3
  · rw [A0 h3,A9 h3];rfl
  rw [A8 h3,A5 h3];by_cases h4:op=4
  · rw [A0 h4,A9 h4];rfl
  · rw [A8 h4,A5 h4];rfl
theorem D7P(op:Int):(B43 op).2<=4294967295:=by
  unfold B43;split
  · simp
  · split
    · simp
    · split<;>simp
abbrev noR:A5D:=(0,⟨#[]⟩,0)
def B78(s:X0):X0×Bool:=bif decide (4<=s.size)&&((s.extract 0 4).toList == nUp.toList) then (s.extract 4 s.size,true) else (s,false)
def B6O(l:List B9):A5D×Int:=
  bif D5v l then
    (if opB (A3W l nM l.length)=0 then (noR,2)
     else bif (B78 (A3W l nP l.length)).2&&idB (B78 (A3W l nP l.length)).1 then
      (bif ((B43 (opB (A3W l nM l.length))).1.toList == (⟨#[]⟩:X0).toList) then ((opB (A3W l nM l.length),(B78 (A3W l nP l.length)).1,0),0)
       else bif decide (A7R l (B43 (opB (A3W l nM l.length))).1 l.length=1)&&E0G (A3W l (B43 (opB (A3W l nM l.length))).1 l.length) (B43 (opB (A3W l nM l.length))).2
         then ((opB (A3W l nM l.length),(B78 (A3W l nP l.length)).1,(B4o (A3W l (B43 (opB (A3W l nM l.length))).1 l.length) (A3W l (B43 (opB (A3W l nM l.length))).1 l.length).size:Int)),0) else (noR,4))
     else (noR,3))
  else (noR,1)
theorem D3m(s:X0)(a b:Nat):(s.extract a b).size<=s.size:=by rw [ByteArray.size_extract];omega
theorem E0H(s:X0):(B78 s).1.size<=s.size:=by
  unfold B78;cases decide (4<=s.size)&&((s.extract 0 4).toList == nUp.toList)
  · exact C1 _
  · exact D3m _ _ _
theorem D3n(l:List B9)(hl:l.length<=1000)(hn:∀ f∈l,f.1.size<=10000/\f.2.size<=10000):B9D l=some ((B6O l).1,(B6O l).2,()):=by
  have hv:=fun name=>D60 hn name l.length (C1 _)
  have hi:(B78 (A3W l nP l.length)).1.size<=maxLen:=by have:=E0H (A3W l nP l.length);have:=hv nP;simp only [maxLen];omega
  simp only [B9D,C2f,D1e l (by omega) (fun f hf=>by have:=(hn f hf).1;omega),bO];unfold B6O;cases D5v l
  case false=>rfl
  simp only [E0,A7,B2];have v1:=A4L l nM (by omega);have v2:=A4L l nP (by omega);simp only [v1,v2,bO,D7O];by_cases h0:opB (A3W l nM l.length)=0
  · rw [A0 h0,A9 h0];rfl
  rw [A8 h0,A5 h0];simp only [A7];have hc:A2J (A3W l nP l.length) nUp=some ((B78 (A3W l nP l.length)).1,(B78 (A3W l nP l.length)).2,()):=by
    rw [C67];unfold B78;cases decide (4<=(A3W l nP l.length).size)&&(((A3W l nP l.length).extract 0 4).toList == nUp.toList)<;>rfl
  rw [hc];simp only [bO,D5T _ hi,B4p];cases (B78 (A3W l nP l.length)).2
  case false=>rfl
  cases idB (B78 (A3W l nP l.length)).1
  case false=>rfl
  simp only [E0,A7,bSl,B9r,B2];cases ((B43 (opB (A3W l nM l.length))).1.toList == (⟨#[]⟩:X0).toList)
  case true=>rfl
  simp only [A7];rw [A4L l _ (by omega)];simp only [bO];rw [B9f _ _ (D7P _)];simp only [bO];by_cases h1:A7R l (B43 (opB (A3W l nM l.length))).1 l.length=1
  · rw [A0 (show (A7R l (B43 (opB (A3W l nM l.length))).1 l.length:Int)=1 by omega),A0 h1]
    simp only [E0,A7,L2];cases E0G (A3W l (B43 (opB (A3W l nM l.length))).1 l.length) (B43 (opB (A3W l nM l.length))).2<;>rfl
  · rw [A8 (show ¬ (A7R l (B43 (opB (A3W l nM l.length))).1 l.length:Int)=1 by omega),A8 h1]
    rfl
noncomputable def stV(st ev:Int):Int×Int:=match A0O st ev with
  | some x=>(x.1,x.2.1)
  | none=>(0,1)
theorem D7Q(ev:Int):∃ a b,B1O ev=some (a,b,()):=by
  simp only [B1O,B67];cases decide (ev=1)<;>cases decide (ev=2)<;>cases decide (ev=6)<;>cases decide (ev=7)<;>exact ⟨_,_,rfl⟩
theorem D7R(ev:Int):∃ a b,B1Q ev=some (a,b,()):=by
  simp only [B1Q,B68];cases decide (ev=1)<;>cases decide (ev=2)<;>cases decide (ev=4)<;>cases decide (ev=7)<;>cases decide (ev=9)<;>cases decide (ev=5)<;>cases decide (ev=10)<;>exact ⟨_,_,rfl⟩
theorem D3o(ev:Int):∃ a b,A57 ev=some (a,b,()):=by
  simp only [A57,A86];cases decide (ev=5)<;>cases decide (ev=6)<;>cases decide (ev=7)<;>cases decide (ev=8)<;>cases decide (ev=9)<;>cases decide (ev=10)<;>exact ⟨_,_,rfl⟩
theorem D7S(ev:Int):∃ a b,A5p ev=some (a,b,()):=by
  simp only [A5p,A9H];cases decide (ev=1)<;>cases decide (ev=2)<;>cases decide (ev=3)<;>cases decide (ev=4)<;>cases decide (ev=5)<;>cases decide (ev=10)<;>exact ⟨_,_,rfl⟩
theorem D7T(st ev:Int):A0O st ev=some ((stV st ev).1,(stV st ev).2,()):=by
  have:∃ a b,A0O st ev=some (a,b,()):=by
    obtain ⟨a1,b1,e1⟩:=D7Q ev;obtain ⟨a2,b2,e2⟩:=D7R ev;obtain ⟨a3,b3,e3⟩:=D3o ev;obtain ⟨a4,b4,e4⟩:=D7S ev;simp only [A0O,B26,O9,bO,e1,e2,e3,e4];cases decide (1<=ev/\ev<=10)<;>cases decide (st=0)<;>cases decide (st=1)<;>cases decide (st=2)<;>cases decide (st=3)<;>cases decide (st=4)<;>cases decide (ev=5)<;>exact ⟨_,_,rfl⟩
  obtain ⟨a,b,e⟩:=this;unfold stV;rw [e]
set_option maxRecDepth 100000
structure HM where
  g:T7
  dec:F5
  strs:List A3g
  last:Int
  calls:List A7t
  out:List Int
abbrev mkC(pre:Int)(inn:List Int)(enc:F5)(dead:Int)(m:HM):A1U:=(pre,inn,m.g,m.dec,enc,m.strs,m.last,dead)
abbrev mkH(pre:Int)(inn:List Int)(enc:F5)(dead:Int)(m:HM):I7:=(mkC pre inn enc dead m,m.calls,m.out)
def D7U(last:Int)(s:A3g):Prop:=s.1.tmod 2=1/\1<=s.1/\s.1<=last/\(s.2.1=1\/s.2.1=2)/\s.2.2.2.length<=2000
def B8N(strs:List A3g)(last:Int):Prop:=strs.length<=100/\(strs.map (·.1)).Pairwise (· < ·)/\∀ s∈strs,D7U last s
def sAt(strs:List A3g)(i:Nat):A3g:=rd O8 strs (i:Int)
theorem B1T{strs:List A3g}{i:Nat}(h:i<strs.length):sAt strs i=strs[i]:=B0p (k:=O8) h
theorem C8S{strs:List A3g}{last:Int}(h:B8N strs last){i:Nat}(hi:i<strs.length){s:A3g}(h1:s.1=(sAt strs i).1)(h2:s.2.1=1\/s.2.1=2)(h3:s.2.2.2.length<=2000):B8N (strs.set i s) last:=by
  obtain ⟨a,b,c⟩:=h;rw [B1T hi] at h1;refine ⟨by simpa using a,?_,fun x hx=>?_⟩
  · rw [List.map_set,h1]
    have:(strs.map (·.1)).set i strs[i].1=strs.map (·.1):=by
      apply A45 (by simp);intro j hj1 hj2;rw [List.getElem_set];split
      · rename_i e;subst e;simp
      · rfl
    rw [this];exact b
  · rcases List.mem_or_eq_of_mem_set hx with q | q
    · exact c x q
    · subst q
      have:=c _ (H1 hi);unfold D7U at this ⊢;rw [h1];exact ⟨this.1,this.2.1,this.2.2.1,h2,h3⟩
theorem D3p{strs:List A3g}{last:Int}(h:B8N strs last)(hl:strs.length<100){s:A3g}(h0:last<s.1)(h1:s.1.tmod 2=1)(h2:s.2.1=1\/s.2.1=2)(h3:s.2.2.2.length<=2000)(hp:1<=s.1):B8N (strs ++ [s]) s.1:=by
  obtain ⟨a,b,c⟩:=h;refine ⟨by simp;omega,?_,fun x hx=>?_⟩
  · rw [A4g,List.pairwise_append]
    refine ⟨b,by simp,fun x hx y hy=>?_⟩;obtain ⟨t,ht,rfl⟩:=D6.1 hx;have:=c t ht;simp only [H7,B71,B0] at hy;unfold D7U at this;omega
  · rcases C6.1 hx with q | q
    · have:=c x q
      unfold D7U at this ⊢;omega
    · rcases B0.1 q with rfl
      exact ⟨h1,hp,by omega,h2,h3⟩
theorem D7V{strs:List A3g}{last:Int}(h:B8N strs last)(i:Nat):B8N (strs.take i++strs.drop (i+1)) last:=by
  obtain ⟨a,b,c⟩:=h;have hs:(strs.take i++strs.drop (i+1)).Sublist strs:=by
    rw [<- List.eraseIdx_eq_take_drop_succ];exact List.eraseIdx_sublist strs i
  exact ⟨K8 hs.length_le a,b.sublist (hs.map _),fun x hx=>c x (hs.subset hx)⟩
theorem D3q{strs:List A3g}{last last':Int}(h:B8N strs last)(hl:last<=last'):B8N strs last':=by
  obtain ⟨a,b,c⟩:=h;refine ⟨a,b,fun x hx=>?_⟩;have:=c x hx;unfold D7U at this ⊢;omega
theorem C8T(last:Int):B8N [] last:=⟨by simp,by simp,fun x hx=>by cases hx⟩
def atM(strs:List A3g)(id:Int):Nat:=V7 (fun j=>decide ((sAt strs j).1<id)) 0 strs.length
def B8O(strs:List A3g)(id:Int):Bool:=decide (atM strs id<strs.length)&&decide ((sAt strs (atM strs id)).1=id)
theorem B4q(pre:Int)(inn:List Int)(enc:F5)(dead:Int)(m:HM)(id:Int)(h:m.strs.length<=2000000) :
    A2M (mkC pre inn enc dead m) id=some ((atM m.strs id:Int),B8O m.strs id,mkC pre inn enc dead m,()):=by
  obtain ⟨i,h1,h2,h3,h4⟩:=str_eq (mkC pre inn enc dead m) id h;have e:atM m.strs id=i:=C3c _ _ i h1 (fun j hj=>A0 (h2 j hj)) (fun hi=>A8 (h3 hi));rw [h4,B8O,e];rfl
theorem C1k{strs:List A3g}{id:Int}(h:B8O strs id=true):atM strs id<strs.length/\(sAt strs (atM strs id)).1=id:=by
  unfold B8O at h;simpa using h
def A53(m:HM)(s:A3g):HM:=if s.2.1=2 then {m with calls:=m.calls ++ [(s.1,s.2.2.1,s.2.2.2,0)]} else m
def A8F(m:HM)(i:Nat)(s:A3g):HM:={m with strs:=m.strs.set i s}
noncomputable def B0U(m:HM)(i:Nat)(ev:Int):Int×HM:=
  if (stV (sAt m.strs i).2.1 ev).2=1 then (1,m) else if (stV (sAt m.strs i).2.1 ev).2=2 then (5,m)
  else (0,A53 (A8F m i ((sAt m.strs i).1,(stV (sAt m.strs i).2.1 ev).1,(sAt m.strs i).2.2)) ((sAt m.strs i).1,(stV (sAt m.strs i).2.1 ev).1,(sAt m.strs i).2.2))
structure HI (m:HM):Prop where
  strs:B8N m.strs m.last
  last:0<=m.last/\m.last<=2147483647
  dec:A1M m.dec
  g:(m.g.1=0/\m.g.2.1=false/\m.g.2.2 = [])\/(1<=m.g.1/\m.g.1<=2147483647/\m.g.2.2.length<=3000)
  gb:Byt m.g.2.2
def HL(m:HM):Prop:=m.calls.length<=1000000000/\m.out.length<=10000000000000
section
variable (pre:Int) (inn:List Int) (enc:F5) (dead:Int)
theorem D3r(m:HM)(s:A3g)(hc:m.calls.length<=2000000000)(hs:s.2.2.2.length<=1000000):A5r (mkH pre inn enc dead m) s=some (mkH pre inn enc dead (A53 m s),()):=by
  simp only [A5r,A9I,A7h s.2.2.2 (by omega),bO];unfold A53;by_cases h:s.2.1=2
  · rw [A0 h,A9 h]
    simp only [mkH,B2];rw [E06 (by simp;omega)]
  · rw [A8 h,A5 h];rfl
theorem C9d(m:HM)(i:Nat)(s:A3g)(hi:i<m.strs.length)(hsi:sAt m.strs i=s)(hc:m.calls.length<=2000000000)(hs:s.2.2.2.length<=1000000) :
    A0w (mkH pre inn enc dead m) (s.1,s.2.1,s.2.2.1) (i:Int)=some (mkH pre inn enc dead (A53 m s),()):=by
  have d1:decide ((0:Int)<=(i:Int))=true:=A0 (by omega);have d2:decide ((i:Int)<(m.strs.length:Int))=true:=A0 (by omega);have e1:(rd O8 m.strs (i:Int))=s:=hsi;simp only [A0w,A4J,mkH,mkC,d1,d2,B2,e1];rw [A7h s.2.2.2 (by omega)];simp only [bO];unfold A53;by_cases h:s.2.1=2
  · rw [A0 h,A9 h]
    simp only [B2];rw [E06 (by simp;omega)]
  · rw [A8 h,A5 h];rfl
theorem C1l(m:HM)(i:Nat)(ev:Int)(hi:i<m.strs.length)(hc:m.calls.length<=2000000000)(hs:(sAt m.strs i).2.2.2.length<=1000000) :
    A2n (mkH pre inn enc dead m) (i:Int) ev=some ((B0U m i ev).1,mkH pre inn enc dead (B0U m i ev).2,()):=by
  have d1:decide ((0:Int)<=(i:Int))=true:=A0 (by omega);have d2:decide ((i:Int)<(m.strs.length:Int))=true:=A0 (by omega);have e1:(rd O8 m.strs (i:Int))=sAt m.strs i:=rfl;simp only [A2n,A7M,mkH,mkC,d1,d2,B2,e1,D7T,bO];unfold B0U;by_cases h1:(stV (sAt m.strs i).2.1 ev).2=1
  · rw [A0 h1,A9 h1];rfl
  rw [A8 h1,A5 h1];by_cases h2:(stV (sAt m.strs i).2.1 ev).2=2
  · rw [A0 h2,A9 h2];rfl
  rw [A8 h2,A5 h2];simp only [A7,E2];have hset:sAt (m.strs.set i ((sAt m.strs i).1,(stV (sAt m.strs i).2.1 ev).1,(sAt m.strs i).2.2)) i=((sAt m.strs i).1,(stV (sAt m.strs i).2.1 ev).1,(sAt m.strs i).2.2):=by
    rw [B1T (by simpa using hi)];simp
  have e2:rd O8 (m.strs.set i ((sAt m.strs i).1,(stV (sAt m.strs i).2.1 ev).1,(sAt m.strs i).2.2)) (i:Int)=((sAt m.strs i).1,(stV (sAt m.strs i).2.1 ev).1,(sAt m.strs i).2.2):=hset;rw [e2];have key:=C9d pre inn enc dead (A8F m i ((sAt m.strs i).1,(stV (sAt m.strs i).2.1 ev).1,(sAt m.strs i).2.2)) i ((sAt m.strs i).1,(stV (sAt m.strs i).2.1 ev).1,(sAt m.strs i).2.2) (by simpa [A8F] using hi) hset hc hs;simp only [mkH,mkC,A8F] at key;rw [key];rfl
end
theorem C3h(m:HM)(s:A3g):(A53 m s).strs=m.strs/\(A53 m s).last=m.last/\(A53 m s).dec=m.dec/\(A53 m s).g=m.g/\(A53 m s).out=m.out/\(A53 m s).calls.length<=m.calls.length+1:=by
  unfold A53;split<;>simp
theorem E29:stV 1 1=(1,1)/\stV 1 2=(2,0)/\stV 1 3=(1,0)/\stV 1 4=(2,0)/\stV 2 1=(2,2)/\stV 2 2=(2,2)/\stV 2 3=(2,2)/\stV 2 4=(2,2)/\stV 0 1=(1,0)/\stV 0 2=(2,0):=⟨rfl,rfl,rfl,rfl,rfl,rfl,rfl,rfl,rfl,rfl⟩
theorem E0I{m:HM}(h:HI m){i:Nat}{ev:Int}(hi:i<m.strs.length)(hev:1<=ev/\ev<=4):((B0U m i ev).1=0->HI (B0U m i ev).2)/\0<=(B0U m i ev).1/\(B0U m i ev).1<=20/\
    (B0U m i ev).2.last=m.last/\(B0U m i ev).2.out=m.out/\(B0U m i ev).2.dec=m.dec/\(B0U m i ev).2.calls.length<=m.calls.length+1:=by
  unfold B0U;by_cases h1:(stV (sAt m.strs i).2.1 ev).2=1
  · rw [A9 h1];exact ⟨(fun h=>by cases h),(by simp only [];omega),(by simp only [];omega),rfl,rfl,rfl,Nat.le_succ _⟩
  rw [A5 h1];by_cases h2:(stV (sAt m.strs i).2.1 ev).2=2
  · rw [A9 h2];exact ⟨(fun h=>by cases h),(by simp only [];omega),(by simp only [];omega),rfl,rfl,rfl,Nat.le_succ _⟩
  rw [A5 h2];obtain ⟨q1,q2,q3,q4,q5,q6⟩:=C3h (A8F m i ((sAt m.strs i).1,(stV (sAt m.strs i).2.1 ev).1,(sAt m.strs i).2.2)) ((sAt m.strs i).1,(stV (sAt m.strs i).2.1 ev).1,(sAt m.strs i).2.2);have hs:=h.strs.2.2 _ (H1 hi);rw [<- B1T hi] at hs;refine ⟨fun _=>⟨?_,?_,?_,?_,?_⟩,(by simp only [];omega),(by simp only [];omega),q2,q5,q3,q6⟩
  · rw [q1,q2]
    refine C8S h.strs hi rfl ?_ hs.2.2.2.2;have ht:=E29;have he:ev=1\/ev=2\/ev=3\/ev=4:=by omega
    rcases hs.2.2.2.1 with e | e<;>rw [e] at h1 h2 ⊢<;>rcases he with rfl | rfl | rfl | rfl<;>simp_all
  · rw [q2];exact h.last
  · rw [q3];exact h.dec
  · rw [q4];exact h.g
  · rw [q4];exact h.gb
set_option maxRecDepth 100000
structure FrI (f:E5):Prop where
  k:0<=f.1/\f.1<=255
  fl:0<=f.2.1/\f.2.1<=255
  st:0<=f.2.2.1/\f.2.2.1<=2147483647
  n:f.2.2.2.length<=1000
  b:Byt f.2.2.2
def A4c(f:E5)(k:Int):Bool:=!decide (A0V .i64 f.2.1 k=0)
theorem A8G(f:E5)(k:Int):A2e f k=some (A4c f k,()):=rfl
noncomputable def fcV(f:E5):Int:=match R8 f with
  | some x=>x.1
  | none=>0
theorem A5S(f:E5):R8 f=some (fcV f,()):=by
  have:∃ c,R8 f=some (c,()):=by
    have h1:∃ b,A1r f=some (b,()):=by
      simp only [A1r,A5N,O9,bO];cases decide (0<=f.1/\f.1<=255)<;>cases decide (0<=f.2.1/\f.2.1<=255)<;>cases decide (0<=f.2.2.1/\f.2.2.1<=2147483647)<;>exact ⟨_,rfl⟩
    have h2:∃ b,A2m f=some (b,()):=by
      simp only [A2m,A7L,A8G,bO];cases decide (f.1=2)<;>cases decide (f.1=3)<;>cases decide (f.1=8)<;>cases decide (f.1=6)<;>cases decide (f.1=4)<;>cases decide (f.1=7)<;>cases decide ((f.2.2.2.length:Int).tmod 6=0)<;>cases decide ((f.2.2.2.length:Int)=0)<;>exact ⟨_,rfl⟩
    obtain ⟨b1,e1⟩:=h1;obtain ⟨b2,e2⟩:=h2;simp only [R8,A3S,e1,e2,bO];cases b1
    case false=>exact ⟨_,rfl⟩
    cases b2
    case false=>exact ⟨_,rfl⟩
    simp only [E0,A7,bSl];cases decide (f.2.2.1=0)<;>cases decide (f.1=0)<;>cases decide (f.1=1)<;>cases decide (f.1=2)<;>cases decide (f.1=3)<;>cases decide (f.1=5)<;>cases decide (f.1=9)<;>cases decide (f.1=4)<;>cases decide (f.1=6)<;>cases decide (f.1=7)<;>exact ⟨_,rfl⟩
  obtain ⟨c,e⟩:=this;unfold fcV;rw [e]
def C3t(f:E5):Int:=if f.1=1 then (bif A4c f 32 then 5 else 0) else 0
def C79(b:List Int)(ahead more:Int):List Int×Bool:=if ahead+more>(b.length:Int) then ([],false) else ((b.take ((b.length:Int)-more).toNat).drop ahead.toNat,true)
def B2d(f:E5):List Int×Bool:=bif A4c f 8 then (if f.2.2.2.length=0 then ([],false) else C79 (f.2.2.2.drop 1) (C3t f) (byN f.2.2.2 0:Int)) else C79 f.2.2.2 (C3t f) 0
theorem D1f(b:List Int)(a m:Int):(C79 b a m).1.length<=b.length:=by
  unfold C79;split
  · simp
  · simp only [C9,B4];omega
theorem E0J(f:E5):(B2d f).1.length<=f.2.2.2.length:=by
  unfold B2d;cases A4c f 8
  · exact D1f _ _ _
  · simp only [B2]
    split
    · simp
    · have:=D1f (f.2.2.2.drop 1) (C3t f) (byN f.2.2.2 0:Int)
      simp only [C9] at this;omega
theorem E0K{f:E5}(h:Byt f.2.2.2):Byt (B2d f).1:=by
  have hB:∀ b a m,Byt b->Byt (C79 b a m).1:=fun b a m hb=>by
    unfold C79;split
    · exact fun x hx=>by cases hx
    · exact B4i (C1S hb _) _
  unfold B2d;cases A4c f 8
  · exact hB _ _ _ h
  · simp only [B2]
    split
    · exact fun x hx=>by cases hx
    · exact hB _ _ _ (B4i h _)
theorem E0L(b:List Int)(a m:Int)(ha:0<=a/\a<=5)(hm:0<=m/\m<256)(hl:b.length<=1000000) :
    (bif (decide ((i64.wrap (a+m))>(b.length:Int))) then some ([],false,()) else bif decide (0<=a) then bif decide (a<=(i64.wrap ((b.length:Int)-m))) then bif decide ((i64.wrap ((b.length:Int)-m))<=(b.length:Int)) then B3 (G2 ((b.take ((i64.wrap ((b.length:Int)-m)).toNat)).drop a.toNat)) fun c40=>some (c40.1,true,()) else none else none else none)=some ((C79 b a m).1,(C79 b a m).2,()):=by
  rw [w64 (n:=a+m) (by omega) (by omega),w64 (n:=(b.length:Int)-m) (by omega) (by omega)];unfold C79;by_cases h:a+m>(b.length:Int)
  · rw [A0 h,A9 h];rfl
  · rw [A8 h,A5 h,A0 (show 0<=a by omega),A0 (show a<=(b.length:Int)-m by omega),A0 (show (b.length:Int)-m<=(b.length:Int) by omega),A7h _ (by simp;omega)]
    rfl
theorem E0M(f:E5):0<=C3t f/\C3t f<=5:=by
  unfold C3t;split
  · cases A4c f 32<;>simp
  · simp
theorem C68{f:E5}(hf:FrI f):B4d f=some ((B2d f).1,(B2d f).2,()):=by
  have ha:(bif (decide (f.1=1)) then bif A4c f 32 then some ((5:Int),()) else some (0,()) else some (0,()))=some (C3t f,()):=by
    unfold C3t;by_cases h:f.1=1
    · rw [A0 h,A9 h];cases A4c f 32<;>rfl
    · rw [A8 h,A5 h];rfl
  have hr:=E0M f;have hn:=hf.n;simp only [B4d,C2e,A8G,bO,ha];unfold B2d;cases A4c f 8
  · simp only [A7,bSl,bO]
    exact E0L f.2.2.2 (C3t f) 0 hr (by omega) (by omega)
  · simp only [B2]
    by_cases h0:f.2.2.2.length=0
    · rw [A0 (show (f.2.2.2.length:Int)=0 by omega),A9 h0];rfl
    · have h1:=C0V hf.b (show 0<f.2.2.2.length by omega)
      rw [show ((0:Nat):Int)=0 from rfl] at h1;rw [A8 (show ¬ (f.2.2.2.length:Int)=0 by omega),A5 h0,A0 (show (0:Int)<(f.2.2.2.length:Int) by omega),A0 (show (1:Int)<=(f.2.2.2.length:Int) by omega),h1.1,w64 (n:=(byN f.2.2.2 0:Int)) (by omega) (by omega),A9j];simp only [A7,B2,bSl,bO];exact E0L (f.2.2.2.drop 1) (C3t f) (byN f.2.2.2 0:Int) hr (by omega) (by simp;omega)
def B0q(g:T7)(f:E5):Bool:=if g.1=0 then !decide (f.1=9) else decide (f.1=9)&&decide (f.2.2.1=g.1)
def B3G(f:E5)(g:T7)(g2:T7):T7×List Int×Int:=
  if (g2.2.2.length:Int)>3000 then (g,[],4) else bif A4c f 4 then ((0,false,[]),g2.2.2,1) else (g2,[],0)
def C3i(g:T7)(f:E5):T7×List Int×Int:=
  if f.1=1 then (if (B2d f).2=false then (g,[],3) else B3G f g (f.2.2.1,A4c f 1,(B2d f).1)) else if f.1=9 then B3G f g (g.1,g.2.1,g.2.2++f.2.2.2) else (g,[],0)
noncomputable def A0A(g:T7)(f:E5):T7×List Int×Int:=bif !decide (fcV f=0)||!B0q g f then (g,[],2) else C3i g f
theorem D3s(g:T7)(f:E5):A9q g f=some (B0q g f,()):=by
  simp only [A9q,B3o];unfold B0q;by_cases h:g.1=0
  · rw [A0 h,A9 h];rfl
  · rw [A8 h,A5 h]
    cases decide (f.1=9)<;>rfl
def GaI(g:T7):Prop:=(g.1=0/\g.2.1=false/\g.2.2 = [])\/(1<=g.1/\g.1<=2147483647/\g.2.2.length<=3000)
theorem B79{g:T7}(h:GaI g):A7v g=some (true,()):=by
  simp only [A7v,B5p,O9,bO];rcases h with ⟨h1,h2,h3⟩ | ⟨h1,h2,h3⟩
  · rw [A0 h1,h2,h3];rfl
  · rw [A8 (show ¬ g.1=0 by omega),A0 (show 1<=g.1/\g.1<=2147483647 from ⟨h1,h2⟩),A0 (show (g.2.2.length:Int)<=3000 by omega)]
    rfl
theorem GaI.len{g:T7}(h:GaI g):g.2.2.length<=3000:=by
  rcases h with ⟨_,_,h3⟩ | ⟨_,_,h3⟩
  · rw [h3];simp
  · exact h3
theorem C8U{g:T7}(hg:GaI g){f:E5}(hf:FrI f):B4f g f=some ((A0A g f).1,(A0A g f).2.1,(A0A g f).2.2,()):=by
  have hl:=hg.len;have hn:=hf.n;have hcp:=B9e g (by omega);simp only [B4f,C5h,B79 hg,A5S,D3s,hcp,C68 hf,A8G,bO,E0,A7];unfold A0A;cases decide (fcV f=0)
  case false=>rfl
  cases B0q g f
  case false=>rfl
  simp only [E0,A7,bO,bSl,Bool.or_self];unfold C3i;by_cases h1:f.1=1
  · rw [A0 h1,A9 h1]
    simp only [B2];cases hu:(B2d f).2 with
    | false=>rfl
    | true=>
      simp only [E0,A7,bSl,N8,J1];unfold B3G;by_cases h3:((B2d f).1.length:Int)>3000
      · rw [A0 h3,A9 h3];rfl
      · rw [A8 h3,A5 h3]
        cases A4c f 4<;>rfl
  · rw [A8 h1,A5 h1]
    simp only [A7];by_cases h9:f.1=9
    · rw [A0 h9,A9 h9,gA (by omega)]
      simp only [B2,bSl];unfold B3G;by_cases h3:((g.2.2++f.2.2.2).length:Int)>3000
      · rw [A0 h3,A9 h3];rfl
      · rw [A8 h3,A5 h3]
        cases A4c f 4<;>rfl
    · rw [A8 h9,A5 h9];rfl
theorem D1g{f:E5}{g g2:T7}(h1:GaI g)(h2:1<=g2.1/\g2.1<=2147483647)(hb:Byt g.2.2)(hb2:Byt g2.2.2):GaI (B3G f g g2).1/\Byt (B3G f g g2).1.2.2/\Byt (B3G f g g2).2.1/\(B3G f g g2).2.1.length<=3000:=by
  have hn:Byt ([]:List Int):=fun x hx=>by cases hx
  unfold B3G;by_cases h3:(g2.2.2.length:Int)>3000
  · rw [A9 h3];exact ⟨h1,hb,hn,by simp⟩
  · rw [A5 h3]
    cases A4c f 4
    · exact ⟨.inr ⟨h2.1,h2.2,by simp only [A7];omega⟩,hb2,hn,by simp⟩
    · exact ⟨.inl ⟨rfl,rfl,rfl⟩,hn,hb2,by simp only [B2];omega⟩
theorem D1h{g:T7}(hg:GaI g)(hb:Byt g.2.2){f:E5}(hf:FrI f)(h0:f.2.2.1≠0\/f.1≠1):GaI (A0A g f).1/\Byt (A0A g f).1.2.2/\Byt (A0A g f).2.1/\(A0A g f).2.1.length<=3000:=by
  have hn:Byt ([]:List Int):=fun x hx=>by cases hx
  unfold A0A;cases hd:(!decide (fcV f=0)||!B0q g f) with
  | true=>exact ⟨hg,hb,hn,by simp⟩
  | false=>
    simp only [A7];unfold C3i;by_cases h1:f.1=1
    · rw [A9 h1]
      by_cases hu:(B2d f).2=false
      · rw [A9 hu];exact ⟨hg,hb,hn,by simp⟩
      · rw [A5 hu]
        have hs:=hf.st;exact D1g hg (by simp only;omega) hb (E0K hf.b)
    · rw [A5 h1]
      by_cases h9:f.1=9
      · rw [A9 h9]
        have hi:B0q g f=true:=by
          simp only [A5d,Bool.not_eq_false'] at hd;exact hd.2
        unfold B0q at hi;by_cases hg0:g.1=0
        · rw [A9 hg0,A0 h9] at hi;cases hi
        · rcases hg with ⟨q,_⟩ | ⟨q1,q2,q3⟩
          · exact absurd q hg0
          · exact D1g (.inr ⟨q1,q2,q3⟩) ⟨q1,q2⟩ hb (A3F hb hf.b)
      · rw [A5 h9];exact ⟨hg,hb,hn,by simp⟩
set_option maxRecDepth 100000
theorem D61{f:E5}(h:fcV f=0)(h1:f.1=1):f.2.2.1≠0:=by
  intro h0;have e:=A5S f;rw [h] at e;have h2:∃ b,A1r f=some (b,()):=by
    simp only [A1r,A5N,O9,bO];cases decide (0<=f.1/\f.1<=255)<;>cases decide (0<=f.2.1/\f.2.1<=255)<;>cases decide (0<=f.2.2.1/\f.2.2.1<=2147483647)<;>exact ⟨_,rfl⟩
  have h3:∃ b,A2m f=some (b,()):=by
    simp only [A2m,A7L,A8G,bO];cases decide (f.1=2)<;>cases decide (f.1=3)<;>cases decide (f.1=8)<;>cases decide (f.1=6)<;>cases decide (f.1=4)<;>cases decide (f.1=7)<;>cases decide ((f.2.2.2.length:Int).tmod 6=0)<;>cases decide ((f.2.2.2.length:Int)=0)<;>exact ⟨_,rfl⟩
  obtain ⟨b1,e1⟩:=h2;obtain ⟨b2,e2⟩:=h3;simp only [R8,A3S,e1,e2,bO,A0 h0,A0 h1] at e;cases b1
  case false=>simp [bSr] at e
  cases b2
  case false=>simp [bSr] at e
  simp only [E0,A7,bSl] at e;cases hq:decide (f.1=0)<;>rw [hq] at e<;>simp [bO] at e
noncomputable def C9e(m:HM)(id:Int)(fin:Bool)(l:List B9):Int×HM:=
  if id.tmod 2=0\/id<=m.last then (1,m) else if 100<=m.strs.length then (11,m)
  else if (B6O l).2≠0 then (0,{m with last:=id,calls:=m.calls ++ [(id,(0,⟨#[]⟩,0),[],(B6O l).2)]})
  else (0,A53 {m with last:=id,strs:=m.strs ++ [(id,(if fin then 2 else 1),(B6O l).1,[])]} (id,(if fin then 2 else 1),(B6O l).1,[]))
noncomputable def B0r(m:HM)(id:Int)(fin:Bool)(b:List Int):Int×HM:=
  if (A0G m.dec 4096 b).2.2.1≠0 then (9,m)
  else if B8O m.strs id=true then B0U {m with dec:=(A0G m.dec 4096 b).2.1} (atM m.strs id) (if fin then 2 else 1)
  else C9e {m with dec:=(A0G m.dec 4096 b).2.1} id fin (A0G m.dec 4096 b).1
noncomputable def B9g(m:HM)(f:E5):Int×HM:=
  if (A0A m.g f).2.2=2\/(A0A m.g f).2.2=3 then (1,{m with g:=(A0A m.g f).1}) else if (A0A m.g f).2.2=4 then (11,{m with g:=(A0A m.g f).1})
  else if (A0A m.g f).2.2=1 then B0r {m with g:=(A0A m.g f).1} (if m.g.1=0 then f.2.2.1 else m.g.1) (if m.g.1=0 then A4c f 1 else m.g.2.1) (A0A m.g f).2.1
  else (0,{m with g:=(A0A m.g f).1})
def D3t(m:HM)(f:E5)(body:List Int):HM:=bif A4c f 1 then m else {m with out:=m.out++M7 (f.1,1,0,body)}
def D3u(m:HM)(f:E5):Int×HM:=if f.2.2.1>m.last then (1,m) else (0,m)
noncomputable def C3j(m:HM)(f:E5):Int×HM:=
  if B8O m.strs f.2.2.1=true then
    (if (B2d f).2=false then (1,m) else if ((sAt m.strs (atM m.strs f.2.2.1)).2.2.2.length:Int)+((B2d f).1.length:Int)>2000 then (11,m)
     else B0U (A8F m (atM m.strs f.2.2.1) ((sAt m.strs (atM m.strs f.2.2.1)).1,(sAt m.strs (atM m.strs f.2.2.1)).2.1,(sAt m.strs (atM m.strs f.2.2.1)).2.2.1,(sAt m.strs (atM m.strs f.2.2.1)).2.2.2++(B2d f).1)) (atM m.strs f.2.2.1) (bif A4c f 1 then 4 else 3))
  else D3u m f
def C2o(m:HM)(f:E5):Int×HM:=
  if B8O m.strs f.2.2.1=true then (0,{m with strs:=m.strs.take (atM m.strs f.2.2.1)++m.strs.drop (atM m.strs f.2.2.1+1)}) else D3u m f
def E2A(b:List Int):Bool:=(B2B b 0 4).2.1&&decide ((b.length:Int)=4)&&!decide (A0V .i64 (B2B b 0 4).1 2147483647=0)
noncomputable def frM(m:HM)(f:E5):Int×HM:=
  if fcV f=2 then (6,m) else if fcV f=3 then (1,m) else if m.g.1≠0\/f.1=1\/f.1=9 then B9g m f
  else if f.1=4 then (0,D3t m f []) else if f.1=6 then (0,D3t m f f.2.2.2) else if f.1=5 then (1,m) else if f.1=8 then (if E2A f.2.2.2=true then (0,m) else (1,m))
  else if f.1=0 then C3j m f else if f.1=3 then C2o m f else (0,m)
section
variable (pre:Int) (inn:List Int) (enc:F5) (dead:Int)
theorem D3v(m:HM)(h:HI m)(hl:m.calls.length<=1000000000)(id:Int)(fin:Bool)(b:List Int)(hb:Byt b)(hbl:b.length<=100000) :
    A5w (mkH pre inn enc dead m) id fin b=some ((B0r m id fin b).1,mkH pre inn enc dead (B0r m id fin b).2,()):=by
  have hg:=C66 h.dec (by omega:(4096:Int)<=4096) b;have hsl:=h.strs.1;have e0:=B8M h.dec hb (by omega) (most:=4096) (by omega);simp only [A5w,A9J,e0,bO];unfold B0r;by_cases h9:(A0G m.dec 4096 b).2.2.1=0
  case neg=>rw [A8 h9,A9 h9];rfl
  rw [A0 h9,A5 (by simpa using h9)];have e1:=B4q pre inn enc dead {m with dec:=(A0G m.dec 4096 b).2.1} id (by simp only;omega);simp only [mkC] at e1;simp only [E0,A7,e1,bO];cases hh:B8O m.strs id with
  | true=>
    have hlt:=C1k hh;have hst:=h.strs.2.2 _ (H1 hlt.1);rw [<- B1T hlt.1] at hst;have eh:B6A fin=some ((if fin then 2 else 1),()):=by cases fin<;>rfl
    have e2:=C1l pre inn enc dead {m with dec:=(A0G m.dec 4096 b).2.1} (atM m.strs id) (if fin then 2 else 1) hlt.1 (by simp only;omega) (by have:=hst.2.2.2.2;simp only;omega);simp only [mkH,mkC] at e2;simp only [B2,eh,bO,e2,bSr,J4]
  | false=>
    simp only [A7,J0,J1];unfold C9e;have ho:(bif (decide ((id.tmod 2)=0)) then some (true,()) else some ((decide (id<=m.last)),()))=some (decide (id.tmod 2=0\/id<=m.last),()):=by
      by_cases q1:id.tmod 2=0
      · rw [A0 q1,A0 (show id.tmod 2=0\/id<=m.last from .inl q1)];rfl
      · rw [A8 q1]
        by_cases q2:id<=m.last
        · rw [A0 q2,A0 (show id.tmod 2=0\/id<=m.last from .inr q2)];rfl
        · rw [A8 q2,A8 (show ¬ (id.tmod 2=0\/id<=m.last) by omega)];rfl
    simp only [ho,bO];by_cases q:id.tmod 2=0\/id<=m.last
    · rw [A0 q,A9 q];rfl
    rw [A8 q,A5 q];simp only [A7];by_cases q2:100<=m.strs.length
    · rw [A0 (show (m.strs.length:Int)>=100 by omega),A9 q2];rfl
    rw [A8 (show ¬ (m.strs.length:Int)>=100 by omega),A5 q2];simp only [A7,bSl];rw [D3n _ (by have:=hg.2.1;omega) hg.2.2];simp only [bO];by_cases q3:(B6O (A0G m.dec 4096 b).1).2=0
    · rw [A0 q3,A5 (by simpa using q3)]
      have eh:B6A fin=some ((if fin then 2 else 1),()):=by cases fin<;>rfl
      have es:A0O 0 (if fin then 2 else 1)=some ((if fin then 2 else 1),0,()):=by cases fin<;>rfl
      simp only [E0,A7,eh,bO,es];rw [E06 (by simp;omega)];have e3:=D3r pre inn enc dead {m with dec:=(A0G m.dec 4096 b).2.1,last:=id,strs:=m.strs ++ [(id,(if fin then 2 else 1),(B6O (A0G m.dec 4096 b).1).1,[])]} (id,(if fin then 2 else 1),(B6O (A0G m.dec 4096 b).1).1,[]) (by simp only;omega) (by simp);simp only [mkH,mkC] at e3;rw [e3];rfl
    · rw [A8 q3,A9 (by simpa using q3)]
      simp only [L6,B2];rw [E06 (by simp;omega)]
theorem C2p(m:HM)(h:HI m)(hl:m.calls.length<=1000000000)(f:E5)(hf:FrI f)(hc:fcV f=0) :
    A78 (mkH pre inn enc dead m) f=some ((B9g m f).1,mkH pre inn enc dead (B9g m f).2,()):=by
  have hok:=D1h h.g h.gb hf (by by_cases h1:f.1=1;exact .inl (D61 hc h1);exact .inr h1);have ho:(bif (decide (m.g.1=0)) then some (f.2.2.1,A4c f 1,()) else some (m.g.1,m.g.2.1,()))=some ((if m.g.1=0 then f.2.2.1 else m.g.1),(if m.g.1=0 then A4c f 1 else m.g.2.1),()):=by
    by_cases q:m.g.1=0
    · rw [A0 q,A9 q,A9 q];rfl
    · rw [A8 q,A5 q,A5 q];rfl
  simp only [A78,B0n,A8G,bO,ho,C8U h.g hf];unfold B9g;by_cases q2:(A0A m.g f).2.2=2
  · rw [A0 q2,A9 (show (A0A m.g f).2.2=2\/(A0A m.g f).2.2=3 from .inl q2)];rfl
  rw [A8 q2];simp only [A7,bO];by_cases q3:(A0A m.g f).2.2=3
  · rw [A0 q3,A9 (show (A0A m.g f).2.2=2\/(A0A m.g f).2.2=3 from .inr q3)];rfl
  rw [A8 q3,A5 (show ¬ ((A0A m.g f).2.2=2\/(A0A m.g f).2.2=3) by omega)];by_cases q4:(A0A m.g f).2.2=4
  · rw [A0 q4,A9 q4];rfl
  rw [A8 q4,A5 q4];by_cases q1:(A0A m.g f).2.2=1
  · rw [A0 q1,A9 q1]
    have e:=D3v pre inn enc dead {m with g:=(A0A m.g f).1} ⟨h.strs,h.last,h.dec,hok.1,hok.2.1⟩ hl (if m.g.1=0 then f.2.2.1 else m.g.1) (if m.g.1=0 then A4c f 1 else m.g.2.1) (A0A m.g f).2.1 hok.2.2.1 (by omega);simp only [mkH,mkC] at e;simp only [B2,A7,e,bO]
  · rw [A8 q1,A5 q1];rfl
theorem C3k(m:HM)(ho:m.out.length<=100000000000000)(f:E5)(b:List Int)(hb:b.length<=1000):A59 (mkH pre inn enc dead m) f b=some (mkH pre inn enc dead (D3t m f b),()):=by
  simp only [A59,A88,A8G,bO,mkH];unfold D3t;cases A4c f 1 with
  | true=>rfl
  | false=>
    simp only [L6,B2,A7];rw [A6r _ _ (by simp only;omega)];rfl
theorem C1m(m:HM)(f:E5):A2o (mkH pre inn enc dead m) f=some ((D3u m f).1,mkH pre inn enc dead (D3u m f).2,()):=by
  simp only [A2o,A7O,mkH,mkC];unfold D3u;by_cases h:f.2.2.1>m.last
  · rw [A0 h,A9 h];rfl
  · rw [A8 h,A5 h];rfl
theorem D7W(m:HM)(h:HI m)(hl:m.calls.length<=1000000000)(f:E5)(hf:FrI f) :
    A7A (mkH pre inn enc dead m) f=some ((C3j m f).1,mkH pre inn enc dead (C3j m f).2,()):=by
  have hsl:=h.strs.1;have hn:=hf.n;have hu:=E0J f;have e1:=B4q pre inn enc dead m f.2.2.1 (by omega);have e2:=C1m pre inn enc dead m f;simp only [mkC] at e1;simp only [mkH,mkC] at e2;simp only [A7A,B0o,mkH,mkC,e1,bO,C68 hf,A8G];unfold C3j;cases hh:B8O m.strs f.2.2.1 with
  | false=>
    simp only [L6,B2,J0,J1,e2,bO]
  | true=>
    have hlt:=C1k hh;have hst:=h.strs.2.2 _ (H1 hlt.1);rw [<- B1T hlt.1] at hst;have h5:=hst.2.2.2.2;have d1:decide ((0:Int)<=(atM m.strs f.2.2.1:Int))=true:=A0 (by omega);have d2:decide ((atM m.strs f.2.2.1:Int)<(m.strs.length:Int))=true:=A0 (by omega);have e3:rd O8 m.strs (atM m.strs f.2.2.1:Int)=sAt m.strs (atM m.strs f.2.2.1):=rfl;simp only [E0,A7,J4,d1,d2,B2,e3];cases hq:(B2d f).2 with
    | false=>rfl
    | true=>
      simp only [E0,A7,N8,J1];rw [w64 (by omega) (by omega)];by_cases q:((sAt m.strs (atM m.strs f.2.2.1)).2.2.2.length:Int)+((B2d f).1.length:Int)>2000
      · rw [A0 q,A9 q];rfl
      · rw [A8 q,A5 q]
        simp only [A7];rw [gA (by omega)];simp only [E2,bO];have e4:=fun ev=>C1l pre inn enc dead (A8F m (atM m.strs f.2.2.1) ((sAt m.strs (atM m.strs f.2.2.1)).1,(sAt m.strs (atM m.strs f.2.2.1)).2.1,(sAt m.strs (atM m.strs f.2.2.1)).2.2.1,(sAt m.strs (atM m.strs f.2.2.1)).2.2.2++(B2d f).1)) (atM m.strs f.2.2.1) ev (by simpa [A8F] using hlt.1) (by simp only [A8F];omega) (by
          simp only [A8F];rw [B1T (by simpa using hlt.1),A54];simp only [A3];omega)
        simp only [mkH,mkC,A8F] at e4;cases A4c f 1
        · simp only [A7,e4,bO];rfl
        · simp only [B2,e4,bO];rfl
theorem D3w(m:HM)(h:HI m)(f:E5):A61 (mkH pre inn enc dead m) f=some ((C2o m f).1,mkH pre inn enc dead (C2o m f).2,()):=by
  have hsl:=h.strs.1;have e1:=B4q pre inn enc dead m f.2.2.1 (by omega);have e2:=C1m pre inn enc dead m f;simp only [mkC] at e1;simp only [mkH,mkC] at e2;simp only [A61,A9K,mkH,mkC,e1,bO];unfold C2o;cases hh:B8O m.strs f.2.2.1 with
  | false=>simp only [L6,B2,J0,J1,e2,bO]
  | true=>
    have hlt:=C1k hh;have w1:i64.wrap ((atM m.strs f.2.2.1:Int)+1)=((atM m.strs f.2.2.1+1:Nat):Int):=by rw [w64 (by omega) (by omega)];omega
    have e3:J8 m.strs (atM m.strs f.2.2.1:Int) ((atM m.strs f.2.2.1+1:Nat):Int)=some (m.strs.take (atM m.strs f.2.2.1)++m.strs.drop (atM m.strs f.2.2.1+1),()):=by
      rw [show J8=C8A from rfl];simp only [C8A];rw [A0 (by omega),A0 (by omega),A0 (by omega)];simp only [B2,E2]
    simp only [E0,A7,w1,e3,bO,J4]
theorem D1i(b:List Int)(hb:Byt b)(hl:b.length<=1000):∃ n,B1S b=some (n,E2A b,()):=by
  have e:=D0u b hb (by omega) 0 4 (by omega);rw [show ((4:Nat):Int)=4 from rfl] at e;simp only [B1S,B6F,e,bO];unfold E2A;cases (B2B b 0 4).2.1<;>cases decide ((b.length:Int)=4)<;>cases decide (A0V .i64 (B2B b 0 4).1 2147483647=0)<;>exact ⟨_,rfl⟩
theorem D40(m:HM)(h:HI m)(hl:HL m)(f:E5)(hf:FrI f):A2i (mkH pre inn enc dead m) f=some ((frM m f).1,mkH pre inn enc dead (frM m f).2,()):=by
  have hn:=hf.n;simp only [A2i,A9L,A5S,bO];unfold frM;by_cases c2:fcV f=2
  · rw [A0 c2,A9 c2];rfl
  rw [A8 c2,A5 c2];by_cases c3:fcV f=3
  · rw [A0 c3,A9 c3];rfl
  rw [A8 c3,A5 c3];have hc:fcV f=0:=by
    have e:=A5S f;have hall:∃ c,R8 f=some (c,())/\(c=0\/c=2\/c=3):=by
      have h2:∃ b,A1r f=some (b,()):=by
        simp only [A1r,A5N,O9,bO];cases decide (0<=f.1/\f.1<=255)<;>cases decide (0<=f.2.1/\f.2.1<=255)<;>cases decide (0<=f.2.2.1/\f.2.2.1<=2147483647)<;>exact ⟨_,rfl⟩
      have h3:∃ b,A2m f=some (b,()):=by
        simp only [A2m,A7L,A8G,bO];cases decide (f.1=2)<;>cases decide (f.1=3)<;>cases decide (f.1=8)<;>cases decide (f.1=6)<;>cases decide (f.1=4)<;>cases decide (f.1=7)<;>cases decide ((f.2.2.2.length:Int).tmod 6=0)<;>cases decide ((f.2.2.2.length:Int)=0)<;>exact ⟨_,rfl⟩
      obtain ⟨b1,e1⟩:=h2;obtain ⟨b2,e2⟩:=h3;simp only [R8,A3S,e1,e2,bO];cases b1
      case false=>exact ⟨_,rfl,.inr (.inl rfl)⟩
      cases b2
      case false=>exact ⟨_,rfl,.inr (.inl rfl)⟩
      simp only [E0,A7,bSl];cases decide (f.2.2.1=0)<;>cases decide (f.1=0)<;>cases decide (f.1=1)<;>cases decide (f.1=2)<;>cases decide (f.1=3)<;>cases decide (f.1=5)<;>cases decide (f.1=9)<;>cases decide (f.1=4)<;>cases decide (f.1=6)<;>cases decide (f.1=7)<;>first | exact ⟨_,rfl,.inl rfl⟩ | exact ⟨_,rfl,.inr (.inr rfl)⟩
    obtain ⟨c,e1,e2⟩:=hall;rw [e1] at e;injection e with e
    injection e with e _
    omega
  simp only [A7];by_cases g0:m.g.1=0
  case neg=>
    rw [A8 g0,A9 (.inl g0)];simp only [L6,B2,C2p pre inn enc dead m h hl.1 f hf hc,bO]
  rw [A0 g0];simp only [E0,A7];by_cases k1:f.1=1
  · rw [A0 k1,A9 (.inr (.inl k1))]
    simp only [B2,bO,C2p pre inn enc dead m h hl.1 f hf hc]
  rw [A8 k1];simp only [A7,bO];by_cases k9:f.1=9
  · rw [A0 k9,A9 (.inr (.inr k9))]
    simp only [B2,bO,C2p pre inn enc dead m h hl.1 f hf hc]
  rw [A8 k9,A5 (by omega)];simp only [A7];by_cases k4:f.1=4
  · rw [A0 k4,A9 k4]
    simp only [B2,C3k pre inn enc dead m (by have:=hl.2;omega) f [] (by simp),bO]
  rw [A8 k4,A5 k4];simp only [A7];by_cases k6:f.1=6
  · rw [A0 k6,A9 k6]
    simp only [B2,C3k pre inn enc dead m (by have:=hl.2;omega) f f.2.2.2 hn,bO]
  rw [A8 k6,A5 k6];simp only [A7];by_cases k5:f.1=5
  · rw [A0 k5,A9 k5];rfl
  rw [A8 k5,A5 k5];simp only [A7];by_cases k8:f.1=8
  · rw [A0 k8,A9 k8]
    obtain ⟨n,e⟩:=D1i f.2.2.2 hf.b hn;simp only [B2,e,bO];cases E2A f.2.2.2<;>rfl
  rw [A8 k8,A5 k8];simp only [A7];by_cases k0:f.1=0
  · rw [A0 k0,A9 k0]
    simp only [B2,D7W pre inn enc dead m h hl.1 f hf,bO]
  rw [A8 k0,A5 k0];simp only [A7];by_cases k3:f.1=3
  · rw [A0 k3,A9 k3]
    simp only [B2,D3w pre inn enc dead m h f,bO]
  · rw [A8 k3,A5 k3];rfl
end
set_option maxRecDepth 100000
structure FrO (m:HM) (r:Int×HM):Prop where
  code:0<=r.1/\r.1<=20
  hi:r.1=0->HI r.2
  last:0<=r.2.last/\r.2.last<=2147483647
  dec:A1M r.2.dec
  calls:r.2.calls.length<=m.calls.length+1
  out:r.2.out.length<=m.out.length+1100
theorem B6P{m:HM}(h:HI m){c:Int}(hc:0<c/\c<=20):FrO m (c,m):=⟨by simp only;omega,fun e=>by simp only at e;omega,h.last,h.dec,by simp only;omega,by simp only;omega⟩
theorem C1n{m:HM}(h:HI m):FrO m (0,m):=⟨by simp only;omega,fun _=>h,h.last,h.dec,by simp only;omega,by simp only;omega⟩
theorem D1j{m m0:HM}(h:HI m){i:Nat}{ev:Int}(hi:i<m.strs.length)(hev:1<=ev/\ev<=4)(h1:m.calls=m0.calls)(h2:m.out=m0.out):FrO m0 (B0U m i ev):=by
  obtain ⟨a1,a2,a3,a4,a5,a6,a7⟩:=E0I h hi hev;exact ⟨⟨a2,a3⟩,a1,by rw [a4];exact h.last,by rw [a6];exact h.dec,by rw [<- h1];exact a7,by rw [a5,h2];omega⟩
theorem D7a{m m0:HM}(h:HI m)(id:Int)(hid:id<=2147483647)(fin:Bool)(b:List Int)(h1:m.calls=m0.calls)(h2:m.out=m0.out):FrO m0 (B0r m id fin b):=by
  have hg:=C66 h.dec (by omega:(4096:Int)<=4096) b;have hm:HI {m with dec:=(A0G m.dec 4096 b).2.1}:=⟨h.strs,h.last,hg.1,h.g,h.gb⟩;have hl:=h.last;unfold B0r;by_cases h9:(A0G m.dec 4096 b).2.2.1≠0
  · rw [A9 h9]
    exact ⟨by simp only;omega,fun e=>by simp only at e;omega,h.last,h.dec,by simp only [h1];omega,by simp only [h2];omega⟩
  rw [A5 h9];cases hh:B8O m.strs id with
  | true=>
    rw [A9 rfl];exact D1j hm (C1k hh).1 (by cases fin<;>simp) h1 h2
  | false=>
    rw [A5 (by simp)];unfold C9e;by_cases q:id.tmod 2=0\/id<=m.last
    · rw [A9 q]
      exact ⟨by simp only;omega,fun e=>by simp only at e;omega,h.last,hg.1,by simp only [h1];omega,by simp only [h2];omega⟩
    rw [A5 q];by_cases q2:100<=m.strs.length
    · rw [A9 q2]
      exact ⟨by simp only;omega,fun e=>by simp only at e;omega,h.last,hg.1,by simp only [h1];omega,by simp only [h2];omega⟩
    rw [A5 q2];have ht:id.tmod 2=1:=by
      have:=A5g (a:=id) (b:=2) (by omega);omega
    by_cases q3:(B6O (A0G m.dec 4096 b).1).2≠0
    · rw [A9 q3]
      exact ⟨by simp only;omega,fun _=>⟨D3q h.strs (by simp only;omega),by simp only;omega,hg.1,h.g,h.gb⟩,by simp only;omega,hg.1,by simp only [A3,G3,h1];omega,by simp only [h2];omega⟩
    · rw [A5 q3]
      obtain ⟨z1,z2,z3,z4,z5,z6⟩:=C3h {m with dec:=(A0G m.dec 4096 b).2.1,last:=id,strs:=m.strs ++ [(id,(if fin then 2 else 1),(B6O (A0G m.dec 4096 b).1).1,[])]} (id,(if fin then 2 else 1),(B6O (A0G m.dec 4096 b).1).1,[]);refine ⟨by simp only;omega,fun _=>⟨?_,?_,?_,?_,?_⟩,?_,?_,?_,?_⟩
      · rw [z1,z2]
        exact D3p h.strs (by omega) (s:=(id,(if fin then 2 else 1),(B6O (A0G m.dec 4096 b).1).1,[])) (by simp only;omega) ht (by cases fin<;>simp) (by simp) (by simp only;omega)
      · rw [z2];simp only;omega
      · rw [z3];exact hg.1
      · rw [z4];exact h.g
      · rw [z4];exact h.gb
      · simp only;rw [z2];simp only;omega
      · simp only;rw [z3];exact hg.1
      · simp only at z6 ⊢;rw [<- h1];exact z6
      · simp only;rw [z5];simp only [h2];omega
theorem E0N{m:HM}(h:HI m){f:E5}(hf:FrI f)(hc:fcV f=0):FrO m (B9g m f):=by
  have hok:=D1h h.g h.gb hf (by by_cases h1:f.1=1;exact .inl (D61 hc h1);exact .inr h1);have hm:HI {m with g:=(A0A m.g f).1}:=⟨h.strs,h.last,h.dec,hok.1,hok.2.1⟩;unfold B9g;by_cases q2:(A0A m.g f).2.2=2\/(A0A m.g f).2.2=3
  · rw [A9 q2]
    exact ⟨by simp only;omega,fun e=>by simp only at e;omega,h.last,h.dec,by simp only;omega,by simp only;omega⟩
  rw [A5 q2];by_cases q4:(A0A m.g f).2.2=4
  · rw [A9 q4]
    exact ⟨by simp only;omega,fun e=>by simp only at e;omega,h.last,h.dec,by simp only;omega,by simp only;omega⟩
  rw [A5 q4];by_cases q1:(A0A m.g f).2.2=1
  · rw [A9 q1]
    have hs:=hf.st;refine D7a hm _ ?_ _ _ rfl rfl;by_cases g0:m.g.1=0
    · rw [A9 g0];omega
    · rw [A5 g0]
      rcases h.g with q | q
      · exact absurd q.1 g0
      · exact q.2.1
  · rw [A5 q1]
    exact ⟨by simp only;omega,fun _=>hm,h.last,h.dec,by simp only;omega,by simp only;omega⟩
theorem D62{m:HM}(h:HI m)(f:E5)(hf:FrI f)(b:List Int)(hb:b.length<=1000):FrO m (0,D3t m f b):=by
  have hk:=hf.k;unfold D3t;cases A4c f 1
  · have hl:=A9Q (f.1,1,0,b) (fok _ _ _ _ (by omega) (by omega) (by omega) (by omega))
    exact ⟨by simp only;omega,fun _=>⟨h.strs,h.last,h.dec,h.g,h.gb⟩,h.last,h.dec,by simp only [A7];omega,by simp only [A7,A3];omega⟩
  · exact C1n h
theorem D63{m:HM}(h:HI m)(f:E5):FrO m (D3u m f):=by
  unfold D3u;split
  · exact B6P h (by omega)
  · exact C1n h
theorem E0O{m:HM}(h:HI m){f:E5}(hf:FrI f):FrO m (C3j m f):=by
  unfold C3j;cases hh:B8O m.strs f.2.2.1 with
  | false=>rw [A5 (by simp)];exact D63 h f
  | true=>
    rw [A9 rfl];have hlt:=C1k hh;have hst:=h.strs.2.2 _ (H1 hlt.1);rw [<- B1T hlt.1] at hst;by_cases hu:(B2d f).2=false
    · rw [A9 hu];exact B6P h (by omega)
    rw [A5 hu];by_cases q:((sAt m.strs (atM m.strs f.2.2.1)).2.2.2.length:Int)+((B2d f).1.length:Int)>2000
    · rw [A9 q];exact B6P h (by omega)
    rw [A5 q];refine D1j ?_ ?_ ?_ rfl rfl
    · exact ⟨C8S h.strs hlt.1 rfl hst.2.2.2.1 (by simp only [A3];omega),h.last,h.dec,h.g,h.gb⟩
    · simpa [A8F] using hlt.1
    · cases A4c f 1<;>simp
theorem D7b{m:HM}(h:HI m)(f:E5):FrO m (C2o m f):=by
  unfold C2o;cases hh:B8O m.strs f.2.2.1 with
  | false=>rw [A5 (by simp)];exact D63 h f
  | true=>
    rw [A9 rfl];exact ⟨by simp only;omega,fun _=>⟨D7V h.strs _,h.last,h.dec,h.g,h.gb⟩,h.last,h.dec,by simp only;omega,by simp only;omega⟩
theorem E2B(f:E5):fcV f=0\/fcV f=2\/fcV f=3:=by
  have e:=A5S f;have hall:∃ c,R8 f=some (c,())/\(c=0\/c=2\/c=3):=by
    have h2:∃ b,A1r f=some (b,()):=by
      simp only [A1r,A5N,O9,bO];cases decide (0<=f.1/\f.1<=255)<;>cases decide (0<=f.2.1/\f.2.1<=255)<;>cases decide (0<=f.2.2.1/\f.2.2.1<=2147483647)<;>exact ⟨_,rfl⟩
    have h3:∃ b,A2m f=some (b,()):=by
      simp only [A2m,A7L,A8G,bO];cases decide (f.1=2)<;>cases decide (f.1=3)<;>cases decide (f.1=8)<;>cases decide (f.1=6)<;>cases decide (f.1=4)<;>cases decide (f.1=7)<;>cases decide ((f.2.2.2.length:Int).tmod 6=0)<;>cases decide ((f.2.2.2.length:Int)=0)<;>exact ⟨_,rfl⟩
    obtain ⟨b1,e1⟩:=h2;obtain ⟨b2,e2⟩:=h3;simp only [R8,A3S,e1,e2,bO];cases b1
    case false=>exact ⟨_,rfl,.inr (.inl rfl)⟩
    cases b2
    case false=>exact ⟨_,rfl,.inr (.inl rfl)⟩
    simp only [E0,A7,bSl];cases decide (f.2.2.1=0)<;>cases decide (f.1=0)<;>cases decide (f.1=1)<;>cases decide (f.1=2)<;>cases decide (f.1=3)<;>cases decide (f.1=5)<;>cases decide (f.1=9)<;>cases decide (f.1=4)<;>cases decide (f.1=6)<;>cases decide (f.1=7)<;>first | exact ⟨_,rfl,.inl rfl⟩ | exact ⟨_,rfl,.inr (.inr rfl)⟩
  obtain ⟨c,e1,e2⟩:=hall;rw [e1] at e;injection e with e
  injection e with e _
  omega
theorem E0P{m:HM}(h:HI m){f:E5}(hf:FrI f):FrO m (frM m f):=by
  have hr:=E2B f;unfold frM;by_cases c2:fcV f=2
  · rw [A9 c2];exact B6P h (by omega)
  rw [A5 c2];by_cases c3:fcV f=3
  · rw [A9 c3];exact B6P h (by omega)
  rw [A5 c3];by_cases k:m.g.1≠0\/f.1=1\/f.1=9
  · rw [A9 k];exact E0N h hf (by omega)
  rw [A5 k];by_cases k4:f.1=4
  · rw [A9 k4];exact D62 h f hf [] (by simp)
  rw [A5 k4];by_cases k6:f.1=6
  · rw [A9 k6];exact D62 h f hf _ hf.n
  rw [A5 k6];by_cases k5:f.1=5
  · rw [A9 k5];exact B6P h (by omega)
  rw [A5 k5];by_cases k8:f.1=8
  · rw [A9 k8]
    split
    · exact C1n h
    · exact B6P h (by omega)
  rw [A5 k8];by_cases k0:f.1=0
  · rw [A9 k0];exact E0O h hf
  rw [A5 k0];by_cases k3:f.1=3
  · rw [A9 k3];exact D7b h f
  · rw [A5 k3];exact C1n h
section
variable (cs:List A7t) (os:List Int)
end
set_option maxRecDepth 100000
theorem C2q(b:List Int)(a c:Nat):∀ j,R1 (b.drop a) c j=R1 b (a+c) j
  | 0=>rfl
  | j+1=>by
    simp only [R1,C2q b a c j];rw [show (b.drop a).getD (c+j) 0=b.getD (a+c+j) 0 by simp [List.getD,G5,M1]]
theorem A9S(b:List Int)(n c:Nat):∀ j,c+j<=n->R1 (b.take n) c j=R1 b c j
  | 0,_=>rfl
  | j+1,h=>by
    simp only [R1,A9S b n c j (by omega)];rw [show (b.take n).getD (c+j) 0=b.getD (c+j) 0 by simp [List.getD,M3,show c+j<n by omega]]
def codeF(b:List Int):Nat:=if b.length<9 then 1 else if R1 b 0 3>1000 then 2 else if b.length<9+R1 b 0 3 then 1 else 0
def A23(b:List Int):Nat:=9+R1 b 0 3
def A0Q(b:List Int):E5:=(A6s b 0).1
theorem B3H{b:List Int}{a:Nat}(ha:a<=b.length):(A6s b a).2.2.1=(codeF (b.drop a):Int)/\(codeF (b.drop a)=0->(A6s b a).1=A0Q (b.drop a)/\(A6s b a).2.1=((a+A23 (b.drop a):Nat):Int)/\a+A23 (b.drop a)<=b.length):=by
  have hl:(b.drop a).length=b.length-a:=by simp
  have e0:R1 (b.drop a) 0 3=R1 b a 3:=by rw [C2q];rfl
  have hg:∀ (k:Nat),rd (.int .u8) (b.drop a) (k:Int)=rd (.int .u8) b ((a:Int)+k):=fun k=>by
    simp only [rd];rw [show ((a:Int)+(k:Int)).toNat=a+k by omega,E2];simp [List.getD,G5]
  unfold codeF A23 A0Q;rw [hl,e0];unfold A6s;by_cases h9:b.length-a<9
  · rw [A9 h9,A5 (show ¬ (0<=(a:Int)/\(a:Int)<=(b.length:Int)-9) by omega)]
    exact ⟨rfl,fun h=>by cases h⟩
  rw [A5 h9,A9 (show 0<=(a:Int)/\(a:Int)<=(b.length:Int)-9 by omega),E2];by_cases h1:R1 b a 3>1000
  · rw [A9 h1,A9 (show (R1 b a 3:Int)>1000 by omega)]
    exact ⟨rfl,fun h=>by cases h⟩
  rw [A5 h1,A5 (show ¬ (R1 b a 3:Int)>1000 by omega)];by_cases h2:b.length-a<9+R1 b a 3
  · rw [A9 h2,A9 (show (R1 b a 3:Int)>(b.length:Int)-(a:Int)-9 by omega)]
    exact ⟨rfl,fun h=>by cases h⟩
  rw [A5 h2,A5 (show ¬ (R1 b a 3:Int)>(b.length:Int)-(a:Int)-9 by omega)];refine ⟨rfl,fun _=>⟨?_,(by show (a:Int)+9+(R1 b a 3:Int)=((a+(9+R1 b a 3):Nat):Int);omega),by omega⟩⟩;rw [A9 (show 0<=(0:Int)/\(0:Int)<=((b.drop a).length:Int)-9 by omega)];rw [show (0:Int).toNat=0 from rfl,e0,A5 (show ¬ (R1 b a 3:Int)>1000 by omega),A5 (show ¬ (R1 b a 3:Int)>((b.drop a).length:Int)-0-9 by omega)];have r3:=hg 3;have r4:=hg 4;rw [show ((3:Nat):Int)=3 from rfl] at r3;rw [show ((4:Nat):Int)=4 from rfl] at r4;simp only [A8r];rw [r3,r4];have e5:R1 (b.drop a) (5:Int).toNat 4=R1 b ((a:Int)+5).toNat 4:=by
    rw [C2q]
    congr 1
  rw [e5];have e9:((b.drop a).take ((9:Int)+(R1 b a 3:Int)).toNat).drop (9:Int).toNat=(b.take ((a:Int)+9+(R1 b a 3:Int)).toNat).drop ((a:Int)+9).toNat:=by
    rw [show ((a:Int)+9+(R1 b a 3:Int)).toNat=a+(9+R1 b a 3) by omega,show ((a:Int)+9).toNat=a+9 by omega,show ((9:Int)+(R1 b a 3:Int)).toNat=9+R1 b a 3 by omega,show (9:Int).toNat=9 from rfl];rw [A0T,A0T,L5]
    congr 1
    omega
  rw [e9]
theorem C2r(b:List Int):codeF b=0\/codeF b=1\/codeF b=2:=by
  unfold codeF;split
  · omega
  · split
    · omega
    · split<;>omega
theorem C0a{b:List Int}(h:codeF b=1)(k:Nat):codeF (b.take k)=1:=by
  unfold codeF at h ⊢;by_cases h9:(b.take k).length<9
  · rw [A9 h9]
  rw [A5 h9];rw [B4] at h9;rw [A5 (by omega)] at h;rw [A9S _ _ _ _ (by omega),B4];by_cases h1:R1 b 0 3>1000
  · rw [A9 h1] at h;cases h
  rw [A5 h1] at h ⊢;by_cases h2:b.length<9+R1 b 0 3
  · rw [A9 (by omega)]
  · rw [A5 h2] at h;cases h
theorem D1k{b:List Int}(h:codeF b=2):9<=b.length/\(∀ k,k<9->codeF (b.take k)=1)/\∀ k,9<=k->codeF (b.take k)=2:=by
  unfold codeF at h;by_cases h9:b.length<9
  · rw [A9 h9] at h;cases h
  rw [A5 h9] at h;by_cases h1:R1 b 0 3>1000
  · refine ⟨by omega,fun k hk=>?_,fun k hk=>?_⟩
    · unfold codeF
      rw [A9 (by rw [B4];omega)]
    · unfold codeF
      rw [A5 (by rw [B4];omega),A9S _ _ _ _ (by omega),A9 h1]
  · rw [A5 h1] at h
    split at h<;>cases h
theorem B3I{b:List Int}(h:codeF b=0):A23 b<=b.length/\9<=A23 b/\A23 b<=1009/\(∀ k,k<A23 b->codeF (b.take k)=1)/\codeF (b.take (A23 b))=0:=by
  unfold codeF at h;by_cases h9:b.length<9
  · rw [A9 h9] at h;cases h
  rw [A5 h9] at h;by_cases h1:R1 b 0 3>1000
  · rw [A9 h1] at h;cases h
  rw [A5 h1] at h;by_cases h2:b.length<9+R1 b 0 3
  · rw [A9 h2] at h;cases h
  unfold A23;refine ⟨by omega,by omega,by omega,fun k hk=>?_,?_⟩
  · unfold codeF
    by_cases hk9:k<9
    · rw [A9 (by rw [B4];omega)]
    · rw [A5 (by rw [B4];omega),A9S _ _ _ _ (by omega),A5 h1,A9 (by rw [B4];omega)]
  · unfold codeF
    rw [A5 (by rw [B4];omega),A9S _ _ _ _ (by omega),A5 h1,A5 (by rw [B4];omega)]
theorem D1l{b:List Int}(h:codeF b=0):A0Q (b.take (A23 b))=A0Q b:=by
  obtain ⟨h1,h2,h3,_,h5⟩:=B3I h;have hn:A23 b=9+R1 b 0 3:=rfl;have hl:(b.take (A23 b)).length=A23 b:=by rw [B4];omega
  have hr:∀ (k:Nat),k<A23 b->rd (.int .u8) (b.take (A23 b)) (k:Int)=rd (.int .u8) b (k:Int):=fun k hk=>by
    simp only [rd,E2];simp [List.getD,M3,hk]
  have e3:R1 (b.take (A23 b)) 0 3=R1 b 0 3:=A9S _ _ _ _ (by omega);unfold A0Q A6s;rw [A9 (show 0<=(0:Int)/\(0:Int)<=((b.take (A23 b)).length:Int)-9 by omega),A9 (show 0<=(0:Int)/\(0:Int)<=(b.length:Int)-9 by omega)];rw [show (0:Int).toNat=0 from rfl,e3];rw [A5 (show ¬ (R1 b 0 3:Int)>1000 by omega),A5 (show ¬ (R1 b 0 3:Int)>((b.take (A23 b)).length:Int)-0-9 by omega),A5 (show ¬ (R1 b 0 3:Int)>1000 by omega),A5 (show ¬ (R1 b 0 3:Int)>(b.length:Int)-0-9 by omega)];simp only [A8r];have r3:=hr 3 (by omega);have r4:=hr 4 (by omega);rw [show ((3:Nat):Int)=3 from rfl] at r3;rw [show ((4:Nat):Int)=4 from rfl] at r4;rw [r3,r4,A9S _ _ _ _ (show (5:Int).toNat+4<=A23 b by simp;omega)];rw [show ((9:Int)+(R1 b 0 3:Int)).toNat=A23 b by omega,R4,Nat.min_self]
theorem C8V{b:List Int}(hb:Byt b)(h:codeF b=0):FrI (A0Q b):=by
  obtain ⟨h1,h2,h3,_,_⟩:=B3I h;have hn:A23 b=9+R1 b 0 3:=rfl;have r3:=C0V hb (show 3<b.length by omega);have r4:=C0V hb (show 4<b.length by omega);rw [show ((3:Nat):Int)=3 from rfl] at r3;rw [show ((4:Nat):Int)=4 from rfl] at r4;have hs:=C4b hb 5 4;have hm:A0V .i64 (R1 b 5 4:Int) 2147483647=((R1 b 5 4 % 2 ^ 31:Nat):Int):=by
    rw [show (2147483647:Int)=((2147483647:Nat):Int) from rfl,B4n (by simp at hs;omega) (by omega),show (2147483647:Nat)=2 ^ 31-1 from rfl,A06]
  have hlt:R1 b 5 4 % 2 ^ 31<2 ^ 31:=A2r _ (by decide);have e:A0Q b=(rd (.int .u8) b 3,rd (.int .u8) b 4,A0V .i64 (R1 b 5 4:Int) 2147483647,(b.take ((9:Int)+(R1 b 0 3:Int)).toNat).drop (9:Int).toNat):=by
    unfold A0Q A6s;rw [A9 (show 0<=(0:Int)/\(0:Int)<=(b.length:Int)-9 by omega),show (0:Int).toNat=0 from rfl,A5 (show ¬ (R1 b 0 3:Int)>1000 by omega),A5 (show ¬ (R1 b 0 3:Int)>(b.length:Int)-0-9 by omega)];simp only [A8r];rfl
  rw [e];refine ⟨?_,?_,?_,?_,?_⟩
  · simp only [r3.1];omega
  · simp only [r4.1];omega
  · simp only [hm];omega
  · simp only [C9,B4];omega
  · exact B4i (C1S hb _) _
set_option maxRecDepth 100000
abbrev priS:X0:=⟨#[80,82,73,32,42,32,72,84,84,80,47,50,46,48,13,10,13,10,83,77,13,10,13,10]⟩
def goB(last code:Int):List Int:=M7 (7,0,0,big (B4g last) 4++big (B4g code) 4)
theorem D64(last code:Int):(goB last code).length=17:=by
  simp only [goB,M7,A3,A65,E4,J2]
structure BS where
  pre:Nat
  inn:List Int
  dead:Int
  m:HM
def B4r(pre:Nat)(m:HM)(code:Int):BS:=⟨pre,[],code,{m with g:=(0,false,[]),strs:= [],out:=m.out++goB m.last code}⟩
noncomputable def A5T(st:BS)(x:Int):BS:=
  if st.dead≠0 then st
  else if st.pre<24 then (if x=bt priS (st.pre:Int) then ⟨st.pre+1,st.inn,0,st.m⟩ else B4r st.pre st.m 1)
  else if codeF (st.inn ++ [x])=1 then ⟨st.pre,st.inn ++ [x],0,st.m⟩
  else if codeF (st.inn ++ [x])=2 then B4r st.pre st.m 6
  else if (frM st.m (A0Q (st.inn ++ [x]))).1=0 then ⟨st.pre,[],0,(frM st.m (A0Q (st.inn ++ [x]))).2⟩
  else B4r st.pre (frM st.m (A0Q (st.inn ++ [x]))).2 (frM st.m (A0Q (st.inn ++ [x]))).1
noncomputable def A0R(st:BS)(b:List Int):BS:=b.foldl A5T st
theorem B0V(st:BS)(h:st.dead≠0):∀ b,A0R st b=st
  | []=>rfl
  | x::b=>by
    have e:A5T st x=st:=by unfold A5T;rw [A9 h]
    show A0R (A5T st x) b=st;rw [e];exact B0V st h b
theorem C0b(st:BS)(a b:List Int):A0R st (a++b)=A0R (A0R st a) b:=by
  unfold A0R;rw [List.foldl_append]
structure BI (st:BS):Prop where
  pre:st.pre<=24
  hi:HI st.m
  inb:Byt st.inn
  more:codeF st.inn=1
  emp:st.pre<24\/st.dead≠0->st.inn = []
  gone:st.dead≠0->st.m.strs = []/\st.m.g.1=0
  dead:0<=st.dead/\st.dead<=20
theorem D7c:codeF []=1:=rfl
theorem C9f{pre:Nat}(hp:pre<=24){m:HM}(h1:0<=m.last/\m.last<=2147483647)(h2:A1M m.dec){code:Int}(hc:0<=code/\code<=20):BI (B4r pre m code):=
  ⟨hp,⟨C8T _,h1,h2,.inl ⟨rfl,rfl,rfl⟩,fun x hx=>by cases hx⟩,(fun x hx=>by cases hx),rfl,fun _=>rfl,fun _=>⟨rfl,rfl⟩,hc⟩
theorem E0Q{b:List Int}(hb:Byt b){x:Int}(hx:0<=x/\x<256):Byt (b ++ [x]):=A3F hb fun y hy=>by rcases B0.1 hy with rfl;exact hx
theorem E0R{st:BS}(h:BI st){x:Int}(hx:0<=x/\x<256):BI (A5T st x)/\(A5T st x).m.calls.length<=st.m.calls.length+1/\(A5T st x).m.out.length<=st.m.out.length+1200:=by
  unfold A5T;by_cases hd:st.dead≠0
  · rw [A9 hd];exact ⟨h,by omega,by omega⟩
  rw [A5 hd];have hb:=E0Q h.inb hx;have hg:=D64;by_cases hp:st.pre<24
  · rw [A9 hp]
    by_cases hq:x=bt priS (st.pre:Int)
    · rw [A9 hq]
      refine ⟨⟨by simp only;omega,h.hi,h.inb,h.more,fun _=>h.emp (.inl hp),fun e=>absurd rfl e,by simp⟩,by simp only;omega,by simp only;omega⟩
    · rw [A5 hq]
      exact ⟨C9f h.pre h.hi.last h.hi.dec (by omega),by simp only [B4r];omega,by simp only [B4r,A3,hg];omega⟩
  rw [A5 hp];by_cases c1:codeF (st.inn ++ [x])=1
  · rw [A9 c1]
    exact ⟨⟨h.pre,h.hi,hb,c1,(fun e=>by rcases e with e | e;exact absurd e hp;exact absurd rfl e),(fun e=>absurd rfl e),by simp⟩,by simp only;omega,by simp only;omega⟩
  rw [A5 c1];by_cases c2:codeF (st.inn ++ [x])=2
  · rw [A9 c2]
    exact ⟨C9f h.pre h.hi.last h.hi.dec (by omega),by simp only [B4r];omega,by simp only [B4r,A3,hg];omega⟩
  rw [A5 c2];have c0:codeF (st.inn ++ [x])=0:=by have:=C2r (st.inn ++ [x]);omega
  have ho:=E0P h.hi (C8V hb c0);have h1:=ho.calls;have h2:=ho.out;by_cases hr:(frM st.m (A0Q (st.inn ++ [x]))).1=0
  · rw [A9 hr]
    exact ⟨⟨h.pre,ho.hi hr,(fun x hx=>by cases hx),rfl,fun _=>rfl,(fun e=>absurd rfl e),by simp⟩,by simp only;omega,by simp only;omega⟩
  · rw [A5 hr]
    exact ⟨C9f h.pre ho.last ho.dec ho.code,by simp only [B4r];omega,by simp only [B4r,A3,hg];omega⟩
theorem C2s:∀ {b:List Int} {st:BS},BI st->Byt b->BI (A0R st b)/\(A0R st b).m.calls.length<=st.m.calls.length+b.length/\(A0R st b).m.out.length<=st.m.out.length+1200*b.length
  | [],st,h,_=>⟨h,by simp [A0R],by simp [A0R]⟩
  | x::b,st,h,hb=>by
    obtain ⟨h1,h2,h3⟩:=E0R h (hb x A6);obtain ⟨h4,h5,h6⟩:=C2s (b:=b) h1 fun y hy=>hb y (B6 _ hy)
    have e:A0R st (x::b)=A0R (A5T st x) b:=rfl;rw [e];exact ⟨h4,by simp only [E4];omega,by simp only [E4];omega⟩
theorem B8P(st:BS)(hd:st.dead=0)(hp:¬ st.pre<24):∀ (k:Nat) (xs:List Int),xs.length=k->(∀ j,j<=k->codeF (st.inn++xs.take j)=1)->A0R st xs=⟨st.pre,st.inn++xs,0,st.m⟩:=by
  intro k
  induction k generalizing st with
  | zero=>
    intro xs hx _;have:xs = []:=V5.1 hx;subst this;show st=_;rw [E7];cases st;simp only at hd;subst hd;rfl
  | succ k ih=>
    intro xs hx hc;cases xs with
    | nil=>cases hx
    | cons x xs=>
      have h1:=hc 1 (by omega);simp only [List.take_succ_cons,List.take_zero] at h1;have e:A5T st x=⟨st.pre,st.inn ++ [x],0,st.m⟩:=by
        unfold A5T;rw [A5 (by omega),A5 hp,A9 h1]
      show A0R (A5T st x) xs=_;rw [e,ih ⟨st.pre,st.inn ++ [x],0,st.m⟩ rfl hp xs (by simpa using hx) fun j hj=>by
        have:=hc (j+1) (by omega);simpa using this]
      simp
noncomputable def C0c:Nat->HM->List Int->Int×HM×List Int
  | 0,m,b=>(0,m,b)
  | k+1,m,b=>if codeF b=1 then (0,m,b) else if codeF b=2 then (6,m,b) else
    if (frM m (A0Q b)).1≠0 then ((frM m (A0Q b)).1,(frM m (A0Q b)).2,b) else C0c k (frM m (A0Q b)).2 (b.drop (A23 b))
def C8W(pre:Nat)(r:Int×HM×List Int):BS:=if r.1=0 then ⟨pre,r.2.2,0,r.2.1⟩ else B4r pre r.2.1 r.1
theorem C3l(pre:Nat)(hp:¬ pre<24):∀ (k:Nat) (xs inn:List Int) (m:HM),inn.length+xs.length<=k->codeF inn=1->A0R ⟨pre,inn,0,m⟩ xs=C8W pre (C0c (k+1) m (inn++xs)):=by
  intro k
  induction k with
  | zero=>
    intro xs inn m hk hi;have h1:xs = []:=V5.1 (by omega);subst h1;simp only [C0c,E7,A9 hi,C8W,J4];rfl
  | succ k ih=>
    intro xs inn m hk hi;rw [C0c];have hpre:∀ j,j<=inn.length+xs.length->inn.length<=j->(inn++xs).take j=inn++xs.take (j-inn.length):=fun j h1 h2=>by
      rw [B5C,G1 h2]
    rcases C2r (inn++xs) with c | c | c
    · obtain ⟨w1,w2,w3,w4,w5⟩:=B3I c
      have hlt:inn.length<A23 (inn++xs):=by
        rcases C2I inn.length (A23 (inn++xs)) with h | h
        · exact h
        · exfalso
          have h7:=C0a hi (A23 (inn++xs));have:(inn++xs).take (A23 (inn++xs))=inn.take (A23 (inn++xs)):=by rw [F9 h]
          rw [this,h7] at w5;cases w5
      rw [A3] at w1;obtain ⟨n,hn⟩:∃ n,A23 (inn++xs)=inn.length+(n+1):=⟨A23 (inn++xs)-inn.length-1,by omega⟩;have hlen:n<xs.length:=by omega
      have hsplit:xs=xs.take n++(xs[n]::xs.drop (n+1)):=by
        rw [<- J6 hlen,M0]
      have hw:A0R ⟨pre,inn,0,m⟩ (xs.take n)=⟨pre,inn++xs.take n,0,m⟩:=by
        refine B8P ⟨pre,inn,0,m⟩ rfl hp n (xs.take n) (by rw [B4];omega) fun j hj=>?_
        have:=w4 (inn.length+j) (by omega);rw [hpre _ (by omega) (by omega)] at this;rw [R4,W4 hj];simpa using this
      have hB:inn++xs.take n ++ [xs[n]]=(inn++xs).take (A23 (inn++xs)):=by
        rw [hpre _ (by omega) (by omega),hn,show inn.length+(n+1)-inn.length=n+1 by omega,B1,L9 hlen]
      have hD:(inn++xs).drop (A23 (inn++xs))=xs.drop (n+1):=by
        rw [hn,A6O,S7 (by omega),G0]
        congr 1
        omega
      rw [A5 (by omega),A5 (by omega)];have e1:A0R ⟨pre,inn,0,m⟩ xs=A0R (A5T ⟨pre,inn++xs.take n,0,m⟩ xs[n]) (xs.drop (n+1)):=by
        conv=>lhs;rw [hsplit]
        rw [C0b,hw];rfl
      rw [e1];have e2:A5T ⟨pre,inn++xs.take n,0,m⟩ xs[n]=if (frM m (A0Q (inn++xs))).1=0 then ⟨pre,[],0,(frM m (A0Q (inn++xs))).2⟩ else B4r pre (frM m (A0Q (inn++xs))).2 (frM m (A0Q (inn++xs))).1:=by
        unfold A5T;simp only [hB,w5,D1l c];rw [A5 (by omega),A5 hp,A5 (by omega),A5 (by omega)]
      rw [e2];by_cases hr:(frM m (A0Q (inn++xs))).1=0
      · rw [A9 hr,A5 (by simpa using hr),hD]
        exact ih (xs.drop (n+1)) [] _ (by simp;omega) rfl
      · rw [A5 hr,A9 hr,B0V _ (by simpa [B4r] using hr)]
        simp only [C8W,A5 hr]
    · rw [A9 c]
      simp only [C8W,J4];refine B8P ⟨pre,inn,0,m⟩ rfl hp xs.length xs rfl fun j hj=>?_
      have:=C0a c (inn.length+j);rw [hpre _ (by omega) (by omega)] at this;simpa using this
    · obtain ⟨w1,w2,w3⟩:=D1k c
      have hlt:inn.length<9:=by
        rcases C2I inn.length 9 with h | h
        · exact h
        · exfalso
          have h7:=C0a hi 9;have h8:=w3 9 (by omega);have:(inn++xs).take 9=inn.take 9:=by rw [F9 h]
          rw [this,h7] at h8;cases h8
      rw [A3] at w1;obtain ⟨n,hn⟩:∃ n,9=inn.length+(n+1):=⟨8-inn.length,by omega⟩;have hlen:n<xs.length:=by omega
      have hsplit:xs=xs.take n++(xs[n]::xs.drop (n+1)):=by
        rw [<- J6 hlen,M0]
      have hw:A0R ⟨pre,inn,0,m⟩ (xs.take n)=⟨pre,inn++xs.take n,0,m⟩:=by
        refine B8P ⟨pre,inn,0,m⟩ rfl hp n (xs.take n) (by rw [B4];omega) fun j hj=>?_
        have:=w2 (inn.length+j) (by omega);rw [hpre _ (by omega) (by omega)] at this;rw [R4,W4 hj];simpa using this
      have hB:codeF (inn++xs.take n ++ [xs[n]])=2:=by
        have:=w3 9 (by omega);rw [hpre _ (by omega) (by omega),show 9-inn.length=n+1 by omega,L9 hlen,<- B1] at this;exact this
      rw [A5 (by omega),A9 c];have e1:A0R ⟨pre,inn,0,m⟩ xs=A0R (A5T ⟨pre,inn++xs.take n,0,m⟩ xs[n]) (xs.drop (n+1)):=by
        conv=>lhs;rw [hsplit]
        rw [C0b,hw];rfl
      have e2:A5T ⟨pre,inn++xs.take n,0,m⟩ xs[n]=B4r pre m 6:=by
        unfold A5T;rw [A5 (by simp),A5 hp,A5 (by simp only [hB];omega),A9 hB]
      rw [e1,e2,B0V _ (by simp [B4r])];rfl
set_option maxRecDepth 100000
theorem E0S{c:A1U}(h:B8N c.2.2.2.2.2.1 c.2.2.2.2.2.2.1):D9i c=true:=by
  obtain ⟨h1,h2,h3⟩:=h;have hall:∀ i,i<c.2.2.2.2.2.1.length->C2g c i=true:=fun i hi=>by
    have e:=B1T hi;have hs:=h3 _ (H1 hi);rw [<- e] at hs;unfold D7U at hs;have e0:rd O8 c.2.2.2.2.2.1 (i:Int)=sAt c.2.2.2.2.2.1 i:=rfl;unfold C2g;rw [e0,A0 hs.1,A0 (show 1<=(sAt c.2.2.2.2.2.1 i).1/\(sAt c.2.2.2.2.2.1 i).1<=c.2.2.2.2.2.2.1 from ⟨hs.2.1,hs.2.2.1⟩),A8 (show ¬ (List.length (sAt c.2.2.2.2.2.1 i).2.2.2:Int)>2000 by omega)];have hst:(decide ((sAt c.2.2.2.2.2.1 i).2.1=1)||decide ((sAt c.2.2.2.2.2.1 i).2.1=2))=true:=by
      rcases hs.2.2.2.1 with q | q<;>rw [q]<;>rfl
    rw [hst];have hup:(decide (i=0)||!decide ((sAt c.2.2.2.2.2.1 i).1<=(rd O8 c.2.2.2.2.2.1 ((i:Int)-1)).1))=true:=by
      by_cases h0:i=0
      · rw [A0 h0];rfl
      · have e1:rd O8 c.2.2.2.2.2.1 ((i:Int)-1)=sAt c.2.2.2.2.2.1 (i-1):=by
          unfold sAt;rw [show (i:Int)-1=((i-1:Nat):Int) by omega]
        have hp:=B2n.1 h2 (i-1) i (by simp;omega) (by simpa using hi) (by omega);simp only [A9h] at hp;rw [e1,e,B1T (show i-1<c.2.2.2.2.2.1.length by omega),A8 (Int.not_le.2 hp),L6,Bool.or_true]
    rw [hup];rfl
  have hn:V7 (C2g c) 0 c.2.2.2.2.2.1.length=c.2.2.2.2.2.1.length:=C3c _ _ _ (C1 _) hall (fun h=>absurd h (A50 _));unfold D9i;rw [A0 hn,A0 (show (c.2.2.2.2.2.1.length:Int)<=100 by omega)];rfl
abbrev bsC(enc:F5)(st:BS):A1U:=mkC (st.pre:Int) st.inn enc st.dead st.m
abbrev bsH(enc:F5)(st:BS):I7:=mkH (st.pre:Int) st.inn enc st.dead st.m
theorem C8a{b:List Int}(h:codeF b=1):b.length<=1009:=by
  unfold codeF at h;split at h
  · omega
  · split at h
    · cases h
    · split at h
      · omega
      · cases h
theorem B9h{enc:F5}(he:A1M enc){st:BS}(h:BI st):B21 (bsC enc st)=some (true,()):=by
  have hpre:=h.pre;have hd:=h.dead;have hl:=h.hi.last;have hn:=C8a h.more;have hsl:=h.hi.strs.1;have e5:=D73 (bsC enc st) (by simp only [maxLen];omega);rw [E0S (c:=bsC enc st) h.hi.strs] at e5;have e6:=B2C st.inn h.inb (by omega) 0 (by omega);have e7:=(B3H (b:=st.inn) (a:=0) (by omega)).1;rw [T4,h.more,show ((0:Nat):Int)=0 from rfl] at e7;simp only [B21,C0F,O9,B79 h.hi.g,C8P h.hi.dec,C8P he,bO];rw [e5];rw [A0 (show (0:Int)<=(st.pre:Int)/\(st.pre:Int)<=24 by omega),A0 hl,A0 hd,A8 (show ¬ (st.inn.length:Int)>1100 by omega),e6];simp only [E0,A7,bO,bSl,e7];by_cases h1:st.pre<24
  · have hi:st.inn.length=0:=by rw [h.emp (.inl h1)];rfl
    rw [A0 (show (st.pre:Int)<24 by omega),A8 (show ¬ (st.inn.length:Int)>0 by omega)];simp only [B2,A7];by_cases h2:st.dead>0
    · obtain ⟨g1,g2⟩:=h.gone (by omega)
      have g3:st.m.strs.length=0:=by rw [g1];rfl
      rw [A0 h2,A8 (show ¬ (st.m.strs.length:Int)>0 by omega),A0 g2];rfl
    · rw [A8 h2];rfl
  · rw [A8 (show ¬ (st.pre:Int)<24 by omega)]
    by_cases h2:st.dead>0
    · have hi:st.inn.length=0:=by rw [h.emp (.inr (by omega))];rfl
      obtain ⟨g1,g2⟩:=h.gone (by omega);have g3:st.m.strs.length=0:=by rw [g1];rfl
      rw [A0 h2,A8 (show ¬ (st.inn.length:Int)>0 by omega),A8 (show ¬ (st.m.strs.length:Int)>0 by omega),A0 g2];rfl
    · rw [A8 h2];rfl
theorem C9g(F T:List Int)(h1:F.length<=10000000000)(h2:T.length<=10000000000):A1S [F,T]=some (F++T,()):=by
  have r0:rd (.sl 5 (.int .u8)) ([F,T]:List (List Int)) 0=F:=rfl;have r1:rd (.sl 5 (.int .u8)) ([F,T]:List (List Int)) 1=T:=rfl;have hl:(([F,T]:List (List Int)).length:Int)=2:=rfl;have d0:decide ((0:Int)<2)=true:=rfl;have d1:decide ((0:Int)<=0)=true:=rfl;have d2:decide ((1:Int)<2)=true:=rfl;have d3:decide ((0:Int)<=1)=true:=rfl;have a1:H8 (A0o [F,T]) (0,0,())=some ((F.length:Int)+T.length,()):=by
    rw [A7g (y:=((F.length:Int),1,())) (by
      simp only [A0o,hl,r0,d0,d1,B2,A8r];rw [w64 (n:=(F.length:Int)) (by omega) (by omega),A8 (p:=(F.length:Int)<0) (by omega)];rfl)]
    rw [A7g (y:=((F.length:Int)+T.length,2,())) (by
      simp only [A0o,hl,r1,d2,d3,B2];rw [w64 (n:=(F.length:Int)+T.length) (by omega) (by omega),A8 (p:=(F.length:Int)+T.length<0) (by omega)];rfl)]
    rw [H9];rfl
  have a2:B0i ([]:List Int) ((F.length:Int)+T.length)=some ([],()):=by
    have:(([]:List Int).isEmpty&&decide (0<=(F.length:Int)+T.length)&&decide ((F.length:Int)+T.length<=1000000000000))=true:=by
      rw [A0 (by omega),A0 (by omega)];rfl
    simp only [B0i,this,B2]
  have a3:H8 (A0p [F,T]) (0,[],())=some (F++T,()):=by
    rw [A7g (y:=(1,F,())) (by
      simp only [A0p,hl,r0,d0,d1,B2];rw [gA (by simp;omega)];rfl)]
    rw [A7g (y:=(2,F++T,())) (by
      simp only [A0p,hl,r1,d2,d3,B2];rw [gA (by omega)];rfl)]
    rw [H9];rfl
  simp only [A1S,A2w,a1,B3];rw [show A3t=B0i from rfl,a2];exact a3
def P0:List Int->Nat->Int×Nat×List Int
  | [],p=>(0,p,[])
  | x::xs,p=>if p<24 then (if x=bt priS (p:Int) then P0 xs (p+1) else (1,p,[])) else (0,p,x::xs)
theorem C8b:∀ (xs:List Int) (p:Nat),p<=24->(P0 xs p).2.1<=24/\(P0 xs p).2.2.length<=xs.length/\((P0 xs p).1=0\/(P0 xs p).1=1)/\(∀ x∈(P0 xs p).2.2,x∈xs)/\((P0 xs p).2.1<24->(P0 xs p).2.2 = [])
  | [],p,h=>⟨h,by simp [P0],.inl rfl,fun x hx=>by simp [P0] at hx,fun _=>rfl⟩
  | x::xs,p,h=>by
    unfold P0;by_cases hp:p<24
    · rw [A9 hp]
      by_cases hx:x=bt priS (p:Int)
      · rw [A9 hx]
        obtain ⟨a,b,c,d,e⟩:=C8b xs (p+1) (by omega);exact ⟨a,by simp only [E4];omega,c,fun y hy=>B6 _ (d y hy),e⟩
      · rw [A5 hx]
        exact ⟨h,by simp,.inr rfl,(fun y hy=>by cases hy),fun _=>rfl⟩
    · rw [A5 hp]
      exact ⟨h,C1 _,.inl rfl,fun y hy=>hy,fun q=>absurd q hp⟩
theorem B6Q(inn:List Int)(m:HM):∀ (xs:List Int) (p:Nat),p<=24->A0R ⟨p,inn,0,m⟩ xs=if (P0 xs p).1=0 then A0R ⟨(P0 xs p).2.1,inn,0,m⟩ (P0 xs p).2.2 else B4r (P0 xs p).2.1 m 1
  | [],p,_=>by simp [P0]
  | x::xs,p,h=>by
    have e:A0R ⟨p,inn,0,m⟩ (x::xs)=A0R (A5T ⟨p,inn,0,m⟩ x) xs:=rfl;unfold P0;by_cases hp:p<24
    · rw [A9 hp,e]
      by_cases hx:x=bt priS (p:Int)
      · have e2:A5T ⟨p,inn,0,m⟩ x=⟨p+1,inn,0,m⟩:=by
          unfold A5T;rw [A5 (by simp),A9 hp,A9 hx]
        rw [A9 hx,e2];exact B6Q inn m xs (p+1) (by omega)
      · have e2:A5T ⟨p,inn,0,m⟩ x=B4r p m 1:=by
          unfold A5T;rw [A5 (by simp),A9 hp,A5 hx]
        rw [A5 hx,e2,B0V _ (by simp [B4r])];rfl
    · rw [A5 hp]
      rfl
section
variable (enc:F5)
theorem C69(inn:List Int)(dead:Int)(m:HM):∀ (xs:List Int) (p:Nat),p<=24->Byt xs->xs.length<=1000000000->S5 (mkH (p:Int) inn enc dead m) xs=some ((P0 xs p).2.2,(P0 xs p).1,mkH ((P0 xs p).2.1:Int) inn enc dead m,())
  | [],p,h,_,_=>by
    simp only [S5,A01];rw [H9];simp only [A0P,J2,show decide (((0:Nat):Int)>0)=false from rfl,A7,bSr];rfl
  | x::xs,p,h,hb,hl=>by
    have d1:decide ((((x::xs).length:Nat):Int)>0)=true:=A0 (by simp only [E4];omega);have d2:decide ((0:Int)<(((x::xs).length:Nat):Int))=true:=A0 (by simp only [E4];omega);have d3:decide ((1:Int)<=(((x::xs).length:Nat):Int))=true:=A0 (by simp only [E4];omega);have e0:rd (.int .u8) (x::xs) 0=x:=rfl;have ht:((x::xs).take (x::xs).length).drop 1=xs:=by rw [A9j];rfl
    unfold P0;by_cases hp:p<24
    · have d4:decide ((p:Int)<24)=true:=A0 (by omega)
      have d5:decide ((0:Int)<=(p:Int))=true:=A0 (by omega);have d6:decide ((p:Int)<(priS.size:Int))=true:=A0 (by rw [show priS.size=24 from rfl];omega);rw [A9 hp];by_cases hx:x=bt priS (p:Int)
      · have w1:i64.wrap ((p:Int)+1)=((p+1:Nat):Int):=by rw [w64 (by omega) (by omega)];omega
        rw [A9 hx,<- C69 inn dead m xs (p+1) (by omega) (fun y hy=>hb y (B6 _ hy)) (by simp only [E4] at hl;omega)];simp only [S5,A01]
        conv=>lhs;rw [H9]
        simp only [A0P,d1,d2,d3,d4,d5,d6,B2,bSl,e0,A0 hx,E0,A7,ht,w1]
      · rw [A5 hx]
        simp only [S5,A01];rw [H9];simp only [A0P,d1,d2,d3,d4,d5,d6,B2,bSl,e0,A8 hx,L6,bSr]
    · have d4:decide ((p:Int)<24)=false:=A8 (by omega)
      rw [A5 hp];simp only [S5,A01];rw [H9];simp only [A0P,d1,d4,B2,A7,bSr];rfl
abbrev frL(a:Int)(pre:Int)(inn:List Int)(dead:Int)(m:HM):Int×Int×Int×Bool×Int×Int×Int×Int×List Int×List Int×List B9×List B9×List A3g×List A7t×List Int×Unit:=
  (a,pre,m.g.1,m.g.2.1,m.dec.1,enc.1,m.last,dead,inn,m.g.2.2,m.dec.2,enc.2,m.strs,m.calls,m.out,())
theorem B9i(pre:Int)(inn:List Int)(dead:Int)(b:List Int)(hb:Byt b)(hl:b.length<=1000000000):∀ (k a:Nat) (m:HM),a<=b.length->b.length<a+k->HI m->m.calls.length<=a->m.out.length<=1100*a->
    H8 (A6U A3C A2i G2 b) (frL enc (a:Int) pre inn dead m) =
      some ((C0c k m (b.drop a)).1,mkH pre (if (C0c k m (b.drop a)).1=0 then (C0c k m (b.drop a)).2.2 else inn) enc dead (C0c k m (b.drop a)).2.1,())
  | 0,a,m,ha,hk,_,_,_=>by omega
  | k+1,a,m,ha,hk,hi,hc,ho=>by
    have e1:=B2C b hb (by omega) (a:Int) (by omega);obtain ⟨g1,g2⟩:=B3H ha;rw [H9];simp only [A6U,e1,bO,g1];unfold C0c;rcases C2r (b.drop a) with c | c | c
    · obtain ⟨f1,f2,f3⟩:=g2 c
      have w:=B3I c;have hfi:=C8V (B4i hb a) c;have hfo:=E0P hi hfi;have e2:=D40 pre inn enc dead m hi ⟨by omega,by omega⟩ (A0Q (b.drop a)) hfi;have e2':A2i ((pre,inn,(m.g.1,m.g.2.1,m.g.2.2),(m.dec.1,m.dec.2),(enc.1,enc.2),m.strs,m.last,dead),m.calls,m.out) (A0Q (b.drop a))=some ((frM m (A0Q (b.drop a))).1,mkH pre inn enc dead (frM m (A0Q (b.drop a))).2,()):=e2;rw [c];simp only [show decide (((0:Nat):Int)=1)=false from rfl,show decide (((0:Nat):Int)=2)=false from rfl,A7,f1,f2,e2',bO];rw [A5 (show ¬ (0:Nat)=1 by omega),A5 (show ¬ (0:Nat)=2 by omega)];by_cases hr:(frM m (A0Q (b.drop a))).1=0
      · rw [A0 hr,A5 (show ¬ (frM m (A0Q (b.drop a))).1≠0 by simpa using hr)]
        have ih:=B9i pre inn dead b hb hl k (a+A23 (b.drop a)) (frM m (A0Q (b.drop a))).2 f3 (by omega) (hfo.hi hr) (by have:=hfo.calls;omega) (by have:=hfo.out;omega);rw [L5];simp only [E0,A7];exact ih
      · rw [A8 hr,A9 (show (frM m (A0Q (b.drop a))).1≠0 from hr)]
        simp only [L6,B2];rw [A5 hr]
    · rw [c]
      simp only [show decide (((1:Nat):Int)=1)=true from rfl,B2,J4];rw [A0 (show (0:Int)<=(a:Int) by omega),A0 (show (a:Int)<=(b.length:Int) by omega),A9j,E2,A7h _ (by simp;omega)];rfl
    · rw [c]
      simp only [show decide (((2:Nat):Int)=1)=false from rfl,show decide (((2:Nat):Int)=2)=true from rfl,B2,A7];rw [A5 (show ¬ (2:Nat)=1 by omega),A9 trivial];rfl
theorem D1m(pre:Nat)(inn:List Int)(m:HM)(code:Int)(ho:m.out.length<=100000000000000):A8C (mkH (pre:Int) inn enc 0 m) code=some (bsH enc (B4r pre m code),()):=by
  have e1:=B3F [] m.last 4 (by omega) (by simp);have e2:=B3F ([]++big (B4g m.last) 4) code 4 (by omega) (by simp [A65]);rw [show ((4:Nat):Int)=4 from rfl] at e1 e2;have hg:=D64 m.last code;simp only [A8C,B28,B3v,B3u,e1,bO,e2];rw [A6r _ _ (by simp [A65];omega)];rfl
theorem C6A(he:A1M enc){st:BS}(h:BI st)(hc:st.m.calls = [])(ho:st.m.out = []){b:List Int}(hb:Byt b)(hl:b.length<=900000000) :
    A4t (bsC enc st) b=some (bsC enc (A0R st b),(A0R st b).m.calls,(A0R st b).m.out,()):=by
  have hsl:=h.hi.strs.1;have hdl:=A7C h.hi.dec;have hel:=A7C he;have hgl:=h.hi.g;have hil:=C8a h.more;have hcp:=B8H (bsC enc st) ⟨by simp only;omega,(by rcases hgl with ⟨_,_,q⟩ | ⟨_,_,q⟩;(simp only [q];simp);(simp only;omega)),by simp only;omega,by simp only;omega,by simp only;omega,fun x hx=>by have:=(h.hi.strs.2.2 x hx).2.2.2.2;omega⟩;obtain ⟨pre,inn,dead,m⟩:=st;simp only at hc ho hcp;simp only [A4t,B3w,hcp,bO];have hd:=h.dead;by_cases h0:dead=0
  · subst h0
    have hck:=B9h he h;simp only [bsC] at hck;simp only [show decide ((0:Int)>0)=false from rfl,A7,hck,bO,E0,bSl];have es:=C69 enc inn 0 m b pre h.pre hb (by omega);simp only [mkH,hc,ho] at es;rw [es];simp only [bO];obtain ⟨s1,s2,s3,s4,s5⟩:=C8b b pre h.pre;rw [B6Q inn m b pre h.pre];rcases s3 with s3 | s3
    · rw [s3,C9g inn _ (by simp only at hil;omega) (by omega)]
      simp only [V9,B2,bO,J4,A8A,A89];have hB:Byt (inn++(P0 b pre).2.2):=A3F h.inb fun y hy=>hb y (s4 y hy)
      have hBl:(inn++(P0 b pre).2.2).length<=1000000000:=by rw [A3];simp only at hil;omega
      have el:=B9i enc ((P0 b pre).2.1:Int) inn 0 (inn++(P0 b pre).2.2) hB hBl ((inn++(P0 b pre).2.2).length+1) 0 m (by omega) (by omega) h.hi (by rw [hc];simp) (by rw [ho];simp);simp only [frL,hc,ho] at el;rw [show ((0:Nat):Int)=0 from rfl,T4] at el;rw [el];simp only [bO];have key:A0R ⟨(P0 b pre).2.1,inn,0,m⟩ (P0 b pre).2.2=C8W (P0 b pre).2.1 (C0c ((inn++(P0 b pre).2.2).length+1) m (inn++(P0 b pre).2.2)):=by
        by_cases hp:(P0 b pre).2.1<24
        · have hr:=s5 hp
          rw [hr];have hi0:inn = []:=by
            refine h.emp (.inl ?_);have:pre<=(P0 b pre).2.1:=by
              have:∀ (xs:List Int) (p:Nat),p<=(P0 xs p).2.1:=by
                intro xs
                induction xs with
                | nil=>intro p;exact C1 _
                | cons x xs ih=>
                  intro p;unfold P0;split
                  · split
                    · have:=ih (p+1);omega
                    · exact C1 _
                  · exact C1 _
              exact this b pre
            simp only;omega
          subst hi0;rfl
        · exact C3l _ hp _ (P0 b pre).2.2 inn m (by rw [A3];omega) h.more
      rw [key];have hbi:=(C2s (st:=⟨(P0 b pre).2.1,inn,0,m⟩) (b:=(P0 b pre).2.2) ⟨s1,h.hi,h.inb,h.more,(fun q=>h.emp (by
        rcases q with q | q
        · left
          have:∀ (xs:List Int) (p:Nat),p<=(P0 xs p).2.1:=by
            intro xs
            induction xs with
            | nil=>intro p;exact C1 _
            | cons x xs ih=>
              intro p;unfold P0;split
              · split
                · have:=ih (p+1);omega
                · exact C1 _
              · exact C1 _
          have:=this b pre;simp only at q ⊢;omega
        · exact absurd rfl q)),(fun q=>absurd rfl q),by simp⟩ fun y hy=>hb y (s4 y hy)).2.2
      rw [key] at hbi;unfold C8W at hbi ⊢;generalize C0c ((inn++(P0 b pre).2.2).length+1) m (inn++(P0 b pre).2.2)=R at hbi ⊢;by_cases hR:R.1=0
      · rw [A9 hR,A9 hR,A0 hR]
        rfl
      · rw [A5 hR,A5 hR,A8 hR]
        rw [A5 hR] at hbi;have ee:=D1m enc (P0 b pre).2.1 inn R.2.1 R.1 (by
          simp only [B4r,A3,ho,J2] at hbi;omega)
        simp only [mkH,mkC] at ee;simp only [L6,B2,mkH,mkC,ee,bO]
    · rw [s3]
      simp only [show decide ((1:Int)=0)=false from rfl,A7,bO,L6,B2];have ee:=D1m enc (P0 b pre).2.1 inn m 1 (by rw [ho];simp);simp only [mkH,mkC,hc,ho] at ee;rw [ee];rfl
  · have hp:dead>0:=by simp only at hd;omega
    rw [A0 hp];simp only [B2,bSr];rw [B0V _ h0];simp only [hc,ho]
end
set_option maxRecDepth 100000
theorem C6B(a:List Int)(h:a.length<=maxLen):A6q a a=some (true,()):=by
  simp only [A6q,B40,V9,E0,A7];have e:=E2W (A7B a a) a.length h (fun _=>true) (fun i hi=>by
    have g1:((i:Int)<(a.length:Int)):=by omega
    have g2:(0:Int)<=(i:Int):=by omega
    simp only [A7B,A0 g1,A0 g2,B2,V9,E0,A7]) (by simp [A7B])
  rw [e];simp
theorem D7d(c:P4)(n:Int)(h:Cur c)(hn:0<n/\n<9223372036854775808):∃ b c',B5u c n=some (b,c',())/\Cur c':=by
  obtain ⟨r,c',e,hc,_⟩:=B2D c n h hn;simp only [B5u,C0I,e,B3];exact ⟨_,_,rfl,hc⟩
theorem C1o:Byt prefaceB:=by
  unfold prefaceB;refine A3F ?_ (C0T fun x hx=>by cases hx);intro x hx;simp only [pri,C3,P3,A4f] at hx;omega
set_option maxRecDepth 100000
def newB:BS:=⟨0,[],0,⟨(0,false,[]),(4096,[]),[],0,[],[]⟩⟩
def A3a:F5:=(4096,[])
theorem A3H:A1M A3a:=⟨by decide,by decide,by simp [A3a,szT]⟩
theorem D65:BI newB:=⟨by decide,⟨C8T _,by decide,A3H,.inl ⟨rfl,rfl,rfl⟩,fun x hx=>by cases hx⟩,(fun x hx=>by cases hx),rfl,fun _=>rfl,(fun e=>absurd rfl e),by decide⟩
theorem C9h:B3D=some (bsC A3a newB,()):=rfl
set_option maxRecDepth 100000
def C9i(x y:Nat×Nat):Bool:=Nat.ble x.2 y.2&&Nat.beq (y.1 / 2 ^ (y.2-x.2)) x.1
def D66:List (Nat×Nat)->Bool
  | []=>true
  | x::l=>l.all (fun y=>!C9i x y&&!C9i y x)&&D66 l
def C7A(x:Nat):Nat×Nat:=(coN x,leN x)
def codsL:List (Nat×Nat):=(codesT.zip lensT).map fun c=>(c.1.toNat,c.2.toNat)
theorem D41:D66 codsL=true:=by kernel_rfl
theorem C2t:codsL.length=257:=by unfold codsL;rw [T5,A2H,A3V,A0L];rfl
theorem B9F{x:Nat}(h:x<codsL.length):codsL[x]=C7A x:=by
  have h1:x<codesT.length:=by rw [A3V];rw [C2t] at h;exact h
  have h2:x<lensT.length:=by rw [A0L];rw [C2t] at h;exact h
  have hc:codsL=(codesT.zip lensT).map fun c=>(c.1.toNat,c.2.toNat):=rfl
  rw [List.getElem_of_eq hc h];unfold C7A coN leN;simp [D5,C5 h1,C5 h2,A9h,List.getElem_zip]
theorem C6C:∀ {l:List (Nat×Nat)},D66 l=true->l.Pairwise fun x y=>C9i x y=false/\C9i y x=false
  | [],_=>List.Pairwise.nil
  | x::l,h=>by
    simp only [D66,B5,C4,A0J] at h;exact List.Pairwise.cons (fun y hy=>h.1 y hy) (C6C h.2)
theorem D67{x y:Nat}(hx:x<257)(hy:y<257)(h:C9i (C7A x) (C7A y)=true):x=y:=by
  have hp:=B2n.1 (C6C D41);have hl:=C2t;rcases C2H x y with q | q | q
  · have:=hp x y (by omega) (by omega) q
    rw [B9F,B9F] at this;rw [this.1] at h;cases h
  · exact q
  · have:=hp y x (by omega) (by omega) q
    rw [B9F,B9F] at this;rw [this.2] at h;cases h
theorem D1n:∀ (k i:Nat) (c n:Int),fdC k i c n=none->∀ j,i<=j->j<i+k->¬ (codesT.getD j 0=c/\lensT.getD j 0=n)
  | 0,_,_,_,_,j,h1,h2=>by omega
  | k+1,i,c,n,h,j,h1,h2=>by
    unfold fdC at h;by_cases hc:codesT.getD i 0=c/\lensT.getD i 0=n
    · rw [A9 hc] at h;cases h
    · rw [A5 hc] at h
      by_cases hj:j=i
      · subst hj;exact hc
      · exact D1n k (i+1) c n h j (by omega) (by omega)
theorem D7e{x:Nat}(hx:x<257):A7j (coN x) (leN x)=some x:=by
  have hf:=C4e hx;have hr:=B4m hx;cases h:A7j (coN x) (leN x) with
  | none=>
    exfalso;refine D1n 257 0 _ _ h x (by omega) (by omega) ⟨?_,?_⟩
    · unfold coN;omega
    · unfold leN;omega
  | some j=>
    obtain ⟨h1,h2,h3⟩:=A9R h;have:C9i (C7A j) (C7A x)=true:=by
      unfold C9i C7A;rw [h2,h3];simp
    rw [D67 h1 hx this]
theorem D42{x n:Nat}(hx:x<257)(hn:n<leN x):A7j (coN x / 2 ^ (leN x-n)) n=none:=by
  cases h:A7j (coN x / 2 ^ (leN x-n)) n with
  | none=>rfl
  | some j=>
    exfalso;obtain ⟨h1,h2,h3⟩:=A9R h;have:C9i (C7A j) (C7A x)=true:=by
      unfold C9i C7A;rw [h2,h3];simp;omega
    have:=D67 h1 hx this;subst this;omega
theorem D1o(v n:Nat)(x:Bool)(hx:x=v.testBit n):2*(v / 2 ^ (n+1))+x.toNat=v / 2 ^ n:=by
  subst hx;have h1:v / 2 ^ (n+1)=v / 2 ^ n / 2:=by rw [A4U,Nat.div_div_eq_div_mul]
  rw [h1,A3O];have:=Nat.mod_two_eq_zero_or_one (v / 2 ^ n);rcases this with e | e
  · rw [e];simp;omega
  · rw [e];simp;omega
theorem D1p{x:Nat}(hx:x<256)(out:List Int)(rest:List Bool):∀ k,k<leN x->A1P R2 (S1 (k+1) (coN x)++rest) (coN x / 2 ^ (k+1),leN x-(k+1),out)=A1P R2 rest (0,0,out ++ [(x:Int)])
  | 0,hk=>by
    have hr:=B4m (show x<257 by omega);have hl:leN x<=30:=by unfold leN;omega
    have e1:=D1o (coN x) 0 _ rfl;simp only [Nat.pow_zero,Nat.div_one] at e1;have e2:leN x-1+1=leN x:=by omega
    have e3:=D7e (show x<257 by omega);simp only [S1,D4,G0,A1P];have e:R2 (coN x / 2 ^ (0+1),leN x-(0+1),out) ((coN x).testBit 0)=some (0,0,out ++ [(x:Int)]):=by
      unfold R2;simp only [e1,E1,e2,e3];rw [A5 (by omega),A5 (by omega)]
    rw [e]
  | k+1,hk=>by
    have hr:=B4m (show x<257 by omega);have hl:leN x<=30:=by unfold leN;omega
    have e1:=D1o (coN x) (k+1) _ rfl;have e2:leN x-(k+1+1)+1=leN x-(k+1):=by omega
    have e3:=D42 (show x<257 by omega) (show leN x-(k+1)<leN x by omega);rw [show leN x-(leN x-(k+1))=k+1 by omega] at e3;rw [show S1 (k+1+1) (coN x)=(coN x).testBit (k+1)::S1 (k+1) (coN x) from rfl];simp only [D4,A1P];have e:R2 (coN x / 2 ^ (k+1+1),leN x-(k+1+1),out) ((coN x).testBit (k+1))=some (coN x / 2 ^ (k+1),leN x-(k+1),out):=by
      unfold R2;simp only [e1,e2,e3];rw [A5 (by omega)]
    rw [e];exact D1p hx out rest k (by omega)
theorem E2C{x:Nat}(hx:x<256)(out:List Int)(rest:List Bool):A1P R2 (cod x++rest) (0,0,out)=A1P R2 rest (0,0,out ++ [(x:Int)]):=by
  have hr:=B4m (show x<257 by omega);have hf:=(C4e (show x<257 by omega)).2;obtain ⟨k,hk⟩:∃ k,leN x=k+1:=⟨leN x-1,by unfold leN;omega⟩;have:=D1p hx out rest k (by omega);rw [<- hk,Nat.div_eq_of_lt hf,Nat.sub_self] at this;exact this
theorem D1q:∀ (l:List Int),Byt l->∀ (out:List Int) (rest:List Bool),A1P R2 (A0q (B2F l)++rest) (0,0,out)=A1P R2 rest (0,0,out++l)
  | [],_,out,rest=>by simp [B2F,A0q]
  | x::l,hb,out,rest=>by
    have hx:=hb x A6;have ih:=D1q l (fun y hy=>hb y (B6 _ hy)) (out ++ [x]) rest;have e:A0q (B2F (x::l))=cod x.toNat++A0q (B2F l):=by simp [B2F,A0q]
    rw [e,B1,E2C (by omega),A1H hx.1,ih,B1];rfl
theorem D7f:∀ j,j<8->A7j (2 ^ j-1) j=none:=by
  intro j hj;have:(List.range 8).all (fun j=>(A7j (2 ^ j-1) j).isNone)=true:=by kernel_rfl
  have:=C4.1 this j (A1F.2 hj);simpa using this
theorem E0T(out:List Int):∀ p,p<8->A1P R2 (List.replicate p true) (0,0,out)=((2 ^ p-1,p,out),false):=by
  intro p hp
  induction p with
  | zero=>rfl
  | succ p ih=>
    rw [List.replicate_succ',C5v,ih (by omega)];simp only [A7,A1P];have e1:2*(2 ^ p-1)+true.toNat=2 ^ (p+1)-1:=by
      have:=W5 p;rw [A4U];simp;omega
    have e:R2 (2 ^ p-1,p,out) true=some (2 ^ (p+1)-1,p+1,out):=by
      unfold R2;simp only [e1,D7f (p+1) hp];rw [A5 (by omega)]
    rw [e]
theorem D43(s:X0):C9S s s.size=B2F (bytesOf s):=by
  conv=>lhs;rw [<- B00 s]
  exact D1R (B8C s)
theorem D1r(s:X0):A7D (A22 s)=(s,true,()):=by
  obtain ⟨c1,p,c2,c3⟩:=C0U s;rw [D43] at c3;have e:A1P R2 (O5 (A22 s)) (0,0,[])=((2 ^ p-1,p,bytesOf s),false):=by
    rw [c3,D1q _ (B8C s),G0];exact E0T _ p c2
  have hu:unH (A22 s)=bytesOf s:=by unfold unH;rw [e]
  have hok:C9U (A22 s)=true:=by
    rw [<- (E0B (A22 s) c1).1,hu,B00]
  unfold A7D;rw [A9 hok,hu,B00]
theorem D1s{b:List Int}:∀ (k w p n i:Nat) (rest:List Int),w<128 ^ (k+1)->n+w*2 ^ (7*i)<=16777216->b.drop p=more k (w:Int)++rest->gpL b (k+1) p n i=(((n+w*2 ^ (7*i):Nat):Int),((p+(more k (w:Int)).length:Nat):Int),true,())
  | 0,w,p,n,i,rest,hw,hn,hd=>by
    have hw':w<128:=by simpa using hw
    have e0:more 0 (w:Int) = [(w:Int)]:=by simp only [more];rw [C1h (by omega)]
    rw [e0] at hd ⊢;have hlt:p<b.length:=by
      have:=J7 List.length hd;simp at this;omega
    have hb:byN b p=w:=by
      unfold byN;have:b.getD p 0=(b.drop p).getD 0 0:=by simp [List.getD]
      rw [this,hd];simp
    unfold gpL;have hg:gpN b p n i=n+w*2 ^ (7*i):=by unfold gpN;rw [hb,A1e hw']
    rw [A9 hlt,hb,A9 hw',hg,A5 (by omega)];simp
  | k+1,w,p,n,i,rest,hw,hn,hd=>by
    have hlt:p<b.length:=by
      have:=J7 List.length hd;have h2:0<(more (k+1) (w:Int)).length:=by simp only [more];split<;>simp
      simp at this;omega
    by_cases hb:(w:Int)>127
    · have e1:A0V .i64 (w:Int) 127=((w % 128:Nat):Int):=by
        have hw2:w<9223372036854775808:=by
          have:w<=w*2 ^ (7*i):=A7l _ (W5 _);omega
        rw [show (127:Int)=((127:Nat):Int) from rfl,B4n hw2 (by omega),show (127:Nat)=2 ^ 7-1 from rfl,A06]
      have e2:u8.wrap (bOr .i64 (A0V .i64 (w:Int) 127) 128)=((w % 128+128:Nat):Int):=by
        have hm:w % 128<2 ^ 7:=A2r _ (by decide);rw [e1,show (128:Int)=((128:Nat):Int) from rfl,C1e (by omega) (by omega),Nat.or_comm];have:=V2 hm 1;rw [show 2 ^ 7*1=128 from rfl] at this;rw [<- this,C1h (by omega)];omega
      have e3:((w:Int)).fdiv 128=((w / 128:Nat):Int):=by rw [A1G _ (by omega)];omega
      have e0:more (k+1) (w:Int)=((w % 128+128:Nat):Int)::more k ((w / 128:Nat):Int):=by
        simp only [more];rw [A9 hb,e2,e3]
      rw [e0] at hd ⊢;have hby:byN b p=w % 128+128:=by
        unfold byN;have:b.getD p 0=(b.drop p).getD 0 0:=by simp [List.getD]
        rw [this,hd];simp;omega
      have hd2:b.drop (p+1)=more k ((w / 128:Nat):Int)++rest:=by
        have:b.drop (p+1)=(b.drop p).drop 1:=by rw [L5]
        rw [this,hd];rfl
      have hg:gpN b p n i=n+w % 128*2 ^ (7*i):=by unfold gpN;rw [hby];congr 2;omega
      have hs:n+w % 128*2 ^ (7*i)+w / 128*2 ^ (7*(i+1))=n+w*2 ^ (7*i):=by
        have h7:2 ^ (7*(i+1))=128*2 ^ (7*i):=by rw [show 7*(i+1)=7+7*i by omega,A5f]
        rw [h7,<- Nat.mul_assoc,M1,<- O2]
        congr 2
        omega
      have ih:=D1s k (w / 128) (p+1) (n+w % 128*2 ^ (7*i)) (i+1) rest (by rw [A4U] at hw;omega) (by omega) hd2;rw [gpL,A9 hlt,A5 (by omega),hg,ih,hs];simp only [E4];rw [show p+1+(more k ((w / 128:Nat):Int)).length=p+((more k ((w / 128:Nat):Int)).length+1) by omega]
    · have hw':w<128:=by omega
      have e0:more (k+1) (w:Int) = [(w:Int)]:=by simp only [more];rw [A5 hb,C1h (by omega)]
      rw [e0] at hd ⊢;have hby:byN b p=w:=by
        unfold byN;have:b.getD p 0=(b.drop p).getD 0 0:=by simp [List.getD]
        rw [this,hd];simp
      rw [gpL];have hg:gpN b p n i=n+w*2 ^ (7*i):=by unfold gpN;rw [hby,A1e hw']
      rw [A9 hlt,hby,A9 hw',hg,A5 (by omega)];simp
theorem B6R{b:List Int}{p m F v:Nat}{rest:List Int}(hm:4<=m/\m<=7)(hF:F % 2 ^ m=0/\F+2 ^ m<=256)(hv:v<=16777216)(hd:b.drop p=pfx ((2 ^ m-1:Nat):Int) (F:Int) (v:Int)++rest) :
    E6 b p m=((v:Int),((p+(pfx ((2 ^ m-1:Nat):Int) (F:Int) (v:Int)).length:Nat):Int),true,())/\F<=byN b p/\byN b p<F+2 ^ m:=by
  have h16:2 ^ 4<=2 ^ m:=C1g hm.1;have h128:2 ^ m<=2 ^ 7:=C1g hm.2;have hor:∀ x:Nat,x<2 ^ m->bOr .i64 (F:Int) (x:Int)=((F+x:Nat):Int):=fun x hx=>by
    have:=V2 hx (F / 2 ^ m);have hq:2 ^ m*(F / 2 ^ m)=F:=by have:=A38 F (2 ^ m);omega
    rw [hq] at this;rw [C1e (by omega) (by omega),<- this]
  have hlt:p<b.length:=by
    have:=J7 List.length hd;have h2:0<(pfx ((2 ^ m-1:Nat):Int) (F:Int) (v:Int)).length:=by unfold pfx;split<;>simp
    simp at this;omega
  have hby:b.getD p 0=(b.drop p).getD 0 0:=by simp [List.getD]
  by_cases hb:(v:Int)<((2 ^ m-1:Nat):Int)
  · have e0:pfx ((2 ^ m-1:Nat):Int) (F:Int) (v:Int) = [((F+v:Nat):Int)]:=by
      unfold pfx;rw [A9 hb,hor v (by omega),C1h (by omega)]
    rw [e0] at hd ⊢;have hbN:byN b p=F+v:=by unfold byN;rw [hby,hd];simp;omega
    have hmod:(F+v) % 2 ^ m=v:=by rw [Nat.add_mod,hF.1,E1,Nat.mod_mod,A1e (by omega)]
    unfold E6;rw [A9 hlt,hbN,hmod,A9 (by omega)];exact ⟨by simp,by omega,by omega⟩
  · have e0:pfx ((2 ^ m-1:Nat):Int) (F:Int) (v:Int)=((F+(2 ^ m-1):Nat):Int)::more 3 ((v-(2 ^ m-1):Nat):Int):=by
      unfold pfx;rw [A5 hb,hor _ (by omega),C1h (by omega),show (v:Int)-((2 ^ m-1:Nat):Int)=((v-(2 ^ m-1):Nat):Int) by omega]
    rw [e0] at hd ⊢;have hbN:byN b p=F+(2 ^ m-1):=by unfold byN;rw [hby,hd];simp;omega
    have hmod:(F+(2 ^ m-1)) % 2 ^ m=2 ^ m-1:=by rw [Nat.add_mod,hF.1,E1,Nat.mod_mod,A1e (by omega)]
    have hd2:b.drop (p+1)=more 3 ((v-(2 ^ m-1):Nat):Int)++rest:=by
      have:b.drop (p+1)=(b.drop p).drop 1:=by rw [L5]
      rw [this,hd];rfl
    have ih:=D1s 3 (v-(2 ^ m-1)) (p+1) (2 ^ m-1) 0 rest (by omega) (by simp;omega) hd2;unfold E6;rw [A9 hlt,hbN,hmod,A5 (by omega),ih];refine ⟨?_,by omega,by omega⟩;have e3:(2 ^ m-1)+(v-(2 ^ m-1))*2 ^ (7*0)=v:=by simp;omega
    rw [e3];simp only [E4];rw [show p+1+(more 3 ((v-(2 ^ m-1):Nat):Int)).length=p+((more 3 ((v-(2 ^ m-1):Nat):Int)).length+1) by omega]
theorem B4s{b A rest:List Int}{p:Nat}(h:b.drop p=A++rest):b.drop (p+A.length)=rest:=by
  rw [<- L5,h,A0U]
theorem D1t{b A rest:List Int}{p:Nat}(h:b.drop p=A++rest):B19 b p A.length=A:=by
  unfold B19;rw [A0T,h];simp
theorem B8Q{b:List Int}{p:Nat}{s:X0}{rest:List Int}(hs:s.size<=4000)(hd:b.drop p=B6M s++rest):T0 b p=(s,((p+(B6M s).length:Nat):Int),true,()):=by
  have hblen:∀ {q:Nat} {A R:List Int},b.drop q=A++R->q<=b.length->q+A.length<=b.length:=fun {q A R} h hq=>by
    have:=J7 List.length h;simp at this;omega
  have hp:p<=b.length:=by
    rcases C2I b.length p with h | h
    · exfalso
      rw [S7 (by omega)] at hd;have h0:=J7 List.length hd;have:0<(B6M s).length:=by
        unfold B6M;have h2:∀ M F v,0<(pfx M F v).length:=fun M F v=>by unfold pfx;split<;>simp
        split
        · have:=h2 127 128 ((A22 s).length:Int);simp only [A3];omega
        · have:=h2 127 0 (s.size:Int);simp only [A3];omega
      simp at h0;omega
    · exact h
  unfold B6M at hd ⊢;by_cases hh:(A22 s).length<s.size
  · rw [A9 hh] at hd ⊢
    rw [B1] at hd;obtain ⟨e1,e2,e3⟩:=B6R (m:=7) (F:=128) (v:=(A22 s).length) (by omega) (by decide) (by omega) hd;have hd2:=B4s hd;have hl1:=hblen hd hp;have hl2:=hblen hd2 hl1;have hp2:=D1t hd2;rw [show ((2 ^ 7-1:Nat):Int)=127 from rfl,show ((128:Nat):Int)=128 from rfl] at e1;unfold T0;rw [e1];simp only [E2,N8,J1];rw [hp2,D1r];rw [A5 (by omega),A5 (by omega),A5 (by omega)];simp only [N8,J1];rw [A5 (by omega)];simp only [A3];rw [show ((p+(pfx 127 128 ((A22 s).length:Int)).length:Nat):Int)+((A22 s).length:Int)=((p+((pfx 127 128 ((A22 s).length:Int)).length+(A22 s).length):Nat):Int) by omega]
  · rw [A5 hh] at hd ⊢
    rw [B1] at hd;obtain ⟨e1,e2,e3⟩:=B6R (m:=7) (F:=0) (v:=s.size) (by omega) (by decide) (by omega) hd;have hd2:=B4s hd;have hl1:=hblen hd hp;have hl2:=hblen hd2 hl1;have hp2:=D1t hd2;have hbl:(bytesOf s).length=s.size:=bytesOf_length s;rw [hbl] at hp2 hl2;rw [show ((2 ^ 7-1:Nat):Int)=127 from rfl,show ((0:Nat):Int)=0 from rfl] at e1;unfold T0;rw [e1];simp only [E2,N8,J1];rw [hp2,A5 (by omega),A5 (by omega),A9 (by omega),B00];simp only [A3,hbl];rw [show ((p+(pfx 127 0 (s.size:Int)).length:Nat):Int)+(s.size:Int)=((p+((pfx 127 0 (s.size:Int)).length+s.size):Nat):Int) by omega]
set_option maxRecDepth 100000
theorem C6D(all:List B9)(f:B9):∀ k:Nat,k<=all.length->B8E all f k≠0->∃ j:Nat,B8E all f k=(j:Int)+1/\j<all.length/\(rd C8 all (j:Int)).1.toList=f.1.toList
  | 0,_,h=>absurd rfl h
  | k+1,hk,h=>by
    simp only [B8E] at h ⊢;by_cases hb:B8E all f k=0
    · rw [A9 hb] at h ⊢
      by_cases hq:((rd C8 all (k:Int)).1.toList == f.1.toList)=true
      · rw [A9 hq]
        exact ⟨k,rfl,by omega,by simpa using hq⟩
      · rw [A5 hq] at h;exact absurd rfl h
    · rw [A5 hb]
      exact C6D all f k (by omega) hb
theorem toList_inj{a b:X0}(h:a.toList=b.toList):a=b:=D5a h
theorem C6E{all:List B9}{f:B9}(h:(A42 all f).2=true):∃ j:Nat,(A42 all f).1=(j:Int)+1/\j<all.length/\rd C8 all (j:Int)=f:=by
  unfold A42 at h ⊢;by_cases hl:V7 (exa all f) 0 all.length<all.length
  · rw [A9 hl] at h ⊢
    refine ⟨_,rfl,hl,?_⟩;have hf:=B6I (exa all f) all.length 0 (by omega);simp only [exa,Bool.not_eq_false',eqB,Bool.and_true,B5,I8] at hf;exact Prod.ext hf.1 hf.2
  · rw [A5 hl] at h;cases h
theorem D44{all:List B9}{f:B9}(h:(A42 all f).1≠0):∃ j:Nat,(A42 all f).1=(j:Int)+1/\j<all.length/\(rd C8 all (j:Int)).1=f.1:=by
  cases hb:(A42 all f).2 with
  | true=>
    obtain ⟨j,e1,e2,e3⟩:=C6E hb;exact ⟨j,e1,e2,by rw [e3]⟩
  | false=>
    unfold A42 at h hb ⊢;by_cases hl:V7 (exa all f) 0 all.length<all.length
    · rw [A9 hl] at hb;cases hb
    · rw [A5 hl] at h ⊢
      obtain ⟨j,e1,e2,e3⟩:=C6D all f all.length (C1 _) h;exact ⟨j,e1,e2,toList_inj e3⟩
theorem D1u{t:F5}{j:Nat}(h:j<(firstT++t.2).length):A2p t ((j:Int)+1)=(rd C8 (firstT++t.2) (j:Int),true,()):=by
  have hF:=A9P;rw [A3,hF] at h;unfold A2p;by_cases h1:j<61
  · rw [A9 (by omega),A9 (by omega),show (j:Int)+1-1=(j:Int) by omega,E23 (by omega)]
  · rw [A5 (by omega),A5 (by omega),E24 (F:=firstT) (T:=t.2) (k:=j) (i:=(j:Int)+1-62) (by omega) (by omega)]
def B0W(q:Int):Int×Int:=if q=1 then (63,64) else (15,16)
noncomputable def C0d(t:F5)(f:B9)(q:Int):List Int:=
  if (A42 (firstT++t.2) f).2=true/\q≠3 then pfx 127 128 (A42 (firstT++t.2) f).1
  else pfx (B0W q).1 (B0W q).2 (A42 (firstT++t.2) f).1++((if (A42 (firstT++t.2) f).1=0 then B6M f.1 else [])++B6M f.2)
noncomputable def C3u(t:F5)(f:B9)(q:Int):F5:=if (A42 (firstT++t.2) f).2=true/\q≠3 then t else if q=1 then C9W t f else t
theorem B4t{t:F5}{f:B9}{q:Int}(hq:q=1\/q=3)(ht:A1M t)(h1:f.1.size<=10000)(h2:f.2.size<=10000){b:List Int}(hb:b.length<=1000000000) :
    A3R t b f q=some (b++C0d t f q,C3u t f q,())/\A1M (C3u t f q)/\(C0d t f q).length<=15+f.1.size+f.2.size/\Byt (C0d t f q):=by
  have hl:=A7C ht;have hr:=C8J (firstT++t.2) f;have hF:=A9P;rw [A3] at hr;have hfi:=C5p t f (by omega);have ha:=C9a ht h1 h2;have hs1:=D1F f.1;have hs2:=D1F f.2;unfold C0d C3u;simp only [A3R,B3l,hfi,bO];generalize A42 (firstT++t.2) f=w at *
  obtain ⟨j,found⟩:=w;simp only at hr ⊢;by_cases hc:found=true/\q≠3
  · obtain ⟨rfl,hq3⟩:=hc
    have e:=(D1D j b (by omega) (by omega) (by omega)).2;rw [A9 ⟨rfl,hq3⟩,A9 ⟨rfl,hq3⟩];have hpl:=B9E 127 128 j;refine ⟨?_,ht,by omega,C4c _ _ _⟩;simp only [A8 hq3,B2,L6,e,bO,bSr]
  · rw [A5 hc,A5 hc]
    obtain ⟨n,hP,hM,hT⟩:∃ n:Int,Pf n (B0W q).2 (B0W q).1/\C0B q=some (n,(B0W q).2,())/\(if q=1 then C9W t f else t)=(bif decide (q=1) then C9W t f else t):=by
      rcases hq with rfl | rfl
      · exact ⟨6,E1v,rfl,rfl⟩
      · exact ⟨4,E1w,rfl,rfl⟩
    have hsk:(bif found then bif (!decide (q=3)) then (B3 (A3Q b 7 128 j) fun c28=>some (.inr (c28.1,t,()))) else some (.inl ()) else some (.inl ()))=some (Sum.inl (β:=List Int×F5×Unit) ()):=by
      cases found with
      | false=>rfl
      | true=>
        have:q=3:=Classical.byContradiction fun h=>hc ⟨rfl,h⟩
        rw [this];rfl
    have hpl:=B9E (B0W q).1 (B0W q).2 j;have hpb:=C4c (B0W q).1 (B0W q).2 j;rw [hsk];simp only [bSl,hM,bO,(hP j b (by omega) (by omega) (by omega)).2];generalize pfx (B0W q).1 (B0W q).2 j=p at *
    have hname:(bif (decide (j=0)) then (B3 (A6k (b++p) f.1) fun c56=>some (c56.1,())) else some (b++p,()))=some (b++(p++(if j=0 then B6M f.1 else [])),()):=by
      by_cases hj:j=0
      · rw [A0 hj,A9 hj,B8D _ _ (by simp only [A3];omega) (by omega)]
        simp only [B2,bO,B1]
      · rw [A8 hj,A5 hj,E7];rfl
    have hnl:(if j=0 then B6M f.1 else []).length<=f.1.size+5:=by split;exact hs1;simp
    have hnb:Byt (if j=0 then B6M f.1 else []):=by split;exact D1G _;exact fun x hx=>by cases hx
    rw [hname];simp only [bO];rw [B8D _ _ (by simp only [A3];omega) (by omega)];simp only [bO,B1];refine ⟨?_,?_,by simp only [A3];omega,A3F hpb (A3F hnb (D1G _))⟩
    · rcases hq with rfl | rfl
      · rw [A9 rfl]
        simp only [V9,B2,ha.1,bO]
      · rfl
    · rcases hq with rfl | rfl
      · rw [A9 rfl];exact ha.2
      · exact ht
theorem E0U{t:F5}{f:B9}{q:Int}(hq:q=1\/q=3)(ht:A1M t)(h1:f.1.size<=4000)(h2:f.2.size<=4000){b rest:List Int}{p:Nat}{l:List B9}(most:Int)(hd:b.drop p=C0d t f q++rest) :
    B42 b most t p l=B0T (C3u t f q) (p+(C0d t f q).length) l f:=by
  have hl:=A7C ht;have hr:=C8J (firstT++t.2) f;have hF:=A9P;have hlen:(firstT++t.2).length=61+t.2.length:=by rw [A3,hF]
  rw [hlen] at hr;obtain ⟨n,hn⟩:∃ n:Nat,(A42 (firstT++t.2) f).1=(n:Int):=⟨(A42 (firstT++t.2) f).1.toNat,by omega⟩;unfold C0d C3u at *
  unfold B42;by_cases hc:(A42 (firstT++t.2) f).2=true/\q≠3
  · rw [A9 hc] at hd ⊢
    rw [A9 hc];obtain ⟨j,j1,j2,j3⟩:=C6E hc.1;have hf:=D1u j2;rw [<- j1,j3] at hf;rw [hn] at hd hf ⊢;obtain ⟨e1,e2,e3⟩:=B6R (m:=7) (F:=128) (v:=n) (by omega) (by decide) (by omega) hd;rw [show ((2 ^ 7-1:Nat):Int)=127 from rfl,show ((128:Nat):Int)=128 from rfl] at e1;rw [A9 e2,e1];simp only [N8,J1,hf,E2]
  · rw [A5 hc] at hd ⊢
    rw [A5 hc];rw [hn,B1] at hd;have key:∀ (m F:Nat),4<=m/\m<=7->F % 2 ^ m=0/\F+2 ^ m<=256->((2 ^ m-1:Nat):Int)=(B0W q).1->((F:Nat):Int)=(B0W q).2->
        A6W t b p m=(0,f,p+(pfx (B0W q).1 (B0W q).2 (n:Int)++((if (n:Int)=0 then B6M f.1 else [])++B6M f.2)).length)/\F<=byN b p/\byN b p<F+2 ^ m:=by
      intro m F hm hFm hM1 hM2;rw [<- hM1,<- hM2] at hd ⊢;obtain ⟨e1,e2,e3⟩:=B6R hm hFm (by omega) hd;have hd1:=B4s hd;refine ⟨?_,e2,e3⟩;unfold A6W;rw [e1];simp only [N8,J1,E2];generalize pfx ((2 ^ m-1:Nat):Int) (F:Int) (n:Int)=A at *
      by_cases h0:(n:Int)=0
      · rw [A9 h0]
        rw [A9 h0,B1] at hd1;rw [A9 h0];have g1:=B8Q h1 hd1;have hd2:=B4s hd1;have g2:=B8Q h2 hd2;rw [g1];simp only [N8,J1,E2];rw [g2];simp only [N8,J1,E2,A3,M1]
      · rw [A5 h0]
        rw [A5 h0,G0] at hd1;rw [A5 h0];obtain ⟨j,j1,j2,j3⟩:=D44 (all:=firstT++t.2) (f:=f) (by rw [hn];exact h0);have hf:=D1u j2;rw [<- j1,hn] at hf;have g2:=B8Q h2 hd1;rw [hf,g2];simp only [N8,J1,E2,G0,A3,M1,j3]
    rw [hn];rcases hq with rfl | rfl
    · obtain ⟨k1,k2,k3⟩:=key 6 64 (by omega) (by decide) rfl rfl
      rw [A5 (by omega),A9 (by omega),k1];simp only [J4]
    · obtain ⟨k1,k2,k3⟩:=key 4 16 (by omega) (by decide) rfl rfl
      rw [A5 (by omega),A5 (by omega),A5 (by omega),k1];simp only [J4];rfl
abbrev nAuth:X0:=⟨#[97,117,116,104,111,114,105,122,97,116,105,111,110]⟩
def A6S(f:B9):Int:=if (f.1.toList == nAuth.toList)=true then 3 else 1
theorem B4u(f:B9):A6S f=1\/A6S f=3:=by unfold A6S;split<;>simp
noncomputable def B7M:F5->List B9->F5
  | t,[]=>t
  | t,f::fs=>B7M (C3u t f (A6S f)) fs
noncomputable def A4M:F5->List B9->List Int
  | _,[]=> []
  | t,f::fs=>C0d t f (A6S f)++A4M (C3u t f (A6S f)) fs
def FsI(fs:List B9):Prop:=∀ f∈fs,f.1.size<=4000/\f.2.size<=4000
theorem C6F:∀ {fs:List B9} {t:F5},A1M t->FsI fs->A1M (B7M t fs)/\Byt (A4M t fs)
  | [],t,ht,_=>⟨ht,fun x hx=>by cases hx⟩
  | f::fs,t,ht,hf=>by
    obtain ⟨h1,h2⟩:=hf f A6;obtain ⟨_,a,_,c⟩:=B4t (B4u f) ht (K8 h1 (by decide)) (K8 h2 (by decide)) (b:= []) (by simp);obtain ⟨d,e⟩:=C6F (fs:=fs) a fun x hx=>hf x (B6 _ hx)
    exact ⟨d,A3F c e⟩
theorem D68{b:List Int}(most:Int):∀ {fs:List B9} {t:F5} {p:Nat} {l:List B9} (k:Nat),A1M t->FsI fs->l.length+fs.length<=100->b.drop p=A4M t fs->p<=b.length->b.length<=p+k->gfM b most k t p l=(0,B7M t fs,l++fs)
  | [],t,p,l,k,ht,hf,hl,hd,hp,hk=>by
    have:b.length=p:=by
      have h:=J7 List.length hd;simp only [A4M,C9,J2] at h;omega
    rw [E7];cases k with
    | zero=>rfl
    | succ k=>rw [gfM,A5 (by omega)];rfl
  | f::fs,t,p,l,k,ht,hf,hl,hd,hp,hk=>by
    obtain ⟨h1,h2⟩:=hf f A6;simp only [E4] at hl;obtain ⟨_,a,_,c⟩:=B4t (B4u f) ht (K8 h1 (by decide)) (K8 h2 (by decide)) (b:= []) (by simp);have hd':b.drop p=C0d t f (A6S f)++A4M (C3u t f (A6S f)) fs:=hd;have e1:=E0U (B4u f) ht h1 h2 (l:=l) most hd';have hpos:0<(C0d t f (A6S f)).length:=by
      have h2:∀ M F v,0<(pfx M F v).length:=fun M F v=>by unfold pfx;split<;>simp
      unfold C0d;split
      · exact h2 _ _ _
      · have:=h2 (B0W (A6S f)).1 (B0W (A6S f)).2 (A42 (firstT++t.2) f).1
        simp only [A3];omega
    have hlen:b.length-p=(C0d t f (A6S f)).length+(A4M (C3u t f (A6S f)) fs).length:=by
      have h:=J7 List.length hd';simpa using h
    obtain ⟨k,rfl⟩:∃ j,k=j+1:=⟨k-1,by omega⟩;have e2:B0T (C3u t f (A6S f)) (p+(C0d t f (A6S f)).length) l f=(0,C3u t f (A6S f),p+(C0d t f (A6S f)).length,l ++ [f]):=by
      unfold B0T;rw [A5 (by omega)]
    rw [gfM,A9 (by omega),e1,e2];simp only [J4];rw [D68 most k a (fun x hx=>hf x (B6 _ hx)) (by simp;omega) (B4s hd') (by omega) (by omega)];simp [B7M]
theorem C3m{t:F5}(ht:A1M t){fs:List B9}(hf:FsI fs)(hl:fs.length<=100)(most:Int):A0G t most (A4M t fs)=(fs,B7M t fs,0,()):=by
  have e:=D68 (b:=A4M t fs) most (p:=0) (l:= []) (A4M t fs).length ht hf (by simpa using hl) (by simp) (by omega) (by omega);unfold A0G;rw [e];simp
theorem D7g{fs:List B9}{k:Nat}{T:F5}{o:List Int}{f:B9}{U:F5}{V:List Int}(a1:(k:Int)<(fs.length:Int))(a2:(0:Int)<=(k:Int))(a3:rd C8 fs (k:Int)=f)(w1:i64.wrap ((k:Int)+1)=((k+1:Nat):Int))
    (p1:A3R (T.1,T.2) o f (A6S f)=some (V,U,())) :
    A4a A3R fs ((k:Int),T.1,T.2,o,())=some (.inl (((k+1:Nat):Int),U.1,U.2,V,())):=by
  simp only [A4a,A0 a1,A0 a2,B2,a3,w1];unfold A6S at p1;cases hq:(f.1.toList == nAuth.toList) with
  | true=>
    rw [hq] at p1;simp only [J4] at p1 ⊢;simp only [B2,bO,p1]
  | false=>
    rw [hq] at p1;simp only [J0,J1] at p1 ⊢;simp only [A7,bO,p1]
theorem B7A{t:F5}(ht:A1M t){fs:List B9}(hf:FsI fs)(hl:fs.length<=100):A6m t fs=some (A4M t fs,B7M t fs,()):=by
  have htl:=A7C ht;have hlenV:∀ {fs:List B9} {t:F5},A1M t->FsI fs->(A4M t fs).length<=9000*fs.length:=by
    intro fs
    induction fs with
    | nil=>intro t _ _;simp [A4M]
    | cons f fs ih=>
      intro t ht hf;obtain ⟨h1,h2⟩:=hf f A6;obtain ⟨_,a,c,_⟩:=B4t (B4u f) ht (K8 h1 (by decide)) (K8 h2 (by decide)) (b:= []) (by simp);have:=ih a fun x hx=>hf x (B6 _ hx)
      simp only [A4M,A3,E4];omega
  have key:∀ (k:Nat) (T:F5) (o:List Int),k<=fs.length->A1M T->o.length<=9000*k->H8 (A4a A3R fs) ((k:Int),T.1,T.2,o,())=some ((B7M T (fs.drop k)).1,(B7M T (fs.drop k)).2,o++A4M T (fs.drop k),()):=by
    intro k
    induction hj:fs.length-k generalizing k with
    | zero=>
      intro T o hk hT ho;have e1:¬ (k:Int)<(fs.length:Int):=by omega
      rw [H9];simp only [A4a,A8 e1,A7];rw [S7 (by omega)];simp [B7M,A4M]
    | succ j ih=>
      intro T o hk hT ho;have hlt:k<fs.length:=by omega
      have a1:(k:Int)<(fs.length:Int):=by omega
      have a2:(0:Int)<=(k:Int):=by omega
      have a3:rd C8 fs (k:Int)=fs[k]:=B0p (k:=C8) hlt;have a4:=hf fs[k] (H1 hlt);rw [J6 hlt];generalize fs[k]=f at a3 a4;obtain ⟨a5,a6⟩:=a4;have ih':=ih (k+1) (by omega);obtain ⟨p1,p2,p3,p4⟩:=B4t (t:=T) (f:=f) (q:=A6S f) (B4u f) hT (K8 a5 (by decide)) (K8 a6 (by decide)) (b:=o) (by omega);have w1:i64.wrap ((k:Int)+1)=((k+1:Nat):Int):=by rw [w64 (by omega) (by omega)];omega
      rw [H9,D7g a1 a2 a3 w1 p1];simp only [];rw [ih' (C3u T f (A6S f)) (o++C0d T f (A6S f)) (by omega) p2 (by simp only [A3];omega),B1];rfl
  have e:=key 0 t [] (by omega) ht (by simp);rw [show ((0:Nat):Int)=0 from rfl,T4,G0] at e;simp only [A6m,B3m,A8E t (by omega),C8P ht,bO,E0,A7,e]
set_option maxRecDepth 100000
theorem E4o{f:E5}(h:U8 f=true):(0<=f.1/\f.1<=255)/\(0<=f.2.1/\f.2.1<=255)/\(0<=f.2.2.1/\f.2.2.1<=2147483647)/\f.2.2.2.length<=1000:=by
  simp only [U8,B5,I8] at h;exact ⟨h.1.1.1,h.1.1.2,h.1.2,by omega⟩
theorem E2f{x:Int}(h:0<=x/\x<=255):u8.wrap x=x:=by
  simp only [IntKind.wrap,IntKind.bits,IntKind.signed,A8q];simp;omega
theorem D1v(f:E5):(M7 f).length=9+f.2.2.2.length:=by
  simp only [M7,A3,A65,E4,J2]
theorem C3n{f:E5}(h:U8 f=true)(rest:List Int):codeF (M7 f++rest)=0/\A23 (M7 f++rest)=(M7 f).length/\A0Q (M7 f++rest)=f:=by
  obtain ⟨h1,h2,h3,h4⟩:=E4o h;have hs:=D1v f;have e:M7 f++rest=big (f.2.2.2.length:Int) 3++(f.1::f.2.1::(big f.2.2.1 4++(f.2.2.2++rest))):=by
    have hc:B4g f.2.2.1=f.2.2.1:=by unfold B4g;rw [A5 (by omega)]
    unfold M7;rw [E2f h1,E2f h2,hc];simp
  have b3:((R1 (M7 f++rest) 0 3:Nat):Int)=(f.2.2.2.length:Int):=C8G [] (f.1::f.2.1::(big f.2.2.1 4++(f.2.2.2++rest))) _ 3 0 e rfl (by omega) (by simp;omega);have b3':R1 (M7 f++rest) 0 3=f.2.2.2.length:=by omega
  have e2:M7 f++rest=(big (f.2.2.2.length:Int) 3 ++ [f.1,f.2.1])++(big f.2.2.1 4++(f.2.2.2++rest)):=by rw [e];simp
  have b4:((R1 (M7 f++rest) 5 4:Nat):Int)=f.2.2.1:=C8G _ _ _ 4 5 e2 (by simp [A65]) h3.1 (by simp;omega);have hl:(M7 f++rest).length=9+f.2.2.2.length+rest.length:=by rw [A3,hs]
  refine ⟨?_,by unfold A23;rw [b3',hs],?_⟩
  · unfold codeF
    rw [A5 (by omega),b3',A5 (by omega),A5 (by omega)]
  · have r3:rd (.int .u8) (M7 f++rest) 3=f.1:=by
      rw [e];simp [rd,List.getD,E9,A65]
    have r4:rd (.int .u8) (M7 f++rest) 4=f.2.1:=by
      rw [e];simp [rd,List.getD,E9,A65]
    have hb:((M7 f++rest).take (9+f.2.2.2.length)).drop 9=f.2.2.2:=by
      have e3:M7 f++rest=(big (f.2.2.2.length:Int) 3 ++ [f.1,f.2.1]++big f.2.2.1 4)++(f.2.2.2++rest):=by rw [e2];simp
      have hA:(big (f.2.2.2.length:Int) 3 ++ [f.1,f.2.1]++big f.2.2.1 4).length=9:=by simp [A65]
      rw [e3,A0T,<- hA,A0U];simp
    have ha:A0V .i64 f.2.2.1 2147483647=f.2.2.1:=by
      obtain ⟨n,hn⟩:∃ n:Nat,f.2.2.1=(n:Int):=⟨f.2.2.1.toNat,by omega⟩;rw [hn,show (2147483647:Int)=((2 ^ 31-1:Nat):Int) from rfl,B4n (by omega) (by omega),A06,A1e (by omega)]
    unfold A0Q A6s;rw [A9 (by omega)];simp only [A8r,show (0:Int).toNat=0 from rfl,b3',r3,r4,show (5:Int).toNat=5 from rfl,b4,ha];rw [A5 (by omega),A5 (by omega)];simp only [show ((9:Int)+(f.2.2.2.length:Int)).toNat=9+f.2.2.2.length by omega,show (9:Int).toNat=9 from rfl,hb]
def B0a:List E5->List Int
  | []=> []
  | f::fs=>M7 f++B0a fs
theorem C1p:∀ a b:List E5,B0a (a++b)=B0a a++B0a b
  | [],b=>rfl
  | f::a,b=>by simp only [D4,B0a,C1p a b,B1]
theorem C8c(fs:List E5):∀ k,k<=fs.length->C75 fs k=B0a (fs.take k)
  | 0,_=>rfl
  | k+1,h=>by
    have h2:fs.getD k (0,0,0,[])=fs[k]:=by rw [D5,C5 (by omega)];rfl
    rw [C75,C8c fs k (by omega),h2,L9 (by omega),C1p];simp [B0a]
theorem D1w(fs:List E5):C75 fs fs.length=B0a fs:=by rw [C8c fs _ (C1 _),A9j]
noncomputable def A3b:HM->List E5->Option HM
  | m,[]=>some m
  | m,f::fs=>if (frM m f).1=0 then A3b (frM m f).2 fs else none
theorem B4v:∀ {a b:List E5} {m m1 m2:HM},A3b m a=some m1->A3b m1 b=some m2->A3b m (a++b)=some m2
  | [],b,m,m1,m2,h1,h2=>by
    cases h1;exact h2
  | f::a,b,m,m1,m2,h1,h2=>by
    simp only [D4,A3b] at h1 ⊢;by_cases h:(frM m f).1=0
    · rw [A9 h] at h1 ⊢
      exact B4v h1 h2
    · rw [A5 h] at h1;cases h1
theorem D20:∀ {fs:List E5} {m m':HM} (k:Nat) (rest:List Int),(∀ f∈fs,U8 f=true)->A3b m fs=some m'->C0c (k+fs.length) m (B0a fs++rest)=C0c k m' rest
  | [],m,m',k,rest,_,h=>by
    cases h;rfl
  | f::fs,m,m',k,rest,hf,h=>by
    simp only [A3b] at h;obtain ⟨a,b,c⟩:=C3n (hf f A6) (B0a fs++rest);have h0:(frM m f).1=0:=Classical.byContradiction fun q=>by rw [A5 q] at h;cases h
    rw [A9 h0] at h;simp only [E4,B0a,B1];rw [<- M1,C0c,a,A5 (by omega),A5 (by omega),c,A5 (by omega),b,A0U];exact D20 k rest (fun x hx=>hf x (B6 _ hx)) h
theorem E0V{f:E5}{v:Int}(h:R8 f=some (v,())):fcV f=v:=by
  unfold fcV;rw [h]
theorem B2G{t fl id:Int}{X:List Int}(ht:t=0\/t=1\/t=9)(hfl:0<=fl/\fl<=255)(hid:1<=id/\id<=2147483647)(hX:X.length<=1000):fcV (t,fl,id,X)=0:=by
  refine E0V ?_;have d1:decide (0<=t/\t<=255)=true:=A0 (by omega);have d2:decide (0<=id/\id<=2147483647)=true:=A0 (by omega);have d3:decide ((X.length:Int)<=1000)=true:=A0 (by omega);have d4:decide (id=0)=false:=A8 (by omega);simp only [R8,A3S,A1r,A5N,O9,bO,d1,A0 hfl,d2,d3,B2,A2m,A7L,E0,A7,d4];rcases ht with rfl | rfl | rfl<;>rfl
theorem E3P:fcV (4,0,0,[])=0:=E0V rfl
def B8R(fl k:Int):Bool:=!decide (A0V .i64 fl k=0)
theorem B4w(t fl id:Int)(X:List Int)(k:Int):A4c (t,fl,id,X) k=B8R fl k:=rfl
theorem hN:(B8R 0 1=false/\B8R 1 1=true/\B8R 4 1=false/\B8R 5 1=true)/\(B8R 0 4=false/\B8R 1 4=false/\B8R 4 4=true/\B8R 5 4=true)/\(B8R 0 8=false/\B8R 1 8=false/\B8R 4 8=false/\B8R 5 8=false)/\(B8R 0 32=false/\B8R 1 32=false/\B8R 4 32=false/\B8R 5 32=false):=
  ⟨⟨by kernel_rfl,by kernel_rfl,by kernel_rfl,by kernel_rfl⟩,⟨by kernel_rfl,by kernel_rfl,by kernel_rfl,by kernel_rfl⟩,⟨by kernel_rfl,by kernel_rfl,by kernel_rfl,by kernel_rfl⟩,⟨by kernel_rfl,by kernel_rfl,by kernel_rfl,by kernel_rfl⟩⟩
theorem bO4:bOr .i64 0 4=4/\bOr .i64 1 4=5:=⟨by kernel_rfl,by kernel_rfl⟩
abbrev g0:T7:=(0,false,[])
theorem B50{fl id:Int}{X:List Int}(hfl:fl=0\/fl=1\/fl=4\/fl=5)(t:Int):B2d (t,fl,id,X)=(X,true):=by
  have h8:A4c (t,fl,id,X) 8=false:=by rcases hfl with rfl | rfl | rfl | rfl<;>simp [B4w,hN]
  have h32:A4c (t,fl,id,X) 32=false:=by rcases hfl with rfl | rfl | rfl | rfl<;>simp [B4w,hN]
  have ha:C3t (t,fl,id,X)=0:=by
    unfold C3t;rw [h32];split<;>rfl
  unfold B2d;rw [h8,ha];simp [C79]
theorem D21{m:HM}(hg:m.g=g0){fl id:Int}{X:List Int}(hfl:fl=0\/fl=1)(hid:1<=id/\id<=2147483647)(hX:X.length<=1000) :
    frM m (1,fl,id,X)=(0,{m with g:=(id,decide (fl=1),X)})/\frM m (1,bOr .i64 fl 4,id,X)=B0r m id (decide (fl=1)) X:=by
  have hm:{m with g:=g0}=m:=by rw [<- hg]
  have c0:¬ (X.length:Int)>3000:=by omega
  constructor
  · have hf:=B2G (t:=1) (fl:=fl) (id:=id) (X:=X) (by omega) (by omega) hid hX
    have hu:=B50 (fl:=fl) (id:=id) (X:=X) (by omega) 1;have h4:A4c (1,fl,id,X) 4=false:=by rcases hfl with rfl | rfl<;>simp [B4w,hN,bO4]
    have h1:A4c (1,fl,id,X) 1=decide (fl=1):=by rcases hfl with rfl | rfl<;>simp [B4w,hN,bO4]
    have hfeed:A0A m.g (1,fl,id,X)=((id,decide (fl=1),X),[],0):=by
      unfold A0A C3i;rw [hf,hu,hg];simp only [B0q,h1];simp [B3G,c0,h4]
    unfold frM;rw [hf,A5 (by omega),A5 (by omega),A9 (by simp)];unfold B9g;rw [hfeed];simp
  · have h5:bOr .i64 fl 4=4\/bOr .i64 fl 4=5:=by rcases hfl with rfl | rfl<;>simp [bO4]
    have hf:=B2G (t:=1) (fl:=bOr .i64 fl 4) (id:=id) (X:=X) (by omega) (by omega) hid hX;have hu:=B50 (fl:=bOr .i64 fl 4) (id:=id) (X:=X) (by omega) 1;have h4:A4c (1,bOr .i64 fl 4,id,X) 4=true:=by rcases hfl with rfl | rfl<;>simp [B4w,hN,bO4]
    have h1:A4c (1,bOr .i64 fl 4,id,X) 1=decide (fl=1):=by rcases hfl with rfl | rfl<;>simp [B4w,hN,bO4]
    have hfeed:A0A m.g (1,bOr .i64 fl 4,id,X)=(g0,X,1):=by
      unfold A0A C3i;rw [hf,hu,hg];simp only [B0q,h1];simp [B3G,c0,h4]
    unfold frM;rw [hf,A5 (by omega),A5 (by omega),A9 (by simp)];unfold B9g;rw [hfeed,h1,hg,hm];simp
theorem D22{m:HM}{id:Int}{e:Bool}{Y X:List Int}(hg:m.g=(id,e,Y))(hid:1<=id/\id<=2147483647)(hX:X.length<=1000)(hY:Y.length+X.length<=3000) :
    frM m (9,0,id,X)=(0,{m with g:=(id,e,Y++X)})/\frM m (9,bOr .i64 0 4,id,X)=B0r {m with g:=g0} id e (Y++X):=by
  have c0:¬ ((Y++X).length:Int)>3000:=by rw [A3];omega
  have i0:¬ id=0:=by omega
  have c1:(Y.length:Int)+(X.length:Int)<=3000:=by omega
  constructor
  · have hf:=B2G (t:=9) (fl:=0) (id:=id) (X:=X) (by omega) (by omega) hid hX
    have h4:A4c (9,0,id,X) 4=false:=by simp [B4w,hN]
    have hfeed:A0A m.g (9,0,id,X)=((id,e,Y++X),[],0):=by
      unfold A0A C3i;rw [hf,hg];simp only [B0q];simp [B3G,c1,h4,i0]
    unfold frM;rw [hf,A5 (by omega),A5 (by omega),A9 (by simp)];unfold B9g;rw [hfeed];simp
  · have h5:bOr .i64 0 4=4:=bO4.1
    rw [h5];have hf:=B2G (t:=9) (fl:=4) (id:=id) (X:=X) (by omega) (by omega) hid hX;have h4:A4c (9,4,id,X) 4=true:=by simp [B4w,hN]
    have hfeed:A0A m.g (9,4,id,X)=(g0,Y++X,1):=by
      unfold A0A C3i;rw [hf,hg];simp only [B0q];simp [B3G,c1,h4,i0]
    unfold frM;rw [hf,A5 (by omega),A5 (by omega),A9 (by simp)];unfold B9g;rw [hfeed,hg];simp [i0]
theorem B9G(n:Nat)(V:List Int)(j:Nat):V.take (j*n)++A0t n V j=V.take (j*n+n):=by
  unfold A0t
  conv=>rhs;rw [<- M0 (j*n) (V.take (j*n+n))]
  rw [R4,W4 (by omega)]
theorem D23{m:HM}(hg:m.g=g0){fl id:Int}{n:Nat}{V:List Int}(hfl:fl=0\/fl=1)(hid:1<=id/\id<=2147483647)(hn:1<=n/\n<=1000)(hV:V.length<=3000) :
    ∀ j,A3b m (frs id fl n V (j+1))=some {m with g:=(id,decide (fl=1),V.take ((j+1)*n))}
  | 0=>by
    have hp:=A66 n V 0;have e:=(D21 hg (X:=A0t n V 0) hfl hid (by omega)).1;have hp0:=B9G n V 0;simp only [A1n,List.take_zero,G0,E1] at hp0;rw [hp0] at e;simp only [frs,G0,frx,J4,A3b,hp0,e,E1,Nat.one_mul]
  | j+1=>by
    have ih:=D23 hg hfl hid hn hV j;have hp:=A66 n V (j+1);have ha:=B9G n V (j+1);have hl:=J7 List.length ha;rw [A3] at hl;have hl2:(V.take ((j+1)*n+n)).length<=3000:=by rw [B4];omega
    have e:=(D22 (m:={m with g:=(id,decide (fl=1),V.take ((j+1)*n))}) (X:=A0t n V (j+1)) rfl hid (by omega) (by omega)).1;show A3b m (frs id fl n V (j+1) ++ [frx id fl n V (j+1)])=_;refine B4v ih ?_;simp only [frx,A3b,Nat.succ_ne_zero,Nat.add_one_ne_zero,J1,e,J4,ha];rw [show (j+1+1)*n=(j+1)*n+n from I2 _ _]
theorem C8d{m:HM}(hg:m.g=g0){fl id:Int}{n:Nat}{V:List Int}(hfl:fl=0\/fl=1)(hid:1<=id/\id<=2147483647)(hn:1<=n/\n<=1000)(hV:V.length<=3000)(h0:(B0r m id (decide (fl=1)) V).1=0) :
    A3b m (B0S id fl n V)=some (B0r m id (decide (fl=1)) V).2:=by
  have hm:{m with g:=g0}=m:=by rw [<- hg]
  have hc:=C9M (n:=n) (L:=V.length) (by omega);unfold B0S;generalize hJ:max 1 (ceN n V.length)-1=J;have hJ2:V.length<=J*n+n:=by
    rw [<- I2];refine K8 hc (F2 _ ?_);omega
  have hp:=A66 n V J;have ha:=B9G n V J;rw [G1 hJ2] at ha;cases J with
  | zero=>
    simp only [A1n,List.take_zero,G0] at ha;have e:=(D21 hg (X:=A0t n V 0) hfl hid (by omega)).2;rw [ha] at e;simp only [frs,G0,D7E,frx,J4,A3b,ha,e,h0]
  | succ j=>
    have ih:=D23 hg hfl hid hn hV j;have hl:=J7 List.length ha;rw [A3] at hl;have e:=(D22 (m:={m with g:=(id,decide (fl=1),V.take ((j+1)*n))}) (X:=A0t n V (j+1)) rfl hid (by omega) (by omega)).2;refine B4v ih ?_;simp only [D7E,frx,A3b,Nat.add_one_ne_zero,J1,e,ha,hm,h0,J4]
set_option maxRecDepth 100000
noncomputable def E0W(op:Int):X0:=rd .str [(⟨#[80,79,83,84]⟩:X0),(⟨#[72,69,65,68]⟩:X0),(⟨#[80,65,84,67,72]⟩:X0),(⟨#[80,85,84]⟩:X0),(⟨#[71,69,84]⟩:X0),(⟨#[68,69,76,69,84,69]⟩:X0)] (op-1)
abbrev emB:X0:=⟨#[]⟩
noncomputable def flR(r:A5D):List B9:= [(nM,E0W r.1),(nS,(⟨#[104,116,116,112,115]⟩:X0)),(nP,nUp++r.2.1)]++(bif (B43 r.1).1.toList == emB.toList then [] else [((B43 r.1).1,itB r.2.2)])
theorem C9j(r:A5D):(flR r).length<=4:=by
  unfold flR;cases (B43 r.1).1.toList == emB.toList<;>simp
theorem C6G(r:A5D)(h:C0S r=true):B1J r=some (flR r,()):=by
  obtain ⟨hr,hs,hn0,hn1⟩:=C3f h;have hsz:r.2.1.size<=maxLen:=by simp only [maxLen];omega
  have hpl:nUp.size=4:=rfl;have hmax:¬ (((nUp.size+r.2.1.size:Nat):Int)>i64.max):=by
    simp only [IntKind.max,IntKind.signed,IntKind.bits,hpl];simp;omega
  have w:i64.wrap (r.1-1)=r.1-1:=w64 (by omega) (by omega);have hm:A0W r.1=some (E0W r.1,()):=by
    simp only [A0W,B5j,w,A0 (show 0<=r.1-1 by omega),A0 (show r.1-1<(6:Int) by omega),B2,E0W]
  unfold flR;simp only [B1J,B5k,C5n r hsz,h,bO,E0,A7,hm,B4p,A8 hmax];cases (B43 r.1).1.toList == emB.toList with
  | true=>simp only [E0,B2,A7,E7]
  | false=>
    simp only [L6,B2,A7,C4d r.2.2 hn0 hn1,bO];rw [D3c (by simp)]
def idsL:List X0:= [(⟨#[97]⟩:X0),(⟨#[98]⟩:X0),(⟨#[117,112,49]⟩:X0),(⟨#[101,105,103,104,116,108,101,116]⟩:X0)]
def D7h(op:Int):List Int:=if op=1\/op=3 then [0,5,24,100,1000000000] else if op=4 then [0,5,24,100,1000000000,4294967295] else [0]
def reqsL:List A5D:= [(1:Int),2,3,4,5,6].flatMap fun op=>idsL.flatMap fun s=>(D7h op).map fun n=>(op,s,n)
noncomputable def E45(r:A5D):Bool:=C0S r&&(decide ((B6O (flR r)).2=0)&&(decide ((B6O (flR r)).1.1=r.1)&&(((B6O (flR r)).1.2.1.toList == r.2.1.toList)&&(decide ((B6O (flR r)).1.2.2=r.2.2)&&(flR r).all fun f=>Nat.ble f.1.size 40&&Nat.ble f.2.size 40))))
theorem E2D:reqsL.all E45=true:=by kernel_rfl
theorem C9k{r:A5D}(h:r∈reqsL):C0S r=true/\B6O (flR r)=(r,0)/\∀ f∈flR r,f.1.size<=40/\f.2.size<=40:=by
  have h2:=C4.1 E2D r h;simp only [E45,B5,C4,I8,beq_iff_eq,Nat.ble_eq] at h2;obtain ⟨a,b,c,d,e,f⟩:=h2;exact ⟨a,Prod.ext (Prod.ext c (Prod.ext (toList_inj d) e)) b,f⟩
theorem D45(c:P4)(hc:Cur c):∃ r c',B5w c=some (r,c',())/\Cur c'/\r∈reqsL:=by
  obtain ⟨k,c1,q1,h1,k0,k1⟩:=B2D c 6 hc (by omega);obtain ⟨s,c2,q2,h2,hs⟩:=D9k c1 [(⟨#[97]⟩:X0),(⟨#[98]⟩:X0),(⟨#[117,112,49]⟩:X0),(⟨#[101,105,103,104,116,108,101,116]⟩:X0)] h1 (by simp);have w:i64.wrap (1+k)=1+k:=w64 (by omega) (by omega);simp only [B5w,C0J,q1,q2,bO,w];have key:∀ op n,op=1+k->n∈D7h op->((op,s,n):A5D)∈reqsL:=fun op n ho hn=>by
    unfold reqsL;rw [F8];refine ⟨op,?_,?_⟩
    · have:op=1\/op=2\/op=3\/op=4\/op=5\/op=6:=by omega
      rcases this with rfl | rfl | rfl | rfl | rfl | rfl<;>simp
    · rw [F8]
      exact ⟨s,hs,D6.2 ⟨n,hn,rfl⟩⟩
  obtain ⟨m,qm,hm1,hm2⟩:∃ m,B35 (1+k)=some (m,())/\(m>=0->1+k=1\/1+k=3\/1+k=4)/\(¬ m>=0->¬ (1+k=1\/1+k=3\/1+k=4)):=by
    simp only [B35,B82];by_cases e1:1+k=1
    · rw [A0 e1];exact ⟨_,rfl,by omega,by simp⟩
    rw [A8 e1];by_cases e3:1+k=3
    · rw [A0 e3];exact ⟨_,rfl,by omega,by simp⟩
    rw [A8 e3];by_cases e4:1+k=4
    · rw [A0 e4];exact ⟨_,rfl,by omega,by simp⟩
    · rw [A8 e4];exact ⟨_,rfl,by simp,by omega⟩
  rw [qm];simp only [bO];by_cases hm:m>=0
  · have ho:=hm1 hm
    obtain ⟨n,c3,q3,h3,hn⟩:=C1T c2 [0,5,24,100,1000000000] h2 (by simp);have hn2:n∈D7h (1+k):=by
      unfold D7h;by_cases h13:1+k=1\/1+k=3
      · rw [A9 h13];exact hn
      · rw [A5 h13,A9 (by omega)]
        simp only [C3,P3,A4f] at hn ⊢;omega
    rw [A0 hm];simp only [B2,q3,bO];by_cases e4:1+k=4
    · obtain ⟨b,c4,q4,h4⟩:=D7d c3 2 h3 (by omega)
      rw [A0 e4];simp only [B2,q4,bO];cases b
      · exact ⟨_,_,rfl,h4,key _ _ rfl hn2⟩
      · refine ⟨_,_,rfl,h4,key _ _ rfl ?_⟩
        unfold D7h;rw [A5 (by omega),A9 e4];simp
    · rw [A8 e4]
      exact ⟨_,_,rfl,h3,key _ _ rfl hn2⟩
  · have ho:=hm2 hm
    rw [A8 hm];refine ⟨_,_,rfl,h2,key _ _ rfl ?_⟩;unfold D7h;rw [A5 (by omega),A5 (by omega)];simp
theorem B51(N:Nat):∀ {fs:List B9} {t:F5},A1M t->(∀ f∈fs,f.1.size<=40/\f.2.size<=40)->(A4M t fs).length<=95*fs.length
  | [],t,_,_=>by simp [A4M]
  | f::fs,t,ht,hf=>by
    obtain ⟨h1,h2⟩:=hf f A6;obtain ⟨_,a,c,_⟩:=B4t (B4u f) ht (K8 h1 (by decide)) (K8 h2 (by decide)) (b:= []) (by simp);have ih:=B51 N (fs:=fs) a fun x hx=>hf x (B6 _ hx)
    simp only [A4M,A3,E4];omega
theorem B8S{fs:List B9}(h:∀ f∈fs,f.1.size<=40/\f.2.size<=40):FsI fs:=fun f hf=>by
  obtain ⟨a,b⟩:=h f hf;exact ⟨by omega,by omega⟩
def B8T(id:Int)(n:Nat)(xs:List Int):Nat->List E5
  | 0=> []
  | j+1=>B8T id n xs j ++ [(0,(if xs.length<=j*n+n then 1 else 0),id,A0t n xs j)]
theorem D24(id:Int)(n:Nat)(xs:List Int):∀ j,B0a (B8T id n xs j)=B2E id n xs j
  | 0=>rfl
  | j+1=>by
    rw [B8T,C1p,D24 id n xs j,B2E];simp [B0a]
theorem C9l(id:Int)(n:Nat)(xs:List Int)(hid:1<=id/\id<=2147483647)(hn:n<=1000):∀ j,∀ f∈B8T id n xs j,U8 f=true
  | 0,f,hf=>by cases hf
  | j+1,f,hf=>by
    rcases C6.1 hf with hf | hf
    · exact C9l id n xs hid hn j f hf
    · rcases B0.1 hf with rfl;exact C9O id n xs hid hn j
theorem E0a{st ev a b:Int}(h:A0O st ev=some (a,b,())):stV st ev=(a,b):=by
  unfold stV;rw [h]
theorem E3Q:stV 1 3=(1,0):=E0a rfl
theorem E3R:stV 1 4=(2,0):=E0a rfl
theorem D69(id:Int)(x:Int×A5D×List Int):atM [(id,x)] id=0/\B8O [(id,x)] id=true:=by
  have e:atM [(id,x)] id=0:=by
    unfold atM V7;simp [sAt,rd]
  refine ⟨e,?_⟩;unfold B8O;rw [e];simp [sAt,rd]
theorem E0b{m:HM}(hg:m.g=g0){id:Int}{r:A5D}{Y X:List Int}(hs:m.strs = [(id,1,r,Y)])(hid:1<=id/\id<=2147483647)(hX:X.length<=1000)(hY:Y.length+X.length<=2000) :
    frM m (0,0,id,X)=(0,{m with strs:= [(id,1,r,Y++X)]})/\frM m (0,1,id,X)=(0,{m with strs:= [(id,2,r,Y++X)],calls:=m.calls ++ [(id,r,Y++X,0)]}):=by
  obtain ⟨e1,e2⟩:=D69 id (1,r,Y);have hsa:sAt [(id,1,r,Y)] 0=(id,1,r,Y):=rfl;have hsb:sAt [(id,1,r,Y++X)] 0=(id,1,r,Y++X):=rfl;have c0:¬ ((Y.length:Int)+(X.length:Int)>2000):=by omega
  constructor
  · have hf:=B2G (t:=0) (fl:=0) (id:=id) (X:=X) (by omega) (by omega) hid hX
    have hu:=B50 (fl:=0) (id:=id) (X:=X) (by omega) 0;have h1:A4c (0,0,id,X) 1=false:=by simp [B4w,hN]
    unfold frM;rw [hf,A5 (by omega),A5 (by omega),A5 (by rw [hg];simp)];simp only [show ¬ (0:Int)=4 by omega,show ¬ (0:Int)=6 by omega,show ¬ (0:Int)=5 by omega,show ¬ (0:Int)=8 by omega,J1,J4];unfold C3j;rw [hu,hs,h1];simp only [e1,e2,J4,hsa,A5 c0,N8,J1,A7];unfold B0U A8F;simp only [hs,List.set_cons_zero,hsb,E3Q];simp [A53]
  · have hf:=B2G (t:=0) (fl:=1) (id:=id) (X:=X) (by omega) (by omega) hid hX
    have hu:=B50 (fl:=1) (id:=id) (X:=X) (by omega) 0;have h1:A4c (0,1,id,X) 1=true:=by simp [B4w,hN]
    unfold frM;rw [hf,A5 (by omega),A5 (by omega),A5 (by rw [hg];simp)];simp only [show ¬ (0:Int)=4 by omega,show ¬ (0:Int)=6 by omega,show ¬ (0:Int)=5 by omega,show ¬ (0:Int)=8 by omega,J1,J4];unfold C3j;rw [hu,hs,h1];simp only [e1,e2,J4,hsa,A5 c0,N8,J1,B2];unfold B0U A8F;simp only [hs,List.set_cons_zero,hsb,E3R];simp [A53]
theorem D25{m:HM}(hg:m.g=g0){id:Int}{r:A5D}(hs:m.strs = [(id,1,r,[])])(hid:1<=id/\id<=2147483647){n:Nat}(hn:1<=n/\n<=1000){xs:List Int}(hx:xs.length<=2000) :
    ∀ j,j<=ceN n xs.length->(j<ceN n xs.length->A3b m (B8T id n xs j)=some {m with strs:= [(id,1,r,xs.take (j*n))]})/\(j=ceN n xs.length->0<j->A3b m (B8T id n xs j)=some {m with strs:= [(id,2,r,xs)],calls:=m.calls ++ [(id,r,xs,0)]})
  | 0,_=>by
    refine ⟨fun _=>?_,fun _ h=>absurd h (A50 _)⟩;simp only [B8T,A3b,A1n,List.take_zero,<- hs]
  | j+1,hj=>by
    have hlt:j<ceN n xs.length:=hj;have ih:=(D25 hg hs hid hn hx j (by omega)).1 hlt;have hp:=A66 n xs j;have ha:=B9G n xs j;have hl:=J7 List.length ha;rw [A3] at hl;have hl2:(xs.take (j*n+n)).length<=2000:=by rw [B4];omega
    obtain ⟨e1,e2⟩:=E0b (m:={m with strs:= [(id,1,r,xs.take (j*n))]}) hg (X:=A0t n xs j) rfl hid (by omega) (by omega);have hsm:(j+1)*n=j*n+n:=I2 _ _;refine ⟨fun h=>?_,fun h _=>?_⟩
    · have h3:=(B8F (n:=n) (L:=xs.length) (j:=j+1) (by omega)).1 h
      refine B4v ih ?_;rw [A5 (show ¬ xs.length<=j*n+n by omega)];simp only [A3b,e1,J4,ha,hsm]
    · have h3:=C9M (n:=n) (L:=xs.length) (by omega)
      rw [<- h,hsm] at h3;refine B4v ih ?_;rw [A9 h3];simp only [A3b,e2,J4,ha,G1 h3]
set_option maxRecDepth 100000
abbrev flE(xs:List Int):Int:=if decide ((xs.length:Int)=0)=true then 1 else 0
noncomputable abbrev D26(t:F5)(id:Int)(r:A5D)(xs:List Int)(n:Nat):List Int:=B0a (B0S id (flE xs) n (A4M t (flR r))++B8T id n xs (ceN n xs.length))
theorem C7B{t:F5}(ht:A1M t){id:Int}(hid:1<=id/\id<=2147483647){r:A5D}(hr:r∈reqsL){xs:List Int}(hx:xs.length<=2000)(a4:Int) :
    A7e t id r xs a4=some (D26 t id r xs (czN a4),B7M t (flR r),()):=by
  obtain ⟨h1,h2,h3⟩:=C9k hr;obtain ⟨hr0,hs,hn0,hn1⟩:=C3f h1;have hsz:r.2.1.size<=maxLen:=by simp only [maxLen];omega
  have htl:=A7C ht;have hl4:=C9j r;have hV:=B51 0 ht h3;have hf:=C6G r h1;have hp:=B7A ht (B8S h3) (by omega);have hn:=C1a a4;have hp2:=C8K id (decide ((xs.length:Int)=0)) (A4M t (flR r)) ((czN a4:Nat):Int) hid (by omega);rw [D3g] at hp2;have hpo:=C5s id (decide ((xs.length:Int)=0)) (czN a4) (A4M t (flR r)) hid hn.2;have hpl:=C8L id (if decide ((xs.length:Int)=0)=true then 1 else 0) (czN a4) (A4M t (flR r)) (by omega);have hif:=B8G _ hpo (by omega);have hcl:=C5t _ hpo _ (C1 _);simp only [A7e,B7w,C8P ht,C5n r hsz,O9,bO,h1,A0 hid,E0,A7,bSl,hf,hp,E03,hp2,hif];rw [E3K id a4 xs _ hid (by omega) (by omega)];simp only [bO];rw [D1w,<- D24,<- C1p]
theorem D46:P0 pri 0=(0,24,[]):=by kernel_rfl
theorem D47(m:HM):A0R ⟨0,[],0,m⟩ pri=⟨24,[],0,m⟩:=by
  have e:=B6Q [] m pri 0 (by omega);rw [D46] at e;rw [e];rfl
noncomputable abbrev E0c(id:Int)(r:A5D)(xs:List Int):HM:=⟨g0,B7M A3a (flR r),[(id,2,r,xs)],id,[(id,r,xs,0)],M7 (4,1,0,[])⟩
theorem E2E(m:HM)(hg:m.g=g0):frM m (4,0,0,[])=(0,{m with out:=m.out++M7 (4,1,0,[])}):=by
  have h1:A4c (4,0,0,[]) 1=false:=by simp [B4w,hN]
  unfold frM;rw [E3P,A5 (by omega),A5 (by omega),A5 (by rw [hg];simp)];unfold D3t;rw [h1];rfl
def m1:HM:=⟨g0,A3a,[],0,[],M7 (4,1,0,[])⟩
theorem E0d{id:Int}(hid:1<=id/\id<=2147483647)(hodd:id.tmod 2=1){r:A5D}(hr:r∈reqsL){xs:List Int}(hx:xs.length<=2000){n:Nat}(hn:1<=n/\n<=1000) :
    A3b newB.m ((4,0,0,[])::(B0S id (flE xs) n (A4M A3a (flR r))++B8T id n xs (ceN n xs.length)))=some (E0c id r xs):=by
  obtain ⟨h1,h2,h3⟩:=C9k hr;have hl4:=C9j r;have hV:=B51 0 A3H h3;have hG:=C3m A3H (B8S h3) (by omega);have e0:frM newB.m (4,0,0,[])=(0,m1):=E2E newB.m rfl;rw [A3b,e0,A9 rfl];have hB:∀ fin:Bool,B0r m1 id fin (A4M A3a (flR r))=(0,A53 ⟨g0,B7M A3a (flR r),[(id,(if fin then 2 else 1),r,[])],id,[],M7 (4,1,0,[])⟩ (id,(if fin then 2 else 1),r,[])):=fun fin=>by
    unfold B0r;have e1:m1.dec=A3a:=rfl;have e2:B8O m1.strs id=false:=rfl;rw [e1,hG 4096,e2];simp only [ne_eq,not_true,J1,J0];unfold C9e;rw [h2];simp only [];have e3:m1.last=0:=rfl;have e4:m1.strs = []:=rfl;rw [e3,e4,A5 (by omega),A5 (by simp)];rfl
  by_cases hx0:xs.length=0
  · have hxn:xs = []:=V5.1 hx0
    subst hxn;have hfl:flE []=1:=rfl;have hc:ceN n ([]:List Int).length=0:=by
      unfold ceN;rw [J2,E1,Nat.div_eq_of_lt (by omega)]
    rw [hc,hfl];have e:=C8d (m:=m1) rfl (fl:=1) (id:=id) (n:=n) (V:=A4M A3a (flR r)) (.inr rfl) hid hn (by omega) (by rw [hB]);simp only [B8T,E7];rw [e,hB];simp [A53]
  · have hfl:flE xs=0:=by unfold flE;rw [A5 (by simp;intro h;exact hx0 (by rw [h];rfl))]
    rw [hfl];have e:=C8d (m:=m1) rfl (fl:=0) (id:=id) (n:=n) (V:=A4M A3a (flR r)) (.inl rfl) hid hn (by omega) (by rw [hB]);refine B4v e ?_;rw [hB];have hpos:0<ceN n xs.length:=(B8F (by omega)).2 (by omega);have e2:=(D25 (m:=⟨g0,B7M A3a (flR r),[(id,1,r,[])],id,[],M7 (4,1,0,[])⟩) rfl rfl hid hn hx (ceN n xs.length) (C1 _)).2 rfl hpos;simpa [A53] using e2
theorem D27{id:Int}(hid:1<=id/\id<=2147483647)(hodd:id.tmod 2=1){r:A5D}(hr:r∈reqsL){xs:List Int}(hx:xs.length<=2000){n:Nat}(hn:1<=n/\n<=1000) :
    A0R newB (prefaceB++D26 A3a id r xs n)=⟨24,[],0,E0c id r xs⟩:=by
  have hf:=E0d hid hodd hr hx hn;have hok:∀ f∈((4,0,0,[]):E5)::(B0S id (flE xs) n (A4M A3a (flR r))++B8T id n xs (ceN n xs.length)),U8 f=true:=fun f hf=>by
    rcases C3.1 hf with rfl | hf
    · rfl
    · rcases C6.1 hf with hf | hf
      · exact C5s id (decide ((xs.length:Int)=0)) n _ hid hn.2 f hf
      · exact C9l id n xs hid hn.2 _ f hf
  have hcat:prefaceB++D26 A3a id r xs n=pri++B0a (((4,0,0,[]):E5)::(B0S id (flE xs) n (A4M A3a (flR r))++B8T id n xs (ceN n xs.length))):=by
    rw [B0a];unfold prefaceB;rw [B1]
  rw [hcat,C0b];generalize hF:((4,0,0,[]):E5)::(B0S id (flE xs) n (A4M A3a (flR r))++B8T id n xs (ceN n xs.length))=F at hf hok;rw [show newB=⟨0,[],0,newB.m⟩ from rfl,D47];rw [C3l 24 (by omega) ((B0a F).length+F.length) (B0a F) [] newB.m (by simp) rfl,G0];have e:=D20 ((B0a F).length+1) [] hok hf;rw [E7] at e;rw [show (B0a F).length+F.length+1=(B0a F).length+1+F.length by omega,e];rw [C0c,A9 D7c];rfl
theorem C6H:∀ {fs:List E5},(∀ f∈fs,Byt f.2.2.2)->Byt (B0a fs)
  | [],_=>fun x hx=>by cases hx
  | f::fs,h=>A3F (C0T (h f A6)) (C6H fun x hx=>h x (B6 _ hx))
theorem D28:∀ {fs:List E5},(∀ f∈fs,U8 f=true)->(B0a fs).length<=1009*fs.length
  | [],_=>by simp [B0a]
  | f::fs,h=>by
    have h1:=A9Q f (h f A6);have h2:=D28 (fs:=fs) fun x hx=>h x (B6 _ hx)
    simp only [B0a,A3,E4];omega
theorem C6I{id:Int}{n:Nat}{xs:List Int}(h:Byt xs):∀ j,∀ f∈B8T id n xs j,Byt f.2.2.2
  | 0,f,hf=>by cases hf
  | j+1,f,hf=>by
    rcases C6.1 hf with hf | hf
    · exact C6I h j f hf
    · rcases B0.1 hf with rfl;exact C2l h n j
theorem D29(id:Int)(n:Nat)(xs:List Int):∀ j,(B8T id n xs j).length=j
  | 0=>rfl
  | j+1=>by simp [B8T,D29 id n xs j]
theorem D48{id:Int}(hid:1<=id/\id<=2147483647)(hodd:id.tmod 2=1){r:A5D}(hr:r∈reqsL){xs:List Int}(hx:xs.length<=2000)(hb:Byt xs){n:Nat}(hn:1<=n/\n<=1000) :
    A4t (bsC A3a newB) (prefaceB++D26 A3a id r xs n)=some (bsC A3a ⟨24,[],0,E0c id r xs⟩,[(id,r,xs,0)],M7 (4,1,0,[]),())/\(D26 A3a id r xs n).length<=5000000:=by
  obtain ⟨h1,h2,h3⟩:=C9k hr;have hl4:=C9j r;have hV:=B51 0 A3H h3;have hok:∀ f∈B0S id (flE xs) n (A4M A3a (flR r))++B8T id n xs (ceN n xs.length),U8 f=true:=fun f hf=>by
    rcases C6.1 hf with hf | hf
    · exact C5s id (decide ((xs.length:Int)=0)) n _ hid hn.2 f hf
    · exact C9l id n xs hid hn.2 _ f hf
  have hbt:Byt (D26 A3a id r xs n):=C6H fun f hf=>by
    rcases C6.1 hf with hf | hf
    · exact C8M (C6F A3H (B8S h3)).2 f hf
    · exact C6I hb _ f hf
  have hle:=D28 hok;have hpl:=C8L id (flE xs) n (A4M A3a (flR r)) (by omega);have hbl:=D29 id n xs (ceN n xs.length);have hC:=C5q (n:=n) (L:=xs.length) (by omega);rw [A3,hbl] at hle;have hlen:(D26 A3a id r xs n).length<=5000000:=by unfold D26;omega
  have hp:=C3d;have e:=C6A A3a A3H D65 rfl rfl (A3F C1o hbt) (by rw [A3];omega);rw [D27 hid hodd hr hx hn] at e;exact ⟨e,hlen⟩
set_option maxRecDepth 100000
abbrev nSt:X0:=⟨#[58,115,116,97,116,117,115]⟩
abbrev nOf:X0:=⟨#[117,112,108,111,97,100,45,111,102,102,115,101,116]⟩
def flP(p:A08):List B9:=if p.2>=0 then [(nSt,itB p.1)] ++ [(nOf,itB p.2)] else [(nSt,itB p.1)]
theorem B52(p:A08)(h:B6J p=true):A5M p=some (flP p,()):=by
  have h':=h;simp only [B6J,B5,I8] at h';unfold flP;simp only [A5M,B23,B8B,h,bO,E0,A7,C4d p.1 (by omega) (by omega)];by_cases ho:p.2>=0
  · rw [A9 ho]
    simp only [A0 ho,B2,C4d p.2 (by omega) (by omega),bO];rw [D3c (by simp)]
  · rw [A5 ho]
    simp only [A8 ho,A7]
def respL:List A08:= [(200:Int),201,204,404,409,100,599].flatMap fun a=> [(-1:Int),0,24,1000000000].map fun b=>(a,b)
def E2F(n:Int):Bool:=E0G (itB n) 1000000000&&decide ((B4o (itB n) (itB n).size:Int)=n)
def E46(p:A08):Bool:=B6J p&&(E2F p.1&&((decide (p.2=-1)||E2F p.2)&&(flP p).all fun f=>Nat.ble f.1.size 40&&Nat.ble f.2.size 40))
theorem E0e:respL.all E46=true:=by kernel_rfl
theorem D6A{n:Int}(h:E2F n=true):A7P (itB n)=some (n,true,()):=by
  simp only [E2F,B5,I8] at h;simp only [A7P,C0P,B9f (itB n) 1000000000 (by omega),h.1,B2,h.2,bO]
theorem C9m{p:A08}(h:p∈respL):B6J p=true/\A7P (itB p.1)=some (p.1,true,())/\(p.2=-1\/A7P (itB p.2)=some (p.2,true,()))/\∀ f∈flP p,f.1.size<=40/\f.2.size<=40:=by
  have h2:=C4.1 E0e p h;simp only [E46,B5,C4,M5,I8,Nat.ble_eq] at h2;obtain ⟨a,b,c,d⟩:=h2;exact ⟨a,D6A b,c.imp id D6A,d⟩
theorem D2A(c:P4)(hc:Cur c):∃ p c',B37 c=some (p,c',())/\Cur c'/\p∈respL:=by
  obtain ⟨a,c1,q1,h1,ha⟩:=C1T c [200,201,204,404,409,100,599] hc (by simp);obtain ⟨b,c2,q2,h2,hb⟩:=C1T c1 [(-1),0,24,1000000000] h1 (by simp);simp only [B37,B83,q1,q2,bO];exact ⟨_,_,rfl,h2,F8.2 ⟨a,ha,D6.2 ⟨b,hb,rfl⟩⟩⟩
theorem C7C(a:List B9)(h:a.length<=1000):Q8 a a=some (true,()):=by
  simp only [Q8,A0D,V9,E0,A7];have e:=E2W (P6 a a) a.length (by simp only [maxLen];omega) (fun _=>true) (fun i hi=>by
    have g1:((i:Int)<(a.length:Int)):=by omega
    have g2:(0:Int)<=(i:Int):=by omega
    simp only [P6,A0 g1,A0 g2,B2,eqB];simp) (by simp [P6])
  rw [e];simp
theorem C9n(p:A08):(1<=(flP p).length/\(flP p).length<=2)/\(p.2>=0->(flP p).length=2/\rd C8 (flP p) 1=(nOf,itB p.2))/\(¬ p.2>=0->(flP p).length=1)/\rd C8 (flP p) 0=(nSt,itB p.1):=by
  unfold flP;by_cases h:p.2>=0
  · rw [A9 h]
    exact ⟨by simp,fun _=>⟨by simp,rfl⟩,fun h'=>absurd h h',rfl⟩
  · rw [A5 h]
    exact ⟨by simp,fun h'=>absurd h' h,fun _=>by simp,rfl⟩
theorem C9o{p:A08}(h:p∈respL):B2A (flP p)=some (p,true,()):=by
  obtain ⟨h1,h2,h3,h4⟩:=C9m h;obtain ⟨l1,l2,l3,l4⟩:=C9n p;have d1:decide (1<=((flP p).length:Int)/\((flP p).length:Int)<=2)=true:=A0 (by omega);have d2:decide (0<((flP p).length:Int))=true:=A0 (by omega);simp only [B2A,C0Q,O9,d1,d2,bO,E0,A7,B2,l4,h2];have key:(bif (decide (((flP p).length:Int)=2)) then bif decide (1<((flP p).length:Int)) then B3 (A7P ((rd C8 (flP p) 1).2)) fun c28=>some (p.1,c28.1,()) else none else some (p.1,(-1),()))=some (p.1,p.2,()):=by
    by_cases hp:p.2>=0
    · obtain ⟨a,b⟩:=l2 hp
      rcases h3 with h3 | h3
      · omega
      · rw [A0 (show ((flP p).length:Int)=2 by omega),A0 (show (1:Int)<((flP p).length:Int) by omega),b]
        simp only [B2,h3,bO]
    · have hrng:p.2=-1:=by
        simp only [B6J,B5,I8] at h1;omega
      rw [A8 (show ¬ ((flP p).length:Int)=2 by have:=l3 hp;omega),hrng];rfl
  rw [key];simp only [bO,B8B,h1,E0,A7,B52 p h1,C7C (flP p) (by omega)]
theorem D7i(id fl:Int){n:Nat}{V:List Int}(hn:1<=n)(hV:V.length<=n):B0S id fl n V = [(1,bOr .i64 fl 4,id,V)]:=by
  have h1:¬ 1<ceN n V.length:=by
    rw [B8F (by omega)];omega
  have h2:max 1 (ceN n V.length)-1=0:=by omega
  unfold B0S;rw [h2];have hp:A0t n V 0=V:=by
    unfold A0t;rw [A1n,E1,G1 hV,T4]
  simp [frs,D7E,frx,hp]
theorem E0f{id:Int}{V:List Int}(hid:1<=id/\id<=2147483647)(hV:V.length<=1000):U8 (1,5,id,V)=true:=by
  simp only [U8,B5,I8];omega
theorem E0g{id:Int}{V:List Int}(hid:1<=id/\id<=2147483647)(hV:V.length<=1000):A0A g0 (1,5,id,V)=(g0,V,1):=by
  have hf:=B2G (t:=1) (fl:=5) (id:=id) (X:=V) (by omega) (by omega) hid hV;have hu:=B50 (fl:=5) (id:=id) (X:=V) (by omega) 1;have h4:A4c (1,5,id,V) 4=true:=by simp [B4w,hN]
  have h1:A4c (1,5,id,V) 1=true:=by simp [B4w,hN]
  have c0:¬ (V.length:Int)>3000:=by omega
  unfold A0A C3i;rw [hf,hu];simp only [B0q,h1];simp [B3G,c0,h4]
theorem C2u{f:E5}(h:U8 f=true)(hb:Byt f.2.2.2):A5Q (M7 f)=some ([f],((M7 f).length:Int),1,()):=by
  obtain ⟨a1,a2,a3⟩:=C3n h [];rw [E7] at a1 a2 a3;have hl:=A9Q f h;obtain ⟨b1,b2⟩:=B3H (b:=M7 f) (a:=0) (by omega);rw [T4,a1] at b1;rw [T4] at b2;obtain ⟨b3,b4,_⟩:=b2 a1;rw [a3] at b3;rw [a2] at b4;obtain ⟨c1,_⟩:=B3H (b:=M7 f) (a:=(M7 f).length) (by omega);rw [List.drop_length] at c1;have hg:=fun (a:Int) (ha:-9223372036854775808<=a/\a<9223372036854775808)=>B2C (M7 f) (C0T hb) (by omega) a ha
  simp only [A5Q,B29];have s1:A62 A3C (M7 f) (0,[],())=some (.inl (((M7 f).length:Int),[f],())):=by
    simp only [A62];rw [hg 0 (by omega)];rw [show ((0:Nat):Int)=0 from rfl] at b1 b3 b4;rw [E1] at b4;simp only [bO,b1,b3,b4];rfl
  rw [H9,s1];simp only [];rw [H9];simp only [A62,hg _ (show -9223372036854775808<=((M7 f).length:Int)/\((M7 f).length:Int)<9223372036854775808 by omega),bO,c1];rfl
theorem C2v{id:Int}(hid:1<=id/\id<=2147483647){r:A5D}{xs:List Int}(hx:xs.length<=2000){T:F5}(hT:A1M T){o:List Int}(hBI:BI ⟨24,[],0,⟨g0,T,[(id,2,r,xs)],id,[(id,r,xs,0)],o⟩⟩){p:A08}(hp:p∈respL) :
    A1q (bsC A3a ⟨24,[],0,⟨g0,T,[(id,2,r,xs)],id,[(id,r,xs,0)],o⟩⟩) id p=some (mkC 24 [] (B7M A3a (flP p)) 0 ⟨g0,T,[],id,[],[]⟩,M7 (1,5,id,A4M A3a (flP p)),true,())/\
    A1q (mkC 24 [] (B7M A3a (flP p)) 0 ⟨g0,T,[],id,[],[]⟩) id p=some (mkC 24 [] (B7M A3a (flP p)) 0 ⟨g0,T,[],id,[],[]⟩,[],false,()):=by
  obtain ⟨h1,h2,h3,h4⟩:=C9m hp;have hl:=(C9n p).1;have hV:=B51 0 A3H h4;have htl:=A7C hT;have hP:=B7A A3H (B8S h4) (by omega);have hT2:=(C6F A3H (B8S h4)).1;have htl2:=A7C hT2;have hel:=A7C A3H;have hp2:=C8K id true (A4M A3a (flP p)) 1000 hid (by omega);rw [show czN 1000=1000 from rfl] at hp2;simp only [J4] at hp2;rw [D7i id 1 (n:=1000) (by omega) (by omega),bO4.2] at hp2;have hif:=B8G [(1,5,id,A4M A3a (flP p))] (fun f hf=>by rcases B0.1 hf with rfl;exact E0f hid (by omega)) (by simp);rw [D1w] at hif;simp only [B0a,E7] at hif;constructor
  · have hcp:=B8H (bsC A3a ⟨24,[],0,⟨g0,T,[(id,2,r,xs)],id,[(id,r,xs,0)],o⟩⟩) ⟨by simp,by simp,by simp only;omega,by simp only;omega,by simp,fun x hx'=>by simp only [B0] at hx';subst hx';simp only;omega⟩
    have hck:=B9h A3H hBI;have hst:=B4q 24 [] A3a 0 ⟨g0,T,[(id,2,r,xs)],id,[(id,r,xs,0)],o⟩ id (by simp);obtain ⟨e1,e2⟩:=D69 id (2,r,xs);simp only [e1,e2] at hst;simp only [bsC] at hcp hck ⊢;have hdl:J8 [(id,2,r,xs)] 0 (i64.wrap (0+1))=some ([],()):=by
      rw [show J8=C8A from rfl,w64 (by omega) (by omega)];rfl
    have hrd:rd O8 [(id,2,r,xs)] 0=(id,2,r,xs):=rfl;simp only [A1q,A83,show ((24:Nat):Int)=24 from rfl,show ((0:Nat):Int)=0 from rfl] at hcp hck hst ⊢;simp only [hcp,hck,hst,bO,B8B,h1,hrd,V9,E0,A7,G3,B52 p h1,hP,hdl,hp2,hif];rfl
  · have hcp:=B8H (mkC 24 [] (B7M A3a (flP p)) 0 ⟨g0,T,[],id,[],[]⟩) ⟨by simp,by simp,by simp only;omega,by simp only;omega,by simp,fun x hx'=>by cases hx'⟩
    have hst:=B4q 24 [] (B7M A3a (flP p)) 0 ⟨g0,T,[],id,[],[]⟩ id (by simp);have e2:B8O [] id=false:=rfl;simp only [e2] at hst;simp only [A1q,A83,hcp,hst,bO];rfl
set_option maxRecDepth 100000
theorem D49(a:List Int)(ha:a.length<=1048576):∃ r p,B0Q a=some (r,p,())/\r∈reqsL/\p∈respL:=by
  obtain ⟨c0,q0,h0⟩:=D0w a ha;obtain ⟨r,c1,q1,h1,hr⟩:=D45 c0 h0;obtain ⟨p,c2,q2,h2,hp⟩:=D2A c1 h1;simp only [B0Q,B84,q0,q1,q2,bO];exact ⟨r,p,rfl,hr,hp⟩
theorem C9p(a:List Int)(ha:a.length<=1048576):∃ xs n,A2K a=some (xs,n,())/\xs.length<=30/\Byt xs:=by
  obtain ⟨c0,q0,h0⟩:=D0w a ha;obtain ⟨n,c1,q1,h1,hn⟩:=C1T c0 [0,1,5,9,30] h0 (by simp);have hn2:0<=n/\n<=30:=by
    simp only [C3,P3,A4f] at hn;omega
  obtain ⟨xs,c2,q2,h2,hx,hb⟩:=D3a c1 n h1 (by omega);obtain ⟨k,c3,q3,h3,_⟩:=B2D c2 12 h2 (by omega);simp only [A2K,A6V,q0,q1,q2,q3,bO];exact ⟨xs,_,rfl,by omega,hb⟩
theorem exactWhole(a:List Int):B89 a=some (true,()):=by
  simp only [B89,B88,C4a,C9E,bO];by_cases hbig:(a.length:Int)>1048576
  · rw [A0 hbig];rfl
  rw [A8 hbig];obtain ⟨r,p,q1,hr,hp⟩:=D49 a (by omega);obtain ⟨xs,n,q2,hx,hb⟩:=C9p a (by omega);have hid:(1:Int)<=5/\(5:Int)<=2147483647:=by omega
  have hodd:(5:Int).tmod 2=1:=by decide
  have hn:=C1a n;have ea:=C7B A3H hid hr (by omega:xs.length<=2000) n;obtain ⟨eh,hl⟩:=D48 hid hodd hr (by omega:xs.length<=2000) hb hn;have hp3:=C3d;have hBI:BI ⟨24,[],0,E0c 5 r xs⟩:=by
    obtain ⟨h1,h2,h3⟩:=C9k hr;rw [<- D27 hid hodd hr (by omega:xs.length<=2000) hn];refine (C2s D65 (A3F C1o (C6H fun f hf=>?_))).1;rcases C6.1 hf with hf | hf
    · exact C8M (C6F A3H (B8S h3)).2 f hf
    · exact C6I hb _ f hf
  have hT:=hBI.hi.dec;obtain ⟨e1,e2⟩:=C2v hid (by omega:xs.length<=2000) hT hBI hp;obtain ⟨p1,p2,p3,p4⟩:=C9m hp;have hl2:=(C9n p).1;have hV:=B51 0 A3H p4;have hVb:=(C6F A3H (B8S p4)).2;have er:=C2u (f:=(1,5,5,A4M A3a (flP p))) (E0f hid (by omega)) hVb;have ef:=C8U (g:=g0) (.inl ⟨rfl,rfl,rfl⟩) (f:=(1,5,5,A4M A3a (flP p))) ⟨by simp only;omega,by simp only;omega,by simp only;omega,by simp only;omega,hVb⟩;rw [E0g hid (by omega)] at ef;have eg:=B8M A3H hVb (by omega) (most:=4096) (by omega);rw [C3m A3H (B8S p4) (by omega)] at eg;have eo:=C9o hp;have es:=C6B xs (by simp only [maxLen];omega);have hc1:rd B0P [((5:Int),r,xs,(0:Int))] 0=(5,r,xs,0):=rfl;have hf1:rd W7 [((1:Int),(5:Int),(5:Int),A4M A3a (flP p))] 0=(1,5,5,A4M A3a (flP p)):=rfl;have d1:decide (((1:Nat):Int)=1)=true:=rfl;have d2:decide ((0:Int)<((1:Nat):Int))=true:=rfl;have d0:decide (((([]:List A3g).length:Nat):Int)=0)=true:=rfl;have e1':A1q (bsC A3a ⟨24,[],0,E0c 5 r xs⟩) 5 p=_:=e1;simp only [A7,q1,q2,bO,C9h,C9H];rw [show A7e (4096,[]) 5 r xs n=_ from ea];simp only [bO];rw [gA (by omega),eh];simp only [bO,hc1,G3,V9,E0,A7,B2,es,eqM,B9r,bSl,d1,d2];rw [e1'];simp only [bO,er,G3,d1,d2,d0,V9,E0,A7,B2,bSl,hf1,ef];rw [show A3T (4096,[]) 4096 (A4M A3a (flP p))=_ from eg];simp only [bO,eo,e2,eqI,V9,B9r,B2,L6]
end Go.Proofs.YthnfghmjipikhaaGreatDoor.Ev
