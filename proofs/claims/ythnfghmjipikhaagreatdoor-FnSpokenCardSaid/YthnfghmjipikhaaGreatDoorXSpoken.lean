/- What the plain functions of the program and of the reference answer: laws of plain data. -/
import Derived.Test.YthnfghmjipikhaaGreatDoorXSpokena
set_option linter.unusedVariables false
set_option linter.unusedSimpArgs false
set_option linter.unusedSectionVars false
namespace Go.Proofs.YthnfghmjipikhaaGreatDoor.Ev
set_option maxRecDepth 100000
set_option maxRecDepth 100000
set_option maxRecDepth 100000
set_option maxRecDepth 100000
set_option maxRecDepth 100000
set_option maxRecDepth 100000
set_option maxRecDepth 100000
set_option maxRecDepth 100000
set_option maxRecDepth 100000
set_option maxRecDepth 100000
set_option maxRecDepth 100000
set_option maxRecDepth 100000
set_option maxRecDepth 100000
set_option maxRecDepth 100000
set_option maxRecDepth 100000
set_option maxRecDepth 100000
theorem B4e{b:List Int}(hb:Byt b)(hl:b.length<=500000000)(p:Nat)(hp:p<=1000000000):A3I b (p:Int)=some (J5 b p):=by
  have e0:=B4d hb hl p 7 hp (by omega);rw [show ((7:Nat):Int)=7 from rfl] at e0;simp only [A3I,A9l,e0,bO];unfold J5;by_cases h1:(B3 b p 7).2.2.1=false
  · rw [if_pos h1,h1];rfl
  have h1':(B3 b p 7).2.2.1=true:=by simpa using h1
  obtain ⟨r1,r2,r3,r4⟩:=A23 b p 7 (by omega) h1';rw [if_neg h1,h1',w64 (n:=(b.length:Int)-(B3 b p 7).2.1) (by omega) (by omega),w64 (n:=(B3 b p 7).2.1+(B3 b p 7).1) (by omega) (by omega)];simp only [Bool.not_true,cond_false];by_cases h2:(B3 b p 7).1>4000
  · rw [if_pos h2,A0 h2];rfl
  rw [if_neg h2,A3 h2];by_cases h3:(B3 b p 7).1>(b.length:Int)-(B3 b p 7).2.1
  · rw [if_pos h3,A0 h3];rfl
  obtain ⟨q1,q2⟩:=B7p hb (show p<b.length by omega);have e3:((B3 b p 7).2.1+(B3 b p 7).1).toNat=(B3 b p 7).2.1.toNat+(B3 b p 7).1.toNat:=by omega
  rw [if_neg h3,A3 h3];simp only [cond_false,bSl];rw [A0 (show (0:Int)<=(B3 b p 7).2.1 by omega),A0 (show (B3 b p 7).2.1<=(B3 b p 7).2.1+(B3 b p 7).1 by omega),A0 (show (B3 b p 7).2.1+(B3 b p 7).1<=(b.length:Int) by omega),A0 (show (0:Int)<=(p:Int) by omega),A0 (show (p:Int)<(b.length:Int) by omega),q1,e3];simp only [cond_true];rw [show ((b.take ((B3 b p 7).2.1.toNat+(B3 b p 7).1.toNat)).drop (B3 b p 7).2.1.toNat)=A9G b (B3 b p 7).2.1.toNat (B3 b p 7).1.toNat from rfl,D34 _ (D9g hb _ _) (Nat.le_trans (D9h _ _ _) hl)];simp only [bO];by_cases h4:byN b p<128
  · rw [if_pos h4,A0 (show (byN b p:Int)<128 by omega)];rfl
  rw [if_neg h4,A3 (show ¬ (byN b p:Int)<128 by omega)];simp only [cond_false];by_cases h5:(A6E (A9G b (B3 b p 7).2.1.toNat (B3 b p 7).1.toNat)).2.1=false
  · rw [if_pos h5,h5];rfl
  rw [if_neg h5,show (A6E (A9G b (B3 b p 7).2.1.toNat (B3 b p 7).1.toNat)).2.1=true by simpa using h5];by_cases h6:(((A6E (A9G b (B3 b p 7).2.1.toNat (B3 b p 7).1.toNat)).1.size:Int)>4000)
  · rw [if_pos h6,A0 h6];rfl
  · rw [if_neg h6,A3 h6];rfl
set_option maxRecDepth 100000
abbrev noF:A5:=(⟨#[]⟩,⟨#[]⟩)
noncomputable def A01(t:A9)(i:Int):A5×Bool×Unit:=
  if i<=61 then (if 1<=i then (rd A6 firstT (i-1),true,()) else (noF,false,())) else if i-61>(t.2.length:Int) then (noF,false,()) else (rd A6 t.2 (i-62),true,())
theorem D8D:∀ {fs:List A5} {f:A5},f∈fs->ofF f<=szT fs
  | [],_,h=>by cases h
  | x::fs,f,h=>by
    have h2:=A11 fs;have h3:=B2l x;simp only [szT];rcases List.mem_cons.1 h with rfl | h
    · omega
    · have:=D8D h;omega
theorem E2a(xs:List A5)(i:Int):rd A6 xs i∈xs\/rd A6 xs i=noF:=by
  unfold rd;rw [List.getD_eq_getElem?_getD];by_cases h:i.toNat<xs.length
  · rw [List.getElem?_eq_getElem h];exact .inl (List.getElem_mem h)
  · rw [List.getElem?_eq_none (by omega)];exact .inr rfl
theorem D35{t:A9}(ht:T6 t)(i:Int):(A01 t i).1.1.size<=10000/\(A01 t i).1.2.size<=10000:=by
  unfold A01;have h0:noF.1.size<=10000/\noF.2.size<=10000:=⟨by decide,by decide⟩;split
  · split
    · rcases E2a firstT (i-1) with h | h
      · have:=Nat.le_of_ble_eq_true (List.all_eq_true.1 D9R _ h)
        simp only;omega
      · simp only [h];exact h0
    · exact h0
  · split
    · exact h0
    · rcases E2a t.2 (i-62) with h | h
      · have h1:=D8D h
        obtain ⟨_,h2,h3⟩:=ht;unfold ofF at h1;simp only;omega
      · simp only [h];exact h0
theorem D0p(t:A9)(i:Int)(hi:0<=i/\i<=100000000)(ht:t.2.length<=1000000):A6Q t i=some (A01 t i):=by
  simp only [A6Q,B4F,A4k,A7s,H1,B0j,bO];unfold A01;by_cases h1:i<=61
  · rw [A0 h1,if_pos h1]
    by_cases h2:1<=i
    · rw [A0 ⟨h2,h1⟩,if_pos h2,w64 (n:=i-1) (by omega) (by omega),A0 (show 0<=i-1 by omega),A0 (show i-1<(firstT.length:Int) by rw [A8A];omega)]
      rfl
    · rw [A3 (show ¬ (1<=i/\i<=61) by omega),if_neg h2]
      rfl
  · rw [A3 h1,if_neg h1,w64 (n:=i-61) (by omega) (by omega),w64 (n:=i-61-1) (by omega) (by omega)]
    by_cases h2:i-61>(t.2.length:Int)
    · rw [A0 h2,if_pos h2];rfl
    · rw [A3 h2,if_neg h2,A0 (show 0<=i-61-1 by omega),A0 (show i-61-1<(t.2.length:Int) by omega),show i-61-1=i-62 by omega]
      rfl
noncomputable def D9i(t:A9)(f:A5):A9:=match O2 t f with
  | some x=>x.1
  | none=>t
noncomputable def D9j(t:A9)(n:Int):A9:=match L3 (n,t.2) with
  | some x=>x.1
  | none=>t
theorem D8E{t:A9}(ht:T6 t){f:A5}(h1:f.1.size<=10000)(h2:f.2.size<=10000):O2 t f=some (D9i t f,())/\T6 (D9i t f):=by
  obtain ⟨q0,q1,q2⟩:=ht;obtain ⟨T,e,hT⟩:=E6P t f q0 (by omega) (by unfold ofF;omega);have hv:D9i t f=(t.1,T):=by unfold D9i;rw [e]
  rw [hv];exact ⟨e,q0,q1,hT⟩
theorem D8F{t:A9}(ht:T6 t){n:Int}(h1:0<=n)(h2:n<=4096):L3 (n,t.2)=some (D9j t n,())/\T6 (D9j t n):=by
  obtain ⟨q0,q1,q2⟩:=ht;obtain ⟨k,_,_,e,hT⟩:=E2K n t.2 h1 (by omega) (by omega);have hv:D9j t n=(n,t.2.take k):=by unfold D9j;rw [e]
  rw [hv];exact ⟨e,h1,h2,hT⟩
theorem D8G{t:A9}(h:T6 t):M9 t=some (true,()):=by
  obtain ⟨h0,h1,h2⟩:=h;obtain ⟨m,fs⟩:=t;simp only at h0 h1 h2;have e:A7p (m,fs)=some (szT fs,()):=by
    have hl:=A11 fs;have:=F4 (A7G A1r (m,fs)) (fun k=>(szT (fs.take k),(k:Int),())) fs.length (szT fs,()) (fun k hk=>by
      have h3:(k:Int)<(fs.length:Int):=by omega
      have h4:(0:Int)<=(k:Int):=by omega
      have h5:=C5W fs hk;have h6:=C5V fs (k+1);have h7:=B2l fs[k];have h8:=A11 (fs.take k);have e1:rd A6 fs (k:Int)=fs[k]:=A49 (k:=A6) hk;simp only [A7G,A0 h3,A0 h4,cond_true,e1];rw [C2E _ (by omega)];simp only [A4];rw [w64 (n:=szT (fs.take k)+ofF fs[k]) (by omega) (by omega),w64 (n:=(k:Int)+1) (by omega) (by omega),h5];rfl) (by
      have h3:¬ ((fs.length:Nat):Int)<(fs.length:Int):=by omega
      simp only [A7G,A3 h3,cond_false];rw [List.take_of_length_le (by omega)])
    simp only [A7p,B7T];rw [show ((0:Int),(0:Int),())=(fun k:Nat=>(szT (fs.take k),(k:Int),())) 0 by simp [szT]];rw [this]
    try rfl
  simp only [M9,B4D,H1,A4,e];rw [A0 ⟨h0,h1⟩,A0 h2];rfl
noncomputable def A4B(t:A9)(b:List Int)(p m:Nat):Int×A5×Nat:=
  if (B3 b p m).2.2.1=false then (1,noF,0)
  else if (B3 b p m).1=0 then
    (if (J5 b (B3 b p m).2.1.toNat).2.2.1=false then (1,noF,0)
     else if (J5 b (J5 b (B3 b p m).2.1.toNat).2.1.toNat).2.2.1=false then (1,noF,0)
     else (0,((J5 b (B3 b p m).2.1.toNat).1,(J5 b (J5 b (B3 b p m).2.1.toNat).2.1.toNat).1),(J5 b (J5 b (B3 b p m).2.1.toNat).2.1.toNat).2.1.toNat))
  else if (A01 t (B3 b p m).1).2.1=false then (2,noF,0)
  else if (J5 b (B3 b p m).2.1.toNat).2.2.1=false then (1,noF,0)
  else (0,((A01 t (B3 b p m).1).1.1,(J5 b (B3 b p m).2.1.toNat).1),(J5 b (B3 b p m).2.1.toNat).2.1.toNat)
theorem D0q{t:A9}(ht:T6 t){b:List Int}{p m:Nat}(hm:m<=8)(h:(A4B t b p m).1=0):(A4B t b p m).2.1.1.size<=10000/\(A4B t b p m).2.1.2.size<=10000/\p<(A4B t b p m).2.2/\(A4B t b p m).2.2<=b.length:=by
  unfold A4B at h ⊢;by_cases h1:(B3 b p m).2.2.1=false
  · rw [if_pos h1] at h;cases h
  have r1:=A23 b p m hm (by simpa using h1);rw [if_neg h1] at h ⊢;by_cases h2:(B3 b p m).1=0
  · rw [if_pos h2] at h ⊢
    by_cases h3:(J5 b (B3 b p m).2.1.toNat).2.2.1=false
    · rw [if_pos h3] at h;cases h
    rw [if_neg h3] at h ⊢;have r2:=A7f (B3 b p m).2.1.toNat (by simpa using h3);by_cases h4:(J5 b (J5 b (B3 b p m).2.1.toNat).2.1.toNat).2.2.1=false
    · rw [if_pos h4] at h;cases h
    rw [if_neg h4];have r3:=A7f (J5 b (B3 b p m).2.1.toNat).2.1.toNat (by simpa using h4);simp only;omega
  · rw [if_neg h2] at h ⊢
    by_cases h5:(A01 t (B3 b p m).1).2.1=false
    · rw [if_pos h5] at h;cases h
    rw [if_neg h5] at h ⊢;by_cases h3:(J5 b (B3 b p m).2.1.toNat).2.2.1=false
    · rw [if_pos h3] at h;cases h
    rw [if_neg h3];have r2:=A7f (B3 b p m).2.1.toNat (by simpa using h3);have r4:=D35 ht (B3 b p m).1;simp only;omega
section
variable {b:List Int} (hb:Byt b) (hl:b.length<=500000000)
include hb hl
theorem B4f(p m:Nat)(hp:p<=1000000000)(hm:1<=m/\m<=8)(t:A9)(l:List A5) :
    D9 (b,(p:Int),0,t,l) (m:Int)=some (if (B3 b p m).2.2.1=false then (0,(b,(p:Int),1,t,l),()) else ((B3 b p m).1,(b,(B3 b p m).2.1,0,t,l),())):=by
  simp only [D9,A0p,B4d hb hl p m hp hm,bO];by_cases h1:(B3 b p m).2.2.1=false
  · rw [if_pos h1,h1];rfl
  · rw [if_neg h1,show (B3 b p m).2.2.1=true by simpa using h1];rfl
theorem B4g(p:Nat)(hp:p<=1000000000)(t:A9)(l:List A5) :
    J2 (b,(p:Int),0,t,l)=some (if (J5 b p).2.2.1=false then (⟨#[]⟩,(b,(p:Int),1,t,l),()) else ((J5 b p).1,(b,(J5 b p).2.1,0,t,l),())):=by
  simp only [J2,W5,B4e hb hl p hp,bO];by_cases h1:(J5 b p).2.2.1=false
  · rw [if_pos h1,h1];rfl
  · rw [if_neg h1,show (J5 b p).2.2.1=true by simpa using h1];rfl
theorem C5k(p:Nat)(hp:p<=1000000000)(c:Int)(hc:c≠0)(t:A9)(l:List A5) :
    J2 (b,(p:Int),c,t,l)=some (⟨#[]⟩,(b,(p:Int),c,t,l),()):=by
  simp only [J2,W5,B4e hb hl p hp,bO,C0,J1,A3 hc,Bool.not_false,cond_true,cond_false]
theorem B7q(p:Nat)(c:Int)(t:A9)(ht:T6 t)(l:List A5)(i:Int)(hi:0<=i/\i<=100000000) :
    E2 (b,(p:Int),c,t,l) i=some ((A01 t i).1,(if (A01 t i).2.1=false then (b,(p:Int),if c=0 then 2 else c,t,l) else (b,(p:Int),c,t,l)),()):=by
  have h:=B2n ht;simp only [E2,A1V,D0p t i hi (by omega),bO,C0,J1];by_cases h1:(A01 t i).2.1=false
  · rw [if_pos h1,h1]
    by_cases hc:c=0
    · rw [A0 hc,if_pos hc];rfl
    · rw [A3 hc,if_neg hc];rfl
  · rw [if_neg h1,show (A01 t i).2.1=true by simpa using h1];rfl
theorem D36(p:Nat)(c:Int)(hc:c≠0)(t:A9)(ht:T6 t)(l:List A5)(i:Int)(hi:0<=i/\i<=100000000) :
    E2 (b,(p:Int),c,t,l) i=some ((A01 t i).1,(b,(p:Int),c,t,l),()):=by
  rw [B7q hb hl p c t ht l i hi,if_neg hc];split<;>rfl
theorem D0r(p:Nat)(t:A9)(ht:T6 t)(l:List A5)(i:Int)(hi:0<=i/\i<=100000000) :
    E2 (b,(p:Int),0,t,l) i=some ((A01 t i).1,(b,(p:Int),(if (A01 t i).2.1=false then 2 else 0),t,l),()):=by
  rw [B7q hb hl p 0 t ht l i hi,if_pos rfl];split<;>rfl
theorem B93(p m:Nat)(hp:p<=1000000000)(hm:1<=m/\m<=8)(t:A9)(ht:T6 t)(l:List A5) :
    ∃ f q,H4 (b,(p:Int),0,t,l) (m:Int)=some (f,(b,q,(A4B t b p m).1,t,l),())/\((A4B t b p m).1=0->f=(A4B t b p m).2.1/\q=((A4B t b p m).2.2:Int)):=by
  simp only [H4,R7,B4f hb hl p m hp hm t l,bO];unfold A4B;by_cases h1:(B3 b p m).2.2.1=false
  · rw [if_pos h1,if_pos h1]
    exact ⟨_,_,rfl,fun h=>by cases h⟩
  have r1:=A23 b p m hm.2 (by simpa using h1);have e1:(B3 b p m).2.1=(((B3 b p m).2.1.toNat:Nat):Int):=by omega
  rw [if_neg h1,if_neg h1];simp only [decide_true,Bool.not_true,cond_false];by_cases h2:(B3 b p m).1=0
  · rw [if_pos h2,A0 h2]
    simp only [cond_true];rw [e1,B4g hb hl _ (by omega) t l,Int.toNat_natCast];simp only [bO];by_cases h3:(J5 b (B3 b p m).2.1.toNat).2.2.1=false
    · rw [if_pos h3,if_pos h3]
      simp only [bSl];rw [C5k hb hl _ (by omega) 1 (by decide) t l];exact ⟨_,_,rfl,fun h=>by cases h⟩
    have r2:=A7f (B3 b p m).2.1.toNat (by simpa using h3);have e2:(J5 b (B3 b p m).2.1.toNat).2.1=(((J5 b (B3 b p m).2.1.toNat).2.1.toNat:Nat):Int):=by omega
    rw [if_neg h3,if_neg h3];simp only [bSl];rw [e2,B4g hb hl _ (by omega) t l,Int.toNat_natCast];simp only [bO];by_cases h4:(J5 b (J5 b (B3 b p m).2.1.toNat).2.1.toNat).2.2.1=false
    · rw [if_pos h4,if_pos h4]
      exact ⟨_,_,rfl,fun h=>by cases h⟩
    · have r3:=A7f (J5 b (B3 b p m).2.1.toNat).2.1.toNat (by simpa using h4)
      rw [if_neg h4,if_neg h4];exact ⟨_,_,rfl,fun _=>⟨rfl,by simp only;omega⟩⟩
  · rw [if_neg h2,A3 h2]
    simp only [cond_false];rw [e1,B7q hb hl _ 0 t ht l _ (by omega),Int.toNat_natCast];simp only [bO];by_cases h5:(A01 t (B3 b p m).1).2.1=false
    · rw [if_pos h5,if_pos h5]
      simp only [bSl,if_true];rw [C5k hb hl _ (by omega) 2 (by decide) t l];exact ⟨_,_,rfl,fun h=>by cases h⟩
    rw [if_neg h5,if_neg h5];simp only [bSl];rw [B4g hb hl _ (by omega) t l];simp only [bO];by_cases h3:(J5 b (B3 b p m).2.1.toNat).2.2.1=false
    · rw [if_pos h3,if_pos h3]
      exact ⟨_,_,rfl,fun h=>by cases h⟩
    · have r2:=A7f (B3 b p m).2.1.toNat (by simpa using h3)
      rw [if_neg h3,if_neg h3];exact ⟨_,_,rfl,fun _=>⟨rfl,by simp only;omega⟩⟩
end
set_option maxRecDepth 100000
abbrev RdT:=Int×A9×Nat×List A5
def A9H(t:A9)(p:Nat)(l:List A5)(f:A5):RdT:=(if 100<l.length+1 then 4 else 0,t,p,l ++ [f])
noncomputable def B2q(b:List Int)(most:Int)(t:A9)(p:Nat)(l:List A5):RdT:=
  if 128<=byN b p then
    (if (B3 b p 7).2.2.1=false then (1,t,p,l) else if (A01 t (B3 b p 7).1).2.1=false then (2,t,p,l) else A9H t (B3 b p 7).2.1.toNat l (A01 t (B3 b p 7).1).1)
  else if 64<=byN b p then (if (A4B t b p 6).1=0 then A9H (D9i t (A4B t b p 6).2.1) (A4B t b p 6).2.2 l (A4B t b p 6).2.1 else ((A4B t b p 6).1,t,p,l))
  else if 32<=byN b p then (if (B3 b p 5).2.2.1=false then (1,t,p,l) else if (B3 b p 5).1>most\/0<l.length then (3,t,p,l) else (0,D9j t (B3 b p 5).1,(B3 b p 5).2.1.toNat,l))
  else (if (A4B t b p 4).1=0 then A9H t (A4B t b p 4).2.2 l (A4B t b p 4).2.1 else ((A4B t b p 4).1,t,p,l))
def RdK(b:List Int)(t:A9)(p:Nat)(l:List A5):Prop:=T6 t/\p<=b.length/\l.length<=100/\∀ f∈l,f.1.size<=10000/\f.2.size<=10000
theorem C5l{b:List Int}{t:A9}{p p':Nat}{l:List A5}{f:A5}(ht:T6 t)(hp:p'<=b.length)(hlt:p<p')(hk:l.length<=100/\∀ f∈l,f.1.size<=10000/\f.2.size<=10000)(h1:f.1.size<=10000)(h2:f.2.size<=10000)(h:(A9H t p' l f).1=0) :
    RdK b (A9H t p' l f).2.1 (A9H t p' l f).2.2.1 (A9H t p' l f).2.2.2/\p<(A9H t p' l f).2.2.1:=by
  unfold A9H at h ⊢;by_cases h3:100<l.length+1
  · simp only [if_pos h3] at h;cases h
  · refine ⟨⟨ht,hp,by simp only [List.length_append,List.length_singleton];omega,fun x hx=>?_⟩,hlt⟩
    rcases List.mem_append.1 hx with q | q
    · exact hk.2 x q
    · rcases List.mem_singleton.1 q with rfl
      exact ⟨h1,h2⟩
theorem D8H{b:List Int}{most:Int}(hmost:most<=4096){t:A9}{p:Nat}{l:List A5}(hk:RdK b t p l)(h:(B2q b most t p l).1=0):RdK b (B2q b most t p l).2.1 (B2q b most t p l).2.2.1 (B2q b most t p l).2.2.2/\p<(B2q b most t p l).2.2.1:=by
  obtain ⟨ht,hp,hl⟩:=hk;unfold B2q at h ⊢;by_cases c1:128<=byN b p
  · rw [if_pos c1] at h ⊢
    by_cases h1:(B3 b p 7).2.2.1=false
    · rw [if_pos h1] at h;cases h
    rw [if_neg h1] at h ⊢;have r1:=A23 b p 7 (by omega) (by simpa using h1);by_cases h2:(A01 t (B3 b p 7).1).2.1=false
    · rw [if_pos h2] at h;cases h
    rw [if_neg h2] at h ⊢;have r2:=D35 ht (B3 b p 7).1;exact C5l ht (by omega) (by omega) hl r2.1 r2.2 h
  rw [if_neg c1] at h ⊢;by_cases c2:64<=byN b p
  · rw [if_pos c2] at h ⊢
    by_cases h1:(A4B t b p 6).1=0
    · rw [if_pos h1] at h ⊢
      obtain ⟨q1,q2,q3,q4⟩:=D0q ht (by omega) h1;exact C5l (D8E ht q1 q2).2 q4 q3 hl q1 q2 h
    · rw [if_neg h1] at h;exact absurd h h1
  rw [if_neg c2] at h ⊢;by_cases c3:32<=byN b p
  · rw [if_pos c3] at h ⊢
    by_cases h1:(B3 b p 5).2.2.1=false
    · rw [if_pos h1] at h;cases h
    rw [if_neg h1] at h ⊢;have r1:=A23 b p 5 (by omega) (by simpa using h1);by_cases h2:(B3 b p 5).1>most\/0<l.length
    · rw [if_pos h2] at h;cases h
    rw [if_neg h2];exact ⟨⟨(D8F ht r1.1 (by omega)).2,by simp only;omega,hl⟩,by simp only;omega⟩
  rw [if_neg c3] at h ⊢;by_cases h1:(A4B t b p 4).1=0
  · rw [if_pos h1] at h ⊢
    obtain ⟨q1,q2,q3,q4⟩:=D0q ht (by omega) h1;exact C5l ht q4 q3 hl q1 q2 h
  · rw [if_neg h1] at h;exact absurd h h1
theorem D5b(t:A9)(p:Nat)(l:List A5)(f:A5):(if 100<l.length+1 then (if (0:Int)=0 then 4 else 0) else 0)=(A9H t p l f).1:=by
  unfold A9H;by_cases h:100<l.length+1
  · rw [if_pos h,if_pos rfl]
    simp only [if_pos h]
  · rw [if_neg h]
    simp only [if_neg h]
theorem E53(l:List A5){c:Int}(h:c≠0):(if 100<l.length+1 then (if c=0 then 4 else c) else c)=c:=by
  rw [if_neg h];split<;>rfl
theorem C5m(b:List Int)(q c:Int)(t:A9)(l:List A5)(f:A5)(hl:l.length<=1000) :
    (bif decide (l.length+([f]:List A5).length<=9223372036854775807) then bif decide ((l.length+([f]:List A5).length)*32<=140737488355328) then bif (decide (((l ++ [f]).length:Int)>100)) then A4 (C0 (b,(q,(c,(t,(l ++ [f]))))) 4) fun c63=>some (c63.1,()) else some ((b,(q,(c,(t,(l ++ [f]))))),()) else none else none) =
      some ((b,q,(if 100<l.length+1 then (if c=0 then 4 else c) else c),t,l ++ [f]),()):=by
  rw [D2a (by simp;omega)];by_cases h:100<l.length+1
  · rw [A0 (show ((l ++ [f]).length:Int)>100 by simp;omega),if_pos h]
    simp only [cond_true,C0,J1];by_cases hc:c=0
    · rw [A0 hc,if_pos hc];rfl
    · rw [A3 hc,if_neg hc];rfl
  · rw [A3 (show ¬ ((l ++ [f]).length:Int)>100 by simp;omega),if_neg h]
    rfl
theorem D37{t:A9}(ht:T6 t){n:Int}(h1:0<=n)(h2:n<=4096):A7w t n=some (D9j t n,()):=by
  have hl:=B2n ht;simp only [A7w,B7c,A2j t (by omega),H1,D8G ht,bO,A0 (show 0<=n/\n<=4096 from ⟨h1,h2⟩),Bool.not_true,cond_false,bSl,(D8F ht h1 h2).1]
theorem D9k{b:List Int}(hb:Byt b)(hl:b.length<=500000000)(most:Int)(hmost:0<=most/\most<=4096)(t:A9)(p:Nat)(l:List A5)(hk:RdK b t p l)(hp:p<b.length) :
    ∃ q c t' l',E8 (b,(p:Int),0,t,l) most=some ((b,q,c,t',l'),())/\c=(B2q b most t p l).1/\((B2q b most t p l).1=0->q=((B2q b most t p l).2.2.1:Int)/\t' = (B2q b most t p l).2.1/\l' = (B2q b most t p l).2.2.2):=by
  obtain ⟨ht,_,hl1,hl2⟩:=hk;obtain ⟨q1,q2⟩:=B7p hb hp;have d1:decide ((0:Int)<=(p:Int))=true:=A0 (by omega);have d2:decide ((p:Int)<(b.length:Int))=true:=A0 (by omega);simp only [E8,U9,d1,d2,cond_true,q1];unfold B2q;by_cases c1:128<=byN b p
  · rw [A0 (show (byN b p:Int)>=128 by omega),if_pos c1]
    have e:=B4f hb hl p 7 (by omega) (by omega) t l;rw [show ((7:Nat):Int)=7 from rfl] at e;simp only [cond_true,e,bO];by_cases h1:(B3 b p 7).2.2.1=false
    · rw [if_pos h1,if_pos h1]
      simp only [];rw [D36 hb hl p 1 (by decide) t ht l 0 (by omega)];simp only [bO,bSl];rw [show ((A01 t 0).1.1,(A01 t 0).1.2)=(A01 t 0).1 from rfl,C5m b _ 1 t l _ (by omega)];exact ⟨_,_,_,_,rfl,by simp,fun h=>by cases h⟩
    have r1:=A23 b p 7 (by omega) (by simpa using h1);have e1:(B3 b p 7).2.1=(((B3 b p 7).2.1.toNat:Nat):Int):=by omega
    rw [if_neg h1,if_neg h1];simp only [];rw [e1,D0r hb hl _ t ht l _ (by omega),Int.toNat_natCast];simp only [bO,bSl];by_cases h2:(A01 t (B3 b p 7).1).2.1=false
    · rw [if_pos h2,if_pos h2]
      rw [show ((A01 t (B3 b p 7).1).1.1,(A01 t (B3 b p 7).1).1.2)=(A01 t (B3 b p 7).1).1 from rfl,C5m b _ 2 t l _ (by omega)];exact ⟨_,_,_,_,rfl,by simp,fun h=>by cases h⟩
    · rw [if_neg h2,if_neg h2]
      rw [show ((A01 t (B3 b p 7).1).1.1,(A01 t (B3 b p 7).1).1.2)=(A01 t (B3 b p 7).1).1 from rfl,C5m b _ 0 t l _ (by omega)];refine ⟨_,_,_,_,rfl,?_,fun h=>⟨?_,rfl,rfl⟩⟩
      · exact D5b ..
      · unfold A9H;rfl
  rw [A3 (show ¬ (byN b p:Int)>=128 by omega),if_neg c1];simp only [cond_false];by_cases c2:64<=byN b p
  · rw [A0 (show (byN b p:Int)>=64 by omega),if_pos c2]
    obtain ⟨f,q,e,e'⟩:=B93 hb hl p 6 (by omega) (by omega) t ht l;rw [show ((6:Nat):Int)=6 from rfl] at e;simp only [cond_true,e,bO];by_cases h1:(A4B t b p 6).1=0
    · obtain ⟨e1,e2⟩:=e' h1
      obtain ⟨s1,s2,s3,s4⟩:=D0q ht (by omega) h1;subst e1 e2;rw [A0 h1,if_pos h1];simp only [cond_true,(D8E ht s1 s2).1,bO,bSl,h1];rw [show ((A4B t b p 6).2.1.1,(A4B t b p 6).2.1.2)=(A4B t b p 6).2.1 from rfl,C5m b _ 0 (D9i t (A4B t b p 6).2.1) l _ (by omega)];refine ⟨_,_,_,_,rfl,?_,fun h=>⟨?_,rfl,rfl⟩⟩
      · exact D5b ..
      · unfold A9H;rfl
    · rw [A3 h1,if_neg h1]
      simp only [cond_false,bSl];rw [show (f.1,f.2)=f from rfl,C5m b _ _ t l _ (by omega)];refine ⟨_,_,_,_,rfl,?_,fun h=>absurd h h1⟩;exact E53 l h1
  rw [A3 (show ¬ (byN b p:Int)>=64 by omega),if_neg c2];simp only [cond_false];by_cases c3:32<=byN b p
  · rw [A0 (show (byN b p:Int)>=32 by omega),if_pos c3]
    have e:=B4f hb hl p 5 (by omega) (by omega) t l;rw [show ((5:Nat):Int)=5 from rfl] at e;simp only [cond_true,N7,S7,e,bO];by_cases h1:(B3 b p 5).2.2.1=false
    · rw [if_pos h1,if_pos h1]
      simp only [A3 (show ¬ (0:Int)>most by omega),cond_false,C0,J1,bO,show decide ((1:Int)=0)=false from rfl];cases decide ((l.length:Int)>0)<;>exact ⟨_,_,_,_,rfl,rfl,fun h=>by cases h⟩
    have r1:=A23 b p 5 (by omega) (by simpa using h1);rw [if_neg h1,if_neg h1];simp only [C0,J1,bO,decide_true,cond_true];by_cases h2:(B3 b p 5).1>most
    · rw [A0 h2,if_pos (.inl h2)]
      exact ⟨_,_,_,_,rfl,rfl,fun h=>by cases h⟩
    · rw [A3 h2]
      simp only [cond_false];by_cases h3:0<l.length
      · rw [A0 (show (l.length:Int)>0 by omega),if_pos (.inr h3)]
        exact ⟨_,_,_,_,rfl,rfl,fun h=>by cases h⟩
      · rw [A3 (show ¬ (l.length:Int)>0 by omega),if_neg (by omega)]
        simp only [cond_false,bO,decide_true,cond_true,D37 ht r1.1 (show (B3 b p 5).1<=4096 by omega),bSr];exact ⟨_,_,_,_,rfl,rfl,fun _=>⟨by omega,rfl,rfl⟩⟩
  rw [A3 (show ¬ (byN b p:Int)>=32 by omega),if_neg c3];obtain ⟨f,q,e,e'⟩:=B93 hb hl p 4 (by omega) (by omega) t ht l;rw [show ((4:Nat):Int)=4 from rfl] at e;simp only [cond_false,e,bO,bSl];by_cases h1:(A4B t b p 4).1=0
  · obtain ⟨e1,e2⟩:=e' h1
    subst e1 e2;rw [if_pos h1];simp only [h1];rw [show ((A4B t b p 4).2.1.1,(A4B t b p 4).2.1.2)=(A4B t b p 4).2.1 from rfl,C5m b _ 0 t l _ (by omega)];refine ⟨_,_,_,_,rfl,?_,fun h=>⟨?_,rfl,rfl⟩⟩
    · exact D5b ..
    · unfold A9H;rfl
  · rw [if_neg h1,show (f.1,f.2)=f from rfl,C5m b _ _ t l _ (by omega)]
    refine ⟨_,_,_,_,rfl,?_,fun h=>absurd h h1⟩;exact E53 l h1
noncomputable def gfM(b:List Int)(most:Int):Nat->A9->Nat->List A5->Int×A9×List A5
  | 0,t,p,l=>(0,t,l)
  | k+1,t,p,l=>if p<b.length then (if (B2q b most t p l).1=0 then gfM b most k (B2q b most t p l).2.1 (B2q b most t p l).2.2.1 (B2q b most t p l).2.2.2 else ((B2q b most t p l).1,t,l)) else (0,t,l)
theorem E2b{b:List Int}{most:Int}(hmost:most<=4096):∀ (k:Nat) (t:A9) (p:Nat) (l:List A5),RdK b t p l->(gfM b most k t p l).1=0->T6 (gfM b most k t p l).2.1/\(gfM b most k t p l).2.2.length<=100/\∀ f∈(gfM b most k t p l).2.2,f.1.size<=10000/\f.2.size<=10000
  | 0,t,p,l,hk,_=>⟨hk.1,hk.2.2⟩
  | k+1,t,p,l,hk,h=>by
    unfold gfM at h ⊢;by_cases h1:p<b.length
    · rw [if_pos h1] at h ⊢
      by_cases h2:(B2q b most t p l).1=0
      · rw [if_pos h2] at h ⊢
        exact E2b hmost k _ _ _ (D8H hmost hk h2).1 h
      · rw [if_neg h2] at h;exact absurd h h2
    · rw [if_neg h1];exact ⟨hk.1,hk.2.2⟩
theorem C9T{b:List Int}(hb:Byt b)(hl:b.length<=500000000)(most:Int)(hmost:0<=most/\most<=4096):∀ (k:Nat) (t:A9) (p:Nat) (l:List A5),RdK b t p l->b.length<=p+k->
    ∃ q t1 t2 l',B9 (V3 E8 b most) (b,(p:Int),0,t.1,t.2,l,())=some (b,q,(gfM b most k t p l).1,t1,t2,l',())/\((gfM b most k t p l).1=0->(t1,t2)=(gfM b most k t p l).2.1/\l' = (gfM b most k t p l).2.2)
  | 0,t,p,l,hk,hle=>by
    have h1:¬ (p:Int)<(b.length:Int):=by omega
    rw [C1];simp only [V3,decide_true,cond_true,A3 h1,cond_false];exact ⟨_,_,_,_,rfl,fun _=>⟨rfl,rfl⟩⟩
  | k+1,t,p,l,hk,hle=>by
    rw [C1];unfold gfM;by_cases h1:p<b.length
    · obtain ⟨q,c,t',l',e,hc,hz⟩:=D9k hb hl most hmost t p l hk h1
      have e':E8 (b,(p:Int),0,(t.1,t.2),l) most=some ((b,q,c,t',l'),()):=e;simp only [V3,decide_true,cond_true,A0 (show (p:Int)<(b.length:Int) by omega),e',bO];rw [if_pos h1];by_cases h2:(B2q b most t p l).1=0
      · obtain ⟨z1,z2,z3⟩:=hz h2
        subst z1 z2 z3;rw [if_pos h2,hc,h2];have hk2:=D8H hmost.2 hk h2;exact C9T hb hl most hmost k _ _ _ hk2.1 (by omega)
      · rw [if_neg h2,C1]
        have hc0:¬ c=0:=by rw [hc];exact h2
        simp only [A3 hc0,cond_false,V3];rw [hc];exact ⟨_,_,_,_,rfl,fun h=>absurd h h2⟩
    · have h1':¬ (p:Int)<(b.length:Int):=by omega
      rw [if_neg h1];simp only [V3,decide_true,cond_true,A3 h1',cond_false];exact ⟨_,_,_,_,rfl,fun _=>⟨rfl,rfl⟩⟩
noncomputable def H7(t:A9)(most:Int)(b:List Int):List A5×A9×Int×Unit:=
  if (gfM b most b.length t 0 []).1=0 then ((gfM b most b.length t 0 []).2.2,(gfM b most b.length t 0 []).2.1,0,()) else ([],t,(gfM b most b.length t 0 []).1,())
theorem C5n{t:A9}(ht:T6 t){most:Int}(hmost:most<=4096)(b:List Int):T6 (H7 t most b).2.1/\(H7 t most b).1.length<=100/\∀ f∈(H7 t most b).1,f.1.size<=10000/\f.2.size<=10000:=by
  unfold H7;by_cases h:(gfM b most b.length t 0 []).1=0
  · rw [if_pos h]
    exact E2b hmost b.length t 0 [] ⟨ht,by omega,by simp,fun f hf=>by cases hf⟩ h
  · rw [if_neg h]
    exact ⟨ht,by simp,fun f hf=>by cases hf⟩
theorem C5o{t:A9}(ht:T6 t){b:List Int}(hb:Byt b)(hl:b.length<=500000000){most:Int}(hmost:0<=most/\most<=4096):A3K t most b=some (H7 t most b):=by
  have htl:=B2n ht;obtain ⟨q,t1,t2,l',e,hz⟩:=C9T hb hl most hmost b.length t 0 [] ⟨ht,by omega,by simp,fun f hf=>by cases hf⟩ (by omega);rw [show ((0:Nat):Int)=0 from rfl] at e;simp only [A3K,A9m,H1,A0 hmost,D8G ht,A2j t (by omega),bO,Bool.not_true,cond_false,bSl,e];unfold H7;by_cases h:(gfM b most b.length t 0 []).1=0
  · obtain ⟨z1,z2⟩:=hz h
    rw [if_pos h,h,<- z1,<- z2];rfl
  · rw [if_neg h,A3 h]
    rfl
set_option maxRecDepth 100000
def nmA(l:List A5)(k:Nat):X0:=(rd A6 l (k:Int)).1
def A4C(l:List A5)(name:X0):Nat->Nat
  | 0=>0
  | k+1=>A4C l name k+(if ((nmA l k).toList == name.toList)=true then 1 else 0)
def A0D(l:List A5)(name:X0):Nat->X0
  | 0=>⟨#[]⟩
  | k+1=>if ((nmA l k).toList == name.toList)=true then (if A4C l name k=0 then (rd A6 l (k:Int)).2 else A0D l name k) else A0D l name k
theorem D8I(l:List A5)(name:X0):∀ k,A4C l name k<=k
  | 0=>Nat.le_refl _
  | k+1=>by have:=D8I l name k;unfold A4C;split<;>omega
theorem A12(l:List A5)(name:X0)(hl:l.length<=1000000):G2 l name=some (A0D l name l.length,(A4C l name l.length:Int),()):=by
  have e:=F4 (A3L l name) (fun k=>(A0D l name k,(A4C l name k:Int),(k:Int),())) l.length (A0D l name l.length,(A4C l name l.length:Int),()) (fun k hk=>by
    have h1:(k:Int)<(l.length:Int):=by omega
    have h2:(0:Int)<=(k:Int):=by omega
    have h3:=D8I l name k;have w1:IntKind.i64.wrap ((k:Int)+1)=((k+1:Nat):Int):=by rw [w64 (by omega) (by omega)];omega
    have w2:IntKind.i64.wrap ((A4C l name k:Int)+1)=((A4C l name k+1:Nat):Int):=by rw [w64 (by omega) (by omega)];omega
    simp only [A3L,A0 h1,A0 h2,cond_true,w1,w2];simp only [A0D,A4C];rw [show (rd A6 l (k:Int)).1=nmA l k from rfl];cases hq:((nmA l k).toList == name.toList) with
    | false=>simp only [cond_false,Bool.false_eq_true,if_false,Nat.add_zero]
    | true=>
      simp only [cond_true,if_true];by_cases h0:A4C l name k=0
      · rw [A0 (show (A4C l name k:Int)=0 by omega),if_pos h0];rfl
      · rw [A3 (show ¬ (A4C l name k:Int)=0 by omega),if_neg h0];rfl) (by
    have h1:¬ ((l.length:Nat):Int)<(l.length:Int):=by omega
    simp only [A3L,A3 h1,cond_false])
  simp only [G2,B4I];have e':B9 (A3L l name) ((⟨#[]⟩:X0),0,0,())=some (A0D l name l.length,(A4C l name l.length:Int),()):=e;rw [e'];rfl
theorem E5r{go:Nat->Bool}{n:Nat}{f:Int×Unit->Option ((Int×Unit)⊕(Unit⊕(Bool×Unit)))}(hs:∀ i:Nat,i<n->f ((i:Int),())=if go i then some (.inl (((i+1:Nat):Int),())) else some (.inr (.inr (false,()))))
    (he:f ((n:Int),())=some (.inr (.inl ()))) (g:Unit->Option (Bool×Unit)) (c:Bool) (hg:g ()=some (c,())):D4 (B9 f (0,())) g=some ((List.range n).all go&&c,()):=by
  obtain ⟨i,h1,h2,h3,h4⟩:=A5m f (fun i=>((i:Int),())) n (fun i=>if i<n then .inr (false,()) else .inl ()) go (fun i hi=>by
    simp only [if_pos hi];exact hs i hi) (by simp only [Nat.lt_irrefl,if_false];exact he)
  have h4':B9 f (0,())=some (if i<n then .inr (false,()) else .inl ()):=h4;rw [h4'];by_cases hi:i<n
  · rw [if_pos hi]
    have:(List.range n).all go=false:=by
      rw [List.all_eq_false];exact ⟨i,List.mem_range.2 hi,by simp [h3 hi]⟩
    simp [D4,this]
  · rw [if_neg hi]
    have:(List.range n).all go=true:=by
      rw [List.all_eq_true];intro j hj;exact h2 j (by have:=List.mem_range.1 hj;omega)
    simp only [D4,this,hg,Bool.true_and]
def D5c(s:X0)(i:Nat):Bool:=decide (65<=bt s (i:Int))&&decide (bt s (i:Int)<=90)
def D38(s:X0):Bool:=(List.range s.size).all (fun i=>!D5c s i)&&!(s.toList == (⟨#[]⟩:X0).toList)
theorem D39(s:X0)(h:s.size<=1000000000):A1u s=some (D38 s,()):=by
  simp only [A1u,B7d];refine E5r (fun i hi=>?_) ?_ _ _ rfl
  · have h1:(i:Int)<(s.size:Int):=by omega
    have h2:(0:Int)<=(i:Int):=by omega
    have w1:IntKind.i64.wrap ((i:Int)+1)=((i+1:Nat):Int):=by rw [w64 (by omega) (by omega)];omega
    simp only [B2P,A0 h1,A0 h2,cond_true,w1];by_cases a:65<=bt s (i:Int)
    · rw [A0 (show bt s (i:Int)>=65 from a)]
      by_cases b:bt s (i:Int)<=90
      · rw [show D5c s i=true by unfold D5c;rw [A0 a,A0 b];rfl,A0 b];rfl
      · rw [show D5c s i=false by unfold D5c;rw [A0 a,A3 b];rfl,A3 b];rfl
    · rw [show D5c s i=false by unfold D5c;rw [A3 a];rfl,A3 (show ¬ bt s (i:Int)>=65 from a)];rfl
  · have h1:¬ (s.size:Int)<(s.size:Int):=by omega
    simp only [B2P,A3 h1,cond_false]
theorem D5d{s:X0}(h:(!(s.toList == (⟨#[]⟩:X0).toList))=true):0<s.size:=by
  rcases Nat.eq_zero_or_pos s.size with h0 | h0
  · exfalso
    have:s=⟨#[]⟩:=ByteArray.ext (Array.eq_empty_of_size_eq_zero h0);rw [this] at h;simp at h
  · exact h0
theorem D5e{s:X0}(h:D38 s=true):0<s.size:=D5d (by
  unfold D38 at h;simp only [Bool.and_eq_true] at h;exact h.2)
abbrev nM:X0:=⟨#[58,109,101,116,104,111,100]⟩
abbrev nS:X0:=⟨#[58,115,99,104,101,109,101]⟩
abbrev nP:X0:=⟨#[58,112,97,116,104]⟩
abbrev nA:X0:=⟨#[58,97,117,116,104,111,114,105,116,121]⟩
def D5f(x:X0):Bool:=(x.toList == nM.toList)||(x.toList == nS.toList)||(x.toList == nP.toList)||(x.toList == nA.toList)
theorem C7f(a b c d x:X0):D0 [a,b,c,d] x=some ((x.toList == a.toList)||(x.toList == b.toList)||(x.toList == c.toList)||(x.toList == d.toList),()):=by
  have s0:E1 [a,b,c,d] x (0,())=bif (x.toList == a.toList) then some (.inr (0,())) else some (.inl (1,())):=rfl
  have s1:E1 [a,b,c,d] x (1,())=bif (x.toList == b.toList) then some (.inr (1,())) else some (.inl (2,())):=rfl
  have s2:E1 [a,b,c,d] x (2,())=bif (x.toList == c.toList) then some (.inr (2,())) else some (.inl (3,())):=rfl
  have s3:E1 [a,b,c,d] x (3,())=bif (x.toList == d.toList) then some (.inr (3,())) else some (.inl (4,())):=rfl
  have s4:E1 [a,b,c,d] x (4,())=some (.inr (-1,())):=rfl;simp only [D0,P0,M1,R8];rw [C1,s0];cases (x.toList == a.toList)
  case true=>rfl
  simp only [cond_false];rw [C1,s1];cases (x.toList == b.toList)
  case true=>rfl
  simp only [cond_false];rw [C1,s2];cases (x.toList == c.toList)
  case true=>rfl
  simp only [cond_false];rw [C1,s3];cases (x.toList == d.toList)
  case true=>rfl
  simp only [cond_false];rw [C1,s4];rfl
def plN(l:List A5):Nat->Bool
  | 0=>false
  | k+1=>plN l k||!decide (bt (nmA l k) 0=58)
def C9U(l:List A5)(k:Nat):Bool:=D38 (nmA l k)&&(bif decide (bt (nmA l k) 0=58) then !plN l k&&D5f (nmA l k)&&decide (A4C l (nmA l k) l.length<=1) else true)
def D8J(l:List A5):Bool:=(List.range l.length).all (C9U l)&&(decide (1<=A4C l nM l.length)&&decide (1<=A4C l nS l.length)&&decide (1<=A4C l nP l.length))
theorem D3A(l:List A5)(hl:l.length<=1000000)(hn:∀ f∈l,f.1.size<=1000000000)(k:Nat)(hk:k<l.length) :
    A2G A1u G2 D0 l (plN l k,(k:Int),())=if C9U l k then some (.inl (plN l (k+1),((k+1:Nat):Int),())) else some (.inr (.inr (false,()))):=by
  have h1:(k:Int)<(l.length:Int):=by omega
  have h2:(0:Int)<=(k:Int):=by omega
  have w1:IntKind.i64.wrap ((k:Int)+1)=((k+1:Nat):Int):=by rw [w64 (by omega) (by omega)];omega
  have hz:(nmA l k).size<=1000000000:=by
    have e:rd A6 l (k:Int)=l[k]:=A49 (k:=A6) hk;unfold nmA;rw [e];exact hn _ (List.getElem_mem hk)
  simp only [A2G,A0 h1,A0 h2,cond_true,w1];rw [show (rd A6 l (k:Int)).1=nmA l k from rfl,D39 _ hz];simp only [bO];unfold C9U;cases hq:D38 (nmA l k) with
  | false=>rfl
  | true=>
    have h0:=D5e hq;rw [A0 (show (0:Int)<((nmA l k).size:Int) by omega),A12 l _ hl,C7f];simp only [Bool.not_true,cond_false,cond_true,bO,Bool.true_and,plN];by_cases h58:bt (nmA l k) 0=58
    · rw [A0 h58]
      simp only [Bool.not_true,cond_false,cond_true,Bool.or_false];rw [show ((nmA l k).toList == nM.toList||(nmA l k).toList == nS.toList||(nmA l k).toList == nP.toList||(nmA l k).toList == nA.toList)=D5f (nmA l k) from rfl];cases plN l k with
      | true=>rfl
      | false=>
        cases D5f (nmA l k) with
        | false=>rfl
        | true=>
          by_cases hc:A4C l (nmA l k) l.length<=1
          · rw [A3 (show ¬ (A4C l (nmA l k) l.length:Int)>1 by omega),A0 hc];rfl
          · rw [A0 (show (A4C l (nmA l k) l.length:Int)>1 by omega),A3 hc];rfl
    · rw [A3 h58]
      simp
theorem E4b(l:List A5)(hl:l.length<=1000000):B9 (A2H G2 l) (0,())=some (decide (1<=A4C l nM l.length)&&decide (1<=A4C l nS l.length)&&decide (1<=A4C l nP l.length),()):=by
  have s0:A2H G2 l (0,())=A4 (G2 l nM) fun c55=>bif (decide (c55.2.1=0)) then some (.inr (false,())) else some (.inl (1,())):=rfl
  have s1:A2H G2 l (1,())=A4 (G2 l nS) fun c55=>bif (decide (c55.2.1=0)) then some (.inr (false,())) else some (.inl (2,())):=rfl
  have s2:A2H G2 l (2,())=A4 (G2 l nP) fun c55=>bif (decide (c55.2.1=0)) then some (.inr (false,())) else some (.inl (3,())):=rfl
  have s3:A2H G2 l (3,())=some (.inr (true,())):=rfl;have hd:∀ n:Nat,decide ((n:Int)=0)=!decide (1<=n):=fun n=>by
    by_cases h:1<=n
    · rw [A0 h,A3 (by omega)];rfl
    · rw [A3 h,A0 (by omega)];rfl
  rw [C1,s0,A12 l _ hl];simp only [bO,hd];cases decide (1<=A4C l nM l.length)
  case false=>rfl
  simp only [Bool.not_true,cond_false];rw [C1,s1,A12 l _ hl];simp only [bO,hd];cases decide (1<=A4C l nS l.length)
  case false=>rfl
  simp only [Bool.not_true,cond_false];rw [C1,s2,A12 l _ hl];simp only [bO,hd];cases decide (1<=A4C l nP l.length)
  case false=>rfl
  simp only [Bool.not_true,cond_false];rw [C1,s3];rfl
theorem D3B(l:List A5)(hl:l.length<=1000000)(hn:∀ f∈l,f.1.size<=1000000000):A83 l=some (D8J l,()):=by
  simp only [A83,B7e];obtain ⟨i,h1,h2,h3,h4⟩:=A5m (A2G A1u G2 D0 l) (fun i=>(plN l i,(i:Int),())) l.length (fun i=>if i<l.length then .inr (false,()) else .inl ()) (C9U l) (fun i hi=>by
    simp only [if_pos hi];exact D3A l hl hn i hi) (by
    have h1:¬ ((l.length:Nat):Int)<(l.length:Int):=by omega
    simp only [Nat.lt_irrefl,if_false,A2G,A3 h1,cond_false])
  have h4':B9 (A2G A1u G2 D0 l) (false,0,())=some (if i<l.length then .inr (false,()) else .inl ()):=h4;rw [h4'];unfold D8J;by_cases hi:i<l.length
  · rw [if_pos hi]
    have:(List.range l.length).all (C9U l)=false:=by
      rw [List.all_eq_false];exact ⟨i,List.mem_range.2 hi,by simp [h3 hi]⟩
    simp [D4,this]
  · rw [if_neg hi]
    have:(List.range l.length).all (C9U l)=true:=by
      rw [List.all_eq_true];intro j hj;exact h2 j (by have:=List.mem_range.1 hj;omega)
    simp only [D4,this,Bool.true_and];exact E4b l hl
def opB(a:X0):Int:=
  bif ((⟨#[80,79,83,84]⟩:X0).toList == a.toList) then 1 else bif ((⟨#[72,69,65,68]⟩:X0).toList == a.toList) then 2 else bif ((⟨#[80,65,84,67,72]⟩:X0).toList == a.toList) then 3 else bif ((⟨#[80,85,84]⟩:X0).toList == a.toList) then 4 else bif ((⟨#[71,69,84]⟩:X0).toList == a.toList) then 5 else bif ((⟨#[68,69,76,69,84,69]⟩:X0).toList == a.toList) then 6 else 0
theorem D9l(a:X0):B4J a=some (opB a,()):=by
  have s1:A1v M2 a (1,())=bif ((⟨#[80,79,83,84]⟩:X0).toList == a.toList) then some (.inr (1,())) else some (.inl (2,())):=rfl
  have s2:A1v M2 a (2,())=bif ((⟨#[72,69,65,68]⟩:X0).toList == a.toList) then some (.inr (2,())) else some (.inl (3,())):=rfl
  have s3:A1v M2 a (3,())=bif ((⟨#[80,65,84,67,72]⟩:X0).toList == a.toList) then some (.inr (3,())) else some (.inl (4,())):=rfl
  have s4:A1v M2 a (4,())=bif ((⟨#[80,85,84]⟩:X0).toList == a.toList) then some (.inr (4,())) else some (.inl (5,())):=rfl
  have s5:A1v M2 a (5,())=bif ((⟨#[71,69,84]⟩:X0).toList == a.toList) then some (.inr (5,())) else some (.inl (6,())):=rfl
  have s6:A1v M2 a (6,())=bif ((⟨#[68,69,76,69,84,69]⟩:X0).toList == a.toList) then some (.inr (6,())) else some (.inl (7,())):=rfl
  have s7:A1v M2 a (7,())=some (.inr (0,())):=rfl;simp only [B4J,C5D,opB];rw [C1,s1];cases ((⟨#[80,79,83,84]⟩:X0).toList == a.toList)
  case true=>rfl
  simp only [cond_false];rw [C1,s2];cases ((⟨#[72,69,65,68]⟩:X0).toList == a.toList)
  case true=>rfl
  simp only [cond_false];rw [C1,s3];cases ((⟨#[80,65,84,67,72]⟩:X0).toList == a.toList)
  case true=>rfl
  simp only [cond_false];rw [C1,s4];cases ((⟨#[80,85,84]⟩:X0).toList == a.toList)
  case true=>rfl
  simp only [cond_false];rw [C1,s5];cases ((⟨#[71,69,84]⟩:X0).toList == a.toList)
  case true=>rfl
  simp only [cond_false];rw [C1,s6];cases ((⟨#[68,69,76,69,84,69]⟩:X0).toList == a.toList)
  case true=>rfl
  simp only [cond_false];rw [C1,s7]
abbrev nUp:X0:=⟨#[47,117,112,47]⟩
theorem C5p(s:X0):O6 s nUp=some (bif decide (4<=s.size)&&((s.extract 0 4).toList == nUp.toList) then (s.extract 4 s.size,true,()) else (s,false,())):=by
  have h4:nUp.size=4:=rfl;simp only [O6,A36,I6,O5,I4,O4,h4];by_cases h:4<=s.size
  · rw [A0 (show (s.size:Int)>=((4:Nat):Int) by omega),A0 h]
    simp only [show decide ((0:Int)<=((4:Nat):Int))=true from rfl,cond_true,bO,Int.toNat_natCast,Bool.true_and];cases ((s.extract 0 4).toList == nUp.toList)<;>rfl
  · rw [A3 (show ¬ (s.size:Int)>=((4:Nat):Int) by omega),A3 h]
    rfl
def C7g(s:X0)(i:Nat):Bool:=decide (48<=bt s (i:Int))&&decide (bt s (i:Int)<=57)
def B2r(s:X0):Nat->Nat
  | 0=>0
  | k+1=>B2r s k*10+(bt s (k:Int)-48).toNat
theorem D8K(s:X0):∀ k,B2r s k+25<=25*10 ^ k
  | 0=>by simp [B2r]
  | k+1=>by
    have h1:=D8K s k;have h2:=B6D s (k:Int);rw [B2r,Nat.pow_succ];omega
def E4c(s:X0)(most:Int):Bool:=decide (1<=(s.size:Int)/\(s.size:Int)<=10)&&(List.range s.size).all (C7g s)&&decide ((B2r s s.size:Int)<=most)&&((itB (B2r s s.size:Int)).toList == s.toList)
theorem C7h(s:X0)(most:Int)(hm:most<=4294967295):A4q s most=some (bif E4c s most then ((B2r s s.size:Int),true,()) else (0,false,())):=by
  simp only [A4q,B2O,H1,bO];unfold E4c;by_cases hr:1<=(s.size:Int)/\(s.size:Int)<=10
  · rw [A0 hr]
    simp only [Bool.not_true,cond_false,Bool.true_and];obtain ⟨i,h1,h2,h3,h4⟩:=A5m (A1t s) (fun i=>((B2r s i:Int),(i:Int),())) s.size (fun i=>if i<s.size then .inr (0,false,()) else .inl ((B2r s s.size:Int),())) (C7g s) (fun i hi=>by
      have h1:(i:Int)<(s.size:Int):=by omega
      have h2:(0:Int)<=(i:Int):=by omega
      have w1:IntKind.i64.wrap ((i:Int)+1)=((i+1:Nat):Int):=by rw [w64 (by omega) (by omega)];omega
      have b1:=C9L s (i:Int);have b2:=B6D s (i:Int);have hn:=D8K s i;have hp:10 ^ i<=10 ^ 10:=Nat.pow_le_pow_right (by omega) (by omega);simp only [if_pos hi,A1t,A0 h1,A0 h2,cond_true,w1];by_cases c1:bt s (i:Int)<48
      · rw [show C7g s i=false by unfold C7g;rw [A3 (show ¬ 48<=bt s (i:Int) by omega)];rfl,A0 c1];rfl
      · rw [A3 c1]
        by_cases c2:bt s (i:Int)>57
        · rw [show C7g s i=false by unfold C7g;rw [A3 (show ¬ bt s (i:Int)<=57 by omega),Bool.and_false],A0 c2];rfl
        · rw [show C7g s i=true by unfold C7g;rw [A0 (show 48<=bt s (i:Int) by omega),A0 (show bt s (i:Int)<=57 by omega)];rfl,A3 c2]
          simp only [cond_false,bSl,if_true];have e1:IntKind.u8.wrap (bt s (i:Int)-48)=bt s (i:Int)-48:=by
            rw [show bt s (i:Int)-48=(((bt s (i:Int)-48).toNat:Nat):Int) by omega];exact D87 (by omega)
          rw [e1,w64 (n:=bt s (i:Int)-48) (by omega) (by omega),w64 (n:=(B2r s i:Int)*10) (by omega) (by omega),w64 (by omega) (by omega),B2r];rw [show (B2r s i:Int)*10+(bt s (i:Int)-48)=((B2r s i*10+(bt s (i:Int)-48).toNat:Nat):Int) by omega]) (by
      have h1:¬ ((s.size:Nat):Int)<(s.size:Int):=by omega
      simp only [Nat.lt_irrefl,if_false,A1t,A3 h1,cond_false])
    have h4':B9 (A1t s) (0,0,())=some (if i<s.size then .inr (0,false,()) else .inl ((B2r s s.size:Int),())):=h4;rw [h4'];by_cases hi:i<s.size
    · rw [if_pos hi]
      have:(List.range s.size).all (C7g s)=false:=by
        rw [List.all_eq_false];exact ⟨i,List.mem_range.2 hi,by simp [h3 hi]⟩
      simp [D4,this]
    · rw [if_neg hi]
      have ha:(List.range s.size).all (C7g s)=true:=by
        rw [List.all_eq_true];intro j hj;exact h2 j (by have:=List.mem_range.1 hj;omega)
      simp only [bSl,ha,Bool.true_and];by_cases hq:(B2r s s.size:Int)<=most
      · rw [A3 (show ¬ (B2r s s.size:Int)>most by omega),A0 hq,D83 _ (by omega) (by omega)]
        simp only [cond_false,bO,Bool.true_and];cases ((itB (B2r s s.size:Int)).toList == s.toList)<;>rfl
      · rw [A0 (show (B2r s s.size:Int)>most by omega),A3 hq]
        rfl
  · rw [A3 hr]
    rfl
set_option maxRecDepth 100000
theorem D8L{l:List A5}(hl:∀ f∈l,f.1.size<=10000/\f.2.size<=10000)(name:X0):∀ k,k<=l.length->(A0D l name k).size<=10000
  | 0,_=>by simp [A0D,ByteArray.size]
  | k+1,h=>by
    have h1:=D8L hl name k (by omega);have e:rd A6 l (k:Int)=l[k]:=A49 (k:=A6) (by omega);unfold A0D;split
    · split
      · rw [e];exact (hl _ (List.getElem_mem _)).2
      · exact h1
    · exact h1
def B4h(op:Int):X0×Int:=if op=1 then (⟨#[117,112,108,111,97,100,45,108,101,110,103,116,104]⟩,1000000000) else if op=3 then (⟨#[117,112,108,111,97,100,45,111,102,102,115,101,116]⟩,1000000000) else if op=4 then (⟨#[117,112,108,111,97,100,45,115,117,109]⟩,4294967295) else (⟨#[]⟩,0)
theorem C0b(op:Int):L9 op=some ((B4h op).1,(B4h op).2,()):=by
  simp only [L9,A3j];unfold B4h;by_cases h1:op=1
  · rw [A0 h1,if_pos h1];rfl
  rw [A3 h1,if_neg h1];by_cases h3:op=3
  · rw [A0 h3,if_pos h3];rfl
  rw [A3 h3,if_neg h3];by_cases h4:op=4
  · rw [A0 h4,if_pos h4];rfl
  · rw [A3 h4,if_neg h4];rfl
theorem D9m(op:Int):(B4h op).2<=4294967295:=by
  unfold B4h;split
  · simp
  · split
    · simp
    · split<;>simp
abbrev noR:A6P:=(0,⟨#[]⟩,0)
def B3G(s:X0):X0×Bool:=bif decide (4<=s.size)&&((s.extract 0 4).toList == nUp.toList) then (s.extract 4 s.size,true) else (s,false)
def B5l(l:List A5):A6P×Int:=
  bif D8J l then
    (if opB (A0D l nM l.length)=0 then (noR,2)
     else bif (B3G (A0D l nP l.length)).2&&idB (B3G (A0D l nP l.length)).1 then
      (bif ((B4h (opB (A0D l nM l.length))).1.toList == (⟨#[]⟩:X0).toList) then ((opB (A0D l nM l.length),(B3G (A0D l nP l.length)).1,0),0)
       else bif decide (A4C l (B4h (opB (A0D l nM l.length))).1 l.length=1)&&E4c (A0D l (B4h (opB (A0D l nM l.length))).1 l.length) (B4h (opB (A0D l nM l.length))).2
         then ((opB (A0D l nM l.length),(B3G (A0D l nP l.length)).1,(B2r (A0D l (B4h (opB (A0D l nM l.length))).1 l.length) (A0D l (B4h (opB (A0D l nM l.length))).1 l.length).size:Int)),0) else (noR,4))
     else (noR,3))
  else (noR,1)
theorem D5g(s:X0)(a b:Nat):(s.extract a b).size<=s.size:=by rw [ByteArray.size_extract];omega
theorem E2c(s:X0):(B3G s).1.size<=s.size:=by
  unfold B3G;cases decide (4<=s.size)&&((s.extract 0 4).toList == nUp.toList)
  · exact Nat.le_refl _
  · exact D5g _ _ _
theorem D5h(l:List A5)(hl:l.length<=1000)(hn:∀ f∈l,f.1.size<=10000/\f.2.size<=10000):B0S l=some ((B5l l).1,(B5l l).2,()):=by
  have hv:=fun name=>D8L hn name l.length (Nat.le_refl _)
  have hi:(B3G (A0D l nP l.length)).1.size<=maxLen:=by have:=E2c (A0D l nP l.length);have:=hv nP;simp only [maxLen];omega
  simp only [B0S,C0J,D3B l (by omega) (fun f hf=>by have:=(hn f hf).1;omega),bO];unfold B5l;cases D8J l
  case false=>rfl
  simp only [Bool.not_true,cond_false,cond_true];have v1:=A12 l nM (by omega);have v2:=A12 l nP (by omega);simp only [v1,v2,bO,D9l];by_cases h0:opB (A0D l nM l.length)=0
  · rw [A0 h0,if_pos h0];rfl
  rw [A3 h0,if_neg h0];simp only [cond_false];have hc:O6 (A0D l nP l.length) nUp=some ((B3G (A0D l nP l.length)).1,(B3G (A0D l nP l.length)).2,()):=by
    rw [C5p];unfold B3G;cases decide (4<=(A0D l nP l.length).size)&&(((A0D l nP l.length).extract 0 4).toList == nUp.toList)<;>rfl
  rw [hc];simp only [bO,D7m _ hi,C0b];cases (B3G (A0D l nP l.length)).2
  case false=>rfl
  cases idB (B3G (A0D l nP l.length)).1
  case false=>rfl
  simp only [Bool.not_true,cond_false,bSl,Bool.and_self,cond_true];cases ((B4h (opB (A0D l nM l.length))).1.toList == (⟨#[]⟩:X0).toList)
  case true=>rfl
  simp only [cond_false];rw [A12 l _ (by omega)];simp only [bO];rw [C7h _ _ (D9m _)];simp only [bO];by_cases h1:A4C l (B4h (opB (A0D l nM l.length))).1 l.length=1
  · rw [A0 (show (A4C l (B4h (opB (A0D l nM l.length))).1 l.length:Int)=1 by omega),A0 h1]
    simp only [Bool.not_true,cond_false,Bool.true_and];cases E4c (A0D l (B4h (opB (A0D l nM l.length))).1 l.length) (B4h (opB (A0D l nM l.length))).2<;>rfl
  · rw [A3 (show ¬ (A4C l (B4h (opB (A0D l nM l.length))).1 l.length:Int)=1 by omega),A3 h1]
    rfl
noncomputable def stV(st ev:Int):Int×Int:=match L4 st ev with
  | some x=>(x.1,x.2.1)
  | none=>(0,1)
theorem D9n(ev:Int):∃ a b,A4n ev=some (a,b,()):=by
  simp only [A4n,B2K];cases decide (ev=1)<;>cases decide (ev=2)<;>cases decide (ev=6)<;>cases decide (ev=7)<;>exact ⟨_,_,rfl⟩
theorem D9o(ev:Int):∃ a b,A4o ev=some (a,b,()):=by
  simp only [A4o,B2L];cases decide (ev=1)<;>cases decide (ev=2)<;>cases decide (ev=4)<;>cases decide (ev=7)<;>cases decide (ev=9)<;>cases decide (ev=5)<;>cases decide (ev=10)<;>exact ⟨_,_,rfl⟩
theorem D5i(ev:Int):∃ a b,W7 ev=some (a,b,()):=by
  simp only [W7,A4p];cases decide (ev=5)<;>cases decide (ev=6)<;>cases decide (ev=7)<;>cases decide (ev=8)<;>cases decide (ev=9)<;>cases decide (ev=10)<;>exact ⟨_,_,rfl⟩
theorem D9p(ev:Int):∃ a b,A0T ev=some (a,b,()):=by
  simp only [A0T,A5V];cases decide (ev=1)<;>cases decide (ev=2)<;>cases decide (ev=3)<;>cases decide (ev=4)<;>cases decide (ev=5)<;>cases decide (ev=10)<;>exact ⟨_,_,rfl⟩
theorem D9q(st ev:Int):L4 st ev=some ((stV st ev).1,(stV st ev).2,()):=by
  have:∃ a b,L4 st ev=some (a,b,()):=by
    obtain ⟨a1,b1,e1⟩:=D9n ev;obtain ⟨a2,b2,e2⟩:=D9o ev;obtain ⟨a3,b3,e3⟩:=D5i ev;obtain ⟨a4,b4,e4⟩:=D9p ev;simp only [L4,A80,H1,bO,e1,e2,e3,e4];cases decide (1<=ev/\ev<=10)<;>cases decide (st=0)<;>cases decide (st=1)<;>cases decide (st=2)<;>cases decide (st=3)<;>cases decide (st=4)<;>cases decide (ev=5)<;>exact ⟨_,_,rfl⟩
  obtain ⟨a,b,e⟩:=this;unfold stV;rw [e]
set_option maxRecDepth 100000
structure HM where
  g:I2
  dec:A9
  strs:List A08
  last:Int
  calls:List P3
  out:List Int
abbrev mkC(pre:Int)(inn:List Int)(enc:A9)(dead:Int)(m:HM):S1:=(pre,inn,m.g,m.dec,enc,m.strs,m.last,dead)
abbrev mkH(pre:Int)(inn:List Int)(enc:A9)(dead:Int)(m:HM):C7:=(mkC pre inn enc dead m,m.calls,m.out)
def D9r(last:Int)(s:A08):Prop:=s.1.tmod 2=1/\1<=s.1/\s.1<=last/\(s.2.1=1\/s.2.1=2)/\s.2.2.2.length<=2000
def B4i(strs:List A08)(last:Int):Prop:=strs.length<=100/\(strs.map (·.1)).Pairwise (· < ·)/\∀ s∈strs,D9r last s
def sAt(strs:List A08)(i:Nat):A08:=rd F8 strs (i:Int)
theorem A52{strs:List A08}{i:Nat}(h:i<strs.length):sAt strs i=strs[i]:=A49 (k:=F8) h
theorem C9V{strs:List A08}{last:Int}(h:B4i strs last){i:Nat}(hi:i<strs.length){s:A08}(h1:s.1=(sAt strs i).1)(h2:s.2.1=1\/s.2.1=2)(h3:s.2.2.2.length<=2000):B4i (strs.set i s) last:=by
  obtain ⟨a,b,c⟩:=h;rw [A52 hi] at h1;refine ⟨by simpa using a,?_,fun x hx=>?_⟩
  · rw [List.map_set,h1]
    have:(strs.map (·.1)).set i strs[i].1=strs.map (·.1):=by
      apply List.ext_getElem (by simp);intro j hj1 hj2;rw [List.getElem_set];split
      · rename_i e;subst e;simp
      · rfl
    rw [this];exact b
  · rcases List.mem_or_eq_of_mem_set hx with q | q
    · exact c x q
    · subst q
      have:=c _ (List.getElem_mem hi);unfold D9r at this ⊢;rw [h1];exact ⟨this.1,this.2.1,this.2.2.1,h2,h3⟩
theorem D5j{strs:List A08}{last:Int}(h:B4i strs last)(hl:strs.length<100){s:A08}(h0:last<s.1)(h1:s.1.tmod 2=1)(h2:s.2.1=1\/s.2.1=2)(h3:s.2.2.2.length<=2000)(hp:1<=s.1):B4i (strs ++ [s]) s.1:=by
  obtain ⟨a,b,c⟩:=h;refine ⟨by simp;omega,?_,fun x hx=>?_⟩
  · rw [List.map_append,List.pairwise_append]
    refine ⟨b,by simp,fun x hx y hy=>?_⟩;obtain ⟨t,ht,rfl⟩:=List.mem_map.1 hx;have:=c t ht;simp only [List.map_cons,List.map_nil,List.mem_singleton] at hy;unfold D9r at this;omega
  · rcases List.mem_append.1 hx with q | q
    · have:=c x q
      unfold D9r at this ⊢;omega
    · rcases List.mem_singleton.1 q with rfl
      exact ⟨h1,hp,by omega,h2,h3⟩
theorem D9s{strs:List A08}{last:Int}(h:B4i strs last)(i:Nat):B4i (strs.take i++strs.drop (i+1)) last:=by
  obtain ⟨a,b,c⟩:=h;have hs:(strs.take i++strs.drop (i+1)).Sublist strs:=by
    rw [<- List.eraseIdx_eq_take_drop_succ];exact List.eraseIdx_sublist strs i
  exact ⟨Nat.le_trans hs.length_le a,b.sublist (hs.map _),fun x hx=>c x (hs.subset hx)⟩
theorem D5k{strs:List A08}{last last':Int}(h:B4i strs last)(hl:last<=last'):B4i strs last':=by
  obtain ⟨a,b,c⟩:=h;refine ⟨a,b,fun x hx=>?_⟩;have:=c x hx;unfold D9r at this ⊢;omega
theorem C9W(last:Int):B4i [] last:=⟨by simp,by simp,fun x hx=>by cases hx⟩
def atM(strs:List A08)(id:Int):Nat:=L6 (fun j=>decide ((sAt strs j).1<id)) 0 strs.length
def B5m(strs:List A08)(id:Int):Bool:=decide (atM strs id<strs.length)&&decide ((sAt strs (atM strs id)).1=id)
theorem C0c(pre:Int)(inn:List Int)(enc:A9)(dead:Int)(m:HM)(id:Int)(h:m.strs.length<=2000000) :
    Q1 (mkC pre inn enc dead m) id=some ((atM m.strs id:Int),B5m m.strs id,mkC pre inn enc dead m,()):=by
  obtain ⟨i,h1,h2,h3,h4⟩:=str_eq (mkC pre inn enc dead m) id h;have e:atM m.strs id=i:=C2C _ _ i h1 (fun j hj=>A0 (h2 j hj)) (fun hi=>A3 (h3 hi));rw [h4,B5m,e];rfl
theorem B2s{strs:List A08}{id:Int}(h:B5m strs id=true):atM strs id<strs.length/\(sAt strs (atM strs id)).1=id:=by
  unfold B5m at h;simpa using h
def A1W(m:HM)(s:A08):HM:=if s.2.1=2 then {m with calls:=m.calls ++ [(s.1,s.2.2.1,s.2.2.2,0)]} else m
def A39(m:HM)(i:Nat)(s:A08):HM:={m with strs:=m.strs.set i s}
noncomputable def A4S(m:HM)(i:Nat)(ev:Int):Int×HM:=
  if (stV (sAt m.strs i).2.1 ev).2=1 then (1,m) else if (stV (sAt m.strs i).2.1 ev).2=2 then (5,m)
  else (0,A1W (A39 m i ((sAt m.strs i).1,(stV (sAt m.strs i).2.1 ev).1,(sAt m.strs i).2.2)) ((sAt m.strs i).1,(stV (sAt m.strs i).2.1 ev).1,(sAt m.strs i).2.2))
structure HI (m:HM):Prop where
  strs:B4i m.strs m.last
  last:0<=m.last/\m.last<=2147483647
  dec:T6 m.dec
  g:(m.g.1=0/\m.g.2.1=false/\m.g.2.2 = [])\/(1<=m.g.1/\m.g.1<=2147483647/\m.g.2.2.length<=3000)
  gb:Byt m.g.2.2
def HL(m:HM):Prop:=m.calls.length<=1000000000/\m.out.length<=10000000000000
section
variable (pre:Int) (inn:List Int) (enc:A9) (dead:Int)
theorem D5l(m:HM)(s:A08)(hc:m.calls.length<=2000000000)(hs:s.2.2.2.length<=1000000):A0V (mkH pre inn enc dead m) s=some (mkH pre inn enc dead (A1W m s),()):=by
  simp only [A0V,A5W,A4P s.2.2.2 (by omega),bO];unfold A1W;by_cases h:s.2.1=2
  · rw [A0 h,if_pos h]
    simp only [mkH,cond_true];rw [D5a (by simp;omega)]
  · rw [A3 h,if_neg h];rfl
theorem D0s(m:HM)(i:Nat)(s:A08)(hi:i<m.strs.length)(hsi:sAt m.strs i=s)(hc:m.calls.length<=2000000000)(hs:s.2.2.2.length<=1000000) :
    O3 (mkH pre inn enc dead m) (s.1,s.2.1,s.2.2.1) (i:Int)=some (mkH pre inn enc dead (A1W m s),()):=by
  have d1:decide ((0:Int)<=(i:Int))=true:=A0 (by omega);have d2:decide ((i:Int)<(m.strs.length:Int))=true:=A0 (by omega);have e1:(rd F8 m.strs (i:Int))=s:=hsi;simp only [O3,A0q,mkH,mkC,d1,d2,cond_true,e1];rw [A4P s.2.2.2 (by omega)];simp only [bO];unfold A1W;by_cases h:s.2.1=2
  · rw [A0 h,if_pos h]
    simp only [cond_true];rw [D5a (by simp;omega)]
  · rw [A3 h,if_neg h];rfl
theorem B94(m:HM)(i:Nat)(ev:Int)(hi:i<m.strs.length)(hc:m.calls.length<=2000000000)(hs:(sAt m.strs i).2.2.2.length<=1000000) :
    M5 (mkH pre inn enc dead m) (i:Int) ev=some ((A4S m i ev).1,mkH pre inn enc dead (A4S m i ev).2,()):=by
  have d1:decide ((0:Int)<=(i:Int))=true:=A0 (by omega);have d2:decide ((i:Int)<(m.strs.length:Int))=true:=A0 (by omega);have e1:(rd F8 m.strs (i:Int))=sAt m.strs i:=rfl;simp only [M5,A41,mkH,mkC,d1,d2,cond_true,e1,D9q,bO];unfold A4S;by_cases h1:(stV (sAt m.strs i).2.1 ev).2=1
  · rw [A0 h1,if_pos h1];rfl
  rw [A3 h1,if_neg h1];by_cases h2:(stV (sAt m.strs i).2.1 ev).2=2
  · rw [A0 h2,if_pos h2];rfl
  rw [A3 h2,if_neg h2];simp only [cond_false,Int.toNat_natCast];have hset:sAt (m.strs.set i ((sAt m.strs i).1,(stV (sAt m.strs i).2.1 ev).1,(sAt m.strs i).2.2)) i=((sAt m.strs i).1,(stV (sAt m.strs i).2.1 ev).1,(sAt m.strs i).2.2):=by
    rw [A52 (by simpa using hi)];simp
  have e2:rd F8 (m.strs.set i ((sAt m.strs i).1,(stV (sAt m.strs i).2.1 ev).1,(sAt m.strs i).2.2)) (i:Int)=((sAt m.strs i).1,(stV (sAt m.strs i).2.1 ev).1,(sAt m.strs i).2.2):=hset;rw [e2];have key:=D0s pre inn enc dead (A39 m i ((sAt m.strs i).1,(stV (sAt m.strs i).2.1 ev).1,(sAt m.strs i).2.2)) i ((sAt m.strs i).1,(stV (sAt m.strs i).2.1 ev).1,(sAt m.strs i).2.2) (by simpa [A39] using hi) hset hc hs;simp only [mkH,mkC,A39] at key;rw [key];rfl
end
theorem C2H(m:HM)(s:A08):(A1W m s).strs=m.strs/\(A1W m s).last=m.last/\(A1W m s).dec=m.dec/\(A1W m s).g=m.g/\(A1W m s).out=m.out/\(A1W m s).calls.length<=m.calls.length+1:=by
  unfold A1W;split<;>simp
theorem E4d:stV 1 1=(1,1)/\stV 1 2=(2,0)/\stV 1 3=(1,0)/\stV 1 4=(2,0)/\stV 2 1=(2,2)/\stV 2 2=(2,2)/\stV 2 3=(2,2)/\stV 2 4=(2,2)/\stV 0 1=(1,0)/\stV 0 2=(2,0):=⟨rfl,rfl,rfl,rfl,rfl,rfl,rfl,rfl,rfl,rfl⟩
theorem E2d{m:HM}(h:HI m){i:Nat}{ev:Int}(hi:i<m.strs.length)(hev:1<=ev/\ev<=4):((A4S m i ev).1=0->HI (A4S m i ev).2)/\0<=(A4S m i ev).1/\(A4S m i ev).1<=20/\
    (A4S m i ev).2.last=m.last/\(A4S m i ev).2.out=m.out/\(A4S m i ev).2.dec=m.dec/\(A4S m i ev).2.calls.length<=m.calls.length+1:=by
  unfold A4S;by_cases h1:(stV (sAt m.strs i).2.1 ev).2=1
  · rw [if_pos h1];exact ⟨(fun h=>by cases h),(by simp only [];omega),(by simp only [];omega),rfl,rfl,rfl,Nat.le_succ _⟩
  rw [if_neg h1];by_cases h2:(stV (sAt m.strs i).2.1 ev).2=2
  · rw [if_pos h2];exact ⟨(fun h=>by cases h),(by simp only [];omega),(by simp only [];omega),rfl,rfl,rfl,Nat.le_succ _⟩
  rw [if_neg h2];obtain ⟨q1,q2,q3,q4,q5,q6⟩:=C2H (A39 m i ((sAt m.strs i).1,(stV (sAt m.strs i).2.1 ev).1,(sAt m.strs i).2.2)) ((sAt m.strs i).1,(stV (sAt m.strs i).2.1 ev).1,(sAt m.strs i).2.2);have hs:=h.strs.2.2 _ (List.getElem_mem hi);rw [<- A52 hi] at hs;refine ⟨fun _=>⟨?_,?_,?_,?_,?_⟩,(by simp only [];omega),(by simp only [];omega),q2,q5,q3,q6⟩
  · rw [q1,q2]
    refine C9V h.strs hi rfl ?_ hs.2.2.2.2;have ht:=E4d;have he:ev=1\/ev=2\/ev=3\/ev=4:=by omega
    rcases hs.2.2.2.1 with e | e<;>rw [e] at h1 h2 ⊢<;>rcases he with rfl | rfl | rfl | rfl<;>simp_all
  · rw [q2];exact h.last
  · rw [q3];exact h.dec
  · rw [q4];exact h.g
  · rw [q4];exact h.gb
set_option maxRecDepth 100000
structure FrI (f:B1):Prop where
  k:0<=f.1/\f.1<=255
  fl:0<=f.2.1/\f.2.1<=255
  st:0<=f.2.2.1/\f.2.2.1<=2147483647
  n:f.2.2.2.length<=1000
  b:Byt f.2.2.2
def A6c(f:B1)(k:Int):Bool:=!decide (M4 .i64 f.2.1 k=0)
theorem A53(f:B1)(k:Int):G5 f k=some (A6c f k,()):=rfl
noncomputable def fcV(f:B1):Int:=match G6 f with
  | some x=>x.1
  | none=>0
theorem A24(f:B1):G6 f=some (fcV f,()):=by
  have:∃ c,G6 f=some (c,()):=by
    have h1:∃ b,Q3 f=some (b,()):=by
      simp only [Q3,A4L,H1,bO];cases decide (0<=f.1/\f.1<=255)<;>cases decide (0<=f.2.1/\f.2.1<=255)<;>cases decide (0<=f.2.2.1/\f.2.2.1<=2147483647)<;>exact ⟨_,rfl⟩
    have h2:∃ b,U1 f=some (b,()):=by
      simp only [U1,A5T,A53,bO];cases decide (f.1=2)<;>cases decide (f.1=3)<;>cases decide (f.1=8)<;>cases decide (f.1=6)<;>cases decide (f.1=4)<;>cases decide (f.1=7)<;>cases decide ((f.2.2.2.length:Int).tmod 6=0)<;>cases decide ((f.2.2.2.length:Int)=0)<;>exact ⟨_,rfl⟩
    obtain ⟨b1,e1⟩:=h1;obtain ⟨b2,e2⟩:=h2;simp only [G6,A1M,e1,e2,bO];cases b1
    case false=>exact ⟨_,rfl⟩
    cases b2
    case false=>exact ⟨_,rfl⟩
    simp only [Bool.not_true,cond_false,bSl];cases decide (f.2.2.1=0)<;>cases decide (f.1=0)<;>cases decide (f.1=1)<;>cases decide (f.1=2)<;>cases decide (f.1=3)<;>cases decide (f.1=5)<;>cases decide (f.1=9)<;>cases decide (f.1=4)<;>cases decide (f.1=6)<;>cases decide (f.1=7)<;>exact ⟨_,rfl⟩
  obtain ⟨c,e⟩:=this;unfold fcV;rw [e]
def C7i(f:B1):Int:=if f.1=1 then (bif A6c f 32 then 5 else 0) else 0
def D0t(b:List Int)(ahead more:Int):List Int×Bool:=if ahead+more>(b.length:Int) then ([],false) else ((b.take ((b.length:Int)-more).toNat).drop ahead.toNat,true)
def A8b(f:B1):List Int×Bool:=bif A6c f 8 then (if f.2.2.2.length=0 then ([],false) else D0t (f.2.2.2.drop 1) (C7i f) (byN f.2.2.2 0:Int)) else D0t f.2.2.2 (C7i f) 0
theorem D3C(b:List Int)(a m:Int):(D0t b a m).1.length<=b.length:=by
  unfold D0t;split
  · simp
  · simp only [List.length_drop,List.length_take];omega
theorem E2e(f:B1):(A8b f).1.length<=f.2.2.2.length:=by
  unfold A8b;cases A6c f 8
  · exact D3C _ _ _
  · simp only [cond_true]
    split
    · simp
    · have:=D3C (f.2.2.2.drop 1) (C7i f) (byN f.2.2.2 0:Int)
      simp only [List.length_drop] at this;omega
theorem E2f{f:B1}(h:Byt f.2.2.2):Byt (A8b f).1:=by
  have hB:∀ b a m,Byt b->Byt (D0t b a m).1:=fun b a m hb=>by
    unfold D0t;split
    · exact fun x hx=>by cases hx
    · exact A89 (B4T hb _) _
  unfold A8b;cases A6c f 8
  · exact hB _ _ _ h
  · simp only [cond_true]
    split
    · exact fun x hx=>by cases hx
    · exact hB _ _ _ (A89 h _)
theorem E2g(b:List Int)(a m:Int)(ha:0<=a/\a<=5)(hm:0<=m/\m<256)(hl:b.length<=1000000) :
    (bif (decide ((IntKind.i64.wrap (a+m))>(b.length:Int))) then some ([],false,()) else bif decide (0<=a) then bif decide (a<=(IntKind.i64.wrap ((b.length:Int)-m))) then bif decide ((IntKind.i64.wrap ((b.length:Int)-m))<=(b.length:Int)) then A4 (B2 ((b.take ((IntKind.i64.wrap ((b.length:Int)-m)).toNat)).drop a.toNat)) fun c40=>some (c40.1,true,()) else none else none else none)=some ((D0t b a m).1,(D0t b a m).2,()):=by
  rw [w64 (n:=a+m) (by omega) (by omega),w64 (n:=(b.length:Int)-m) (by omega) (by omega)];unfold D0t;by_cases h:a+m>(b.length:Int)
  · rw [A0 h,if_pos h];rfl
  · rw [A3 h,if_neg h,A0 (show 0<=a by omega),A0 (show a<=(b.length:Int)-m by omega),A0 (show (b.length:Int)-m<=(b.length:Int) by omega),A4P _ (by simp;omega)]
    rfl
theorem E2h(f:B1):0<=C7i f/\C7i f<=5:=by
  unfold C7i;split
  · cases A6c f 32<;>simp
  · simp
theorem C5q{f:B1}(hf:FrI f):A5U f=some ((A8b f).1,(A8b f).2,()):=by
  have ha:(bif (decide (f.1=1)) then bif A6c f 32 then some ((5:Int),()) else some (0,()) else some (0,()))=some (C7i f,()):=by
    unfold C7i;by_cases h:f.1=1
    · rw [A0 h,if_pos h];cases A6c f 32<;>rfl
    · rw [A3 h,if_neg h];rfl
  have hr:=E2h f;have hn:=hf.n;simp only [A5U,C0I,A53,bO,ha];unfold A8b;cases A6c f 8
  · simp only [cond_false,bSl,bO]
    exact E2g f.2.2.2 (C7i f) 0 hr (by omega) (by omega)
  · simp only [cond_true]
    by_cases h0:f.2.2.2.length=0
    · rw [A0 (show (f.2.2.2.length:Int)=0 by omega),if_pos h0];rfl
    · have h1:=B7p hf.b (show 0<f.2.2.2.length by omega)
      rw [show ((0:Nat):Int)=0 from rfl] at h1;rw [A3 (show ¬ (f.2.2.2.length:Int)=0 by omega),if_neg h0,A0 (show (0:Int)<(f.2.2.2.length:Int) by omega),A0 (show (1:Int)<=(f.2.2.2.length:Int) by omega),h1.1,w64 (n:=(byN f.2.2.2 0:Int)) (by omega) (by omega),List.take_length];simp only [cond_false,cond_true,bSl,bO];exact E2g (f.2.2.2.drop 1) (C7i f) (byN f.2.2.2 0:Int) hr (by omega) (by simp;omega)
def B7r(g:I2)(f:B1):Bool:=if g.1=0 then !decide (f.1=9) else decide (f.1=9)&&decide (f.2.2.1=g.1)
def B95(f:B1)(g:I2)(g2:I2):I2×List Int×Int:=
  if (g2.2.2.length:Int)>3000 then (g,[],4) else bif A6c f 4 then ((0,false,[]),g2.2.2,1) else (g2,[],0)
def E2i(g:I2)(f:B1):I2×List Int×Int:=
  if f.1=1 then (if (A8b f).2=false then (g,[],3) else B95 f g (f.2.2.1,A6c f 1,(A8b f).1)) else if f.1=9 then B95 f g (g.1,g.2.1,g.2.2++f.2.2.2) else (g,[],0)
noncomputable def N3(g:I2)(f:B1):I2×List Int×Int:=bif !decide (fcV f=0)||!B7r g f then (g,[],2) else E2i g f
theorem D5m(g:I2)(f:B1):A3F g f=some (B7r g f,()):=by
  simp only [A3F,A9i];unfold B7r;by_cases h:g.1=0
  · rw [A0 h,if_pos h];rfl
  · rw [A3 h,if_neg h]
    cases decide (f.1=9)<;>rfl
def GaI(g:I2):Prop:=(g.1=0/\g.2.1=false/\g.2.2 = [])\/(1<=g.1/\g.1<=2147483647/\g.2.2.length<=3000)
theorem B3H{g:I2}(h:GaI g):A0o g=some (true,()):=by
  simp only [A0o,B2B,H1,bO];rcases h with ⟨h1,h2,h3⟩ | ⟨h1,h2,h3⟩
  · rw [A0 h1,h2,h3];rfl
  · rw [A3 (show ¬ g.1=0 by omega),A0 (show 1<=g.1/\g.1<=2147483647 from ⟨h1,h2⟩),A0 (show (g.2.2.length:Int)<=3000 by omega)]
    rfl
theorem GaI.len{g:I2}(h:GaI g):g.2.2.length<=3000:=by
  rcases h with ⟨_,_,h3⟩ | ⟨_,_,h3⟩
  · rw [h3];simp
  · exact h3
theorem D9t{g:I2}(hg:GaI g){f:B1}(hf:FrI f):B4E g f=some ((N3 g f).1,(N3 g f).2.1,(N3 g f).2.2,()):=by
  have hl:=hg.len;have hn:=hf.n;have hcp:=B6F g (by omega);simp only [B4E,C58,B3H hg,A24,D5m,hcp,C5q hf,A53,bO,Bool.not_true,cond_false];unfold N3;cases decide (fcV f=0)
  case false=>rfl
  cases B7r g f
  case false=>rfl
  simp only [Bool.not_true,cond_false,bO,bSl,Bool.or_self];unfold E2i;by_cases h1:f.1=1
  · rw [A0 h1,if_pos h1]
    simp only [cond_true];cases hu:(A8b f).2 with
    | false=>rfl
    | true=>
      simp only [Bool.not_true,cond_false,bSl,Bool.true_eq_false,if_false];unfold B95;by_cases h3:((A8b f).1.length:Int)>3000
      · rw [A0 h3,if_pos h3];rfl
      · rw [A3 h3,if_neg h3]
        cases A6c f 4<;>rfl
  · rw [A3 h1,if_neg h1]
    simp only [cond_false];by_cases h9:f.1=9
    · rw [A0 h9,if_pos h9,gA (by omega)]
      simp only [cond_true,bSl];unfold B95;by_cases h3:((g.2.2++f.2.2.2).length:Int)>3000
      · rw [A0 h3,if_pos h3];rfl
      · rw [A3 h3,if_neg h3]
        cases A6c f 4<;>rfl
    · rw [A3 h9,if_neg h9];rfl
theorem D3D{f:B1}{g g2:I2}(h1:GaI g)(h2:1<=g2.1/\g2.1<=2147483647)(hb:Byt g.2.2)(hb2:Byt g2.2.2):GaI (B95 f g g2).1/\Byt (B95 f g g2).1.2.2/\Byt (B95 f g g2).2.1/\(B95 f g g2).2.1.length<=3000:=by
  have hn:Byt ([]:List Int):=fun x hx=>by cases hx
  unfold B95;by_cases h3:(g2.2.2.length:Int)>3000
  · rw [if_pos h3];exact ⟨h1,hb,hn,by simp⟩
  · rw [if_neg h3]
    cases A6c f 4
    · exact ⟨.inr ⟨h2.1,h2.2,by simp only [cond_false];omega⟩,hb2,hn,by simp⟩
    · exact ⟨.inl ⟨rfl,rfl,rfl⟩,hn,hb2,by simp only [cond_true];omega⟩
theorem C5r{g:I2}(hg:GaI g)(hb:Byt g.2.2){f:B1}(hf:FrI f)(h0:f.2.2.1≠0\/f.1≠1):GaI (N3 g f).1/\Byt (N3 g f).1.2.2/\Byt (N3 g f).2.1/\(N3 g f).2.1.length<=3000:=by
  have hn:Byt ([]:List Int):=fun x hx=>by cases hx
  unfold N3;cases hd:(!decide (fcV f=0)||!B7r g f) with
  | true=>exact ⟨hg,hb,hn,by simp⟩
  | false=>
    simp only [cond_false];unfold E2i;by_cases h1:f.1=1
    · rw [if_pos h1]
      by_cases hu:(A8b f).2=false
      · rw [if_pos hu];exact ⟨hg,hb,hn,by simp⟩
      · rw [if_neg hu]
        have hs:=hf.st;exact D3D hg (by simp only;omega) hb (E2f hf.b)
    · rw [if_neg h1]
      by_cases h9:f.1=9
      · rw [if_pos h9]
        have hi:B7r g f=true:=by
          simp only [Bool.or_eq_false_iff,Bool.not_eq_false'] at hd;exact hd.2
        unfold B7r at hi;by_cases hg0:g.1=0
        · rw [if_pos hg0,A0 h9] at hi;cases hi
        · rcases hg with ⟨q,_⟩ | ⟨q1,q2,q3⟩
          · exact absurd q hg0
          · exact D3D (.inr ⟨q1,q2,q3⟩) ⟨q1,q2⟩ hb (P2 hb hf.b)
      · rw [if_neg h9];exact ⟨hg,hb,hn,by simp⟩
set_option maxRecDepth 100000
theorem D0u{f:B1}(h:fcV f=0)(h1:f.1=1):f.2.2.1≠0:=by
  intro h0;have e:=A24 f;rw [h] at e;have h2:∃ b,Q3 f=some (b,()):=by
    simp only [Q3,A4L,H1,bO];cases decide (0<=f.1/\f.1<=255)<;>cases decide (0<=f.2.1/\f.2.1<=255)<;>cases decide (0<=f.2.2.1/\f.2.2.1<=2147483647)<;>exact ⟨_,rfl⟩
  have h3:∃ b,U1 f=some (b,()):=by
    simp only [U1,A5T,A53,bO];cases decide (f.1=2)<;>cases decide (f.1=3)<;>cases decide (f.1=8)<;>cases decide (f.1=6)<;>cases decide (f.1=4)<;>cases decide (f.1=7)<;>cases decide ((f.2.2.2.length:Int).tmod 6=0)<;>cases decide ((f.2.2.2.length:Int)=0)<;>exact ⟨_,rfl⟩
  obtain ⟨b1,e1⟩:=h2;obtain ⟨b2,e2⟩:=h3;simp only [G6,A1M,e1,e2,bO,A0 h0,A0 h1] at e;cases b1
  case false=>simp [bSr] at e
  cases b2
  case false=>simp [bSr] at e
  simp only [Bool.not_true,cond_false,bSl] at e;cases hq:decide (f.1=0)<;>rw [hq] at e<;>simp [bO] at e
noncomputable def C5s(m:HM)(id:Int)(fin:Bool)(l:List A5):Int×HM:=
  if id.tmod 2=0\/id<=m.last then (1,m) else if 100<=m.strs.length then (11,m)
  else if (B5l l).2≠0 then (0,{m with last:=id,calls:=m.calls ++ [(id,(0,⟨#[]⟩,0),[],(B5l l).2)]})
  else (0,A1W {m with last:=id,strs:=m.strs ++ [(id,(if fin then 2 else 1),(B5l l).1,[])]} (id,(if fin then 2 else 1),(B5l l).1,[]))
noncomputable def A8C(m:HM)(id:Int)(fin:Bool)(b:List Int):Int×HM:=
  if (H7 m.dec 4096 b).2.2.1≠0 then (9,m)
  else if B5m m.strs id=true then A4S {m with dec:=(H7 m.dec 4096 b).2.1} (atM m.strs id) (if fin then 2 else 1)
  else C5s {m with dec:=(H7 m.dec 4096 b).2.1} id fin (H7 m.dec 4096 b).1
noncomputable def C2I(m:HM)(f:B1):Int×HM:=
  if (N3 m.g f).2.2=2\/(N3 m.g f).2.2=3 then (1,{m with g:=(N3 m.g f).1}) else if (N3 m.g f).2.2=4 then (11,{m with g:=(N3 m.g f).1})
  else if (N3 m.g f).2.2=1 then A8C {m with g:=(N3 m.g f).1} (if m.g.1=0 then f.2.2.1 else m.g.1) (if m.g.1=0 then A6c f 1 else m.g.2.1) (N3 m.g f).2.1
  else (0,{m with g:=(N3 m.g f).1})
def C5t(m:HM)(f:B1)(body:List Int):HM:=bif A6c f 1 then m else {m with out:=m.out++A10 (f.1,1,0,body)}
def C39(m:HM)(f:B1):Int×HM:=if f.2.2.1>m.last then (1,m) else (0,m)
noncomputable def C2J(m:HM)(f:B1):Int×HM:=
  if B5m m.strs f.2.2.1=true then
    (if (A8b f).2=false then (1,m) else if ((sAt m.strs (atM m.strs f.2.2.1)).2.2.2.length:Int)+((A8b f).1.length:Int)>2000 then (11,m)
     else A4S (A39 m (atM m.strs f.2.2.1) ((sAt m.strs (atM m.strs f.2.2.1)).1,(sAt m.strs (atM m.strs f.2.2.1)).2.1,(sAt m.strs (atM m.strs f.2.2.1)).2.2.1,(sAt m.strs (atM m.strs f.2.2.1)).2.2.2++(A8b f).1)) (atM m.strs f.2.2.1) (bif A6c f 1 then 4 else 3))
  else C39 m f
def B4j(m:HM)(f:B1):Int×HM:=
  if B5m m.strs f.2.2.1=true then (0,{m with strs:=m.strs.take (atM m.strs f.2.2.1)++m.strs.drop (atM m.strs f.2.2.1+1)}) else C39 m f
def E4e(b:List Int):Bool:=(A87 b 0 4).2.1&&decide ((b.length:Int)=4)&&!decide (M4 .i64 (A87 b 0 4).1 2147483647=0)
noncomputable def frM(m:HM)(f:B1):Int×HM:=
  if fcV f=2 then (6,m) else if fcV f=3 then (1,m) else if m.g.1≠0\/f.1=1\/f.1=9 then C2I m f
  else if f.1=4 then (0,C5t m f []) else if f.1=6 then (0,C5t m f f.2.2.2) else if f.1=5 then (1,m) else if f.1=8 then (if E4e f.2.2.2=true then (0,m) else (1,m))
  else if f.1=0 then C2J m f else if f.1=3 then B4j m f else (0,m)
section
variable (pre:Int) (inn:List Int) (enc:A9) (dead:Int)
theorem D5n(m:HM)(h:HI m)(hl:m.calls.length<=1000000000)(id:Int)(fin:Bool)(b:List Int)(hb:Byt b)(hbl:b.length<=100000) :
    A0W (mkH pre inn enc dead m) id fin b=some ((A8C m id fin b).1,mkH pre inn enc dead (A8C m id fin b).2,()):=by
  have hg:=C5n h.dec (by omega:(4096:Int)<=4096) b;have hsl:=h.strs.1;have e0:=C5o h.dec hb (by omega) (most:=4096) (by omega);simp only [A0W,A5a,e0,bO];unfold A8C;by_cases h9:(H7 m.dec 4096 b).2.2.1=0
  case neg=>rw [A3 h9,if_pos h9];rfl
  rw [A0 h9,if_neg (by simpa using h9)];have e1:=C0c pre inn enc dead {m with dec:=(H7 m.dec 4096 b).2.1} id (by simp only;omega);simp only [mkC] at e1;simp only [Bool.not_true,cond_false,e1,bO];cases hh:B5m m.strs id with
  | true=>
    have hlt:=B2s hh;have hst:=h.strs.2.2 _ (List.getElem_mem hlt.1);rw [<- A52 hlt.1] at hst;have eh:A81 fin=some ((if fin then 2 else 1),()):=by cases fin<;>rfl
    have e2:=B94 pre inn enc dead {m with dec:=(H7 m.dec 4096 b).2.1} (atM m.strs id) (if fin then 2 else 1) hlt.1 (by simp only;omega) (by have:=hst.2.2.2.2;simp only;omega);simp only [mkH,mkC] at e2;simp only [cond_true,eh,bO,e2,bSr,if_true]
  | false=>
    simp only [cond_false,Bool.false_eq_true,if_false];unfold C5s;have ho:(bif (decide ((id.tmod 2)=0)) then some (true,()) else some ((decide (id<=m.last)),()))=some (decide (id.tmod 2=0\/id<=m.last),()):=by
      by_cases q1:id.tmod 2=0
      · rw [A0 q1,A0 (show id.tmod 2=0\/id<=m.last from .inl q1)];rfl
      · rw [A3 q1]
        by_cases q2:id<=m.last
        · rw [A0 q2,A0 (show id.tmod 2=0\/id<=m.last from .inr q2)];rfl
        · rw [A3 q2,A3 (show ¬ (id.tmod 2=0\/id<=m.last) by omega)];rfl
    simp only [ho,bO];by_cases q:id.tmod 2=0\/id<=m.last
    · rw [A0 q,if_pos q];rfl
    rw [A3 q,if_neg q];simp only [cond_false];by_cases q2:100<=m.strs.length
    · rw [A0 (show (m.strs.length:Int)>=100 by omega),if_pos q2];rfl
    rw [A3 (show ¬ (m.strs.length:Int)>=100 by omega),if_neg q2];simp only [cond_false,bSl];rw [D5h _ (by have:=hg.2.1;omega) hg.2.2];simp only [bO];by_cases q3:(B5l (H7 m.dec 4096 b).1).2=0
    · rw [A0 q3,if_neg (by simpa using q3)]
      have eh:A81 fin=some ((if fin then 2 else 1),()):=by cases fin<;>rfl
      have es:L4 0 (if fin then 2 else 1)=some ((if fin then 2 else 1),0,()):=by cases fin<;>rfl
      simp only [Bool.not_true,cond_false,eh,bO,es];rw [D5a (by simp;omega)];have e3:=D5l pre inn enc dead {m with dec:=(H7 m.dec 4096 b).2.1,last:=id,strs:=m.strs ++ [(id,(if fin then 2 else 1),(B5l (H7 m.dec 4096 b).1).1,[])]} (id,(if fin then 2 else 1),(B5l (H7 m.dec 4096 b).1).1,[]) (by simp only;omega) (by simp);simp only [mkH,mkC] at e3;rw [e3];rfl
    · rw [A3 q3,if_pos (by simpa using q3)]
      simp only [Bool.not_false,cond_true];rw [D5a (by simp;omega)]
theorem C0d(m:HM)(h:HI m)(hl:m.calls.length<=1000000000)(f:B1)(hf:FrI f)(hc:fcV f=0) :
    A18 (mkH pre inn enc dead m) f=some ((C2I m f).1,mkH pre inn enc dead (C2I m f).2,()):=by
  have hok:=C5r h.g h.gb hf (by by_cases h1:f.1=1;exact .inl (D0u hc h1);exact .inr h1);have ho:(bif (decide (m.g.1=0)) then some (f.2.2.1,A6c f 1,()) else some (m.g.1,m.g.2.1,()))=some ((if m.g.1=0 then f.2.2.1 else m.g.1),(if m.g.1=0 then A6c f 1 else m.g.2.1),()):=by
    by_cases q:m.g.1=0
    · rw [A0 q,if_pos q,if_pos q];rfl
    · rw [A3 q,if_neg q,if_neg q];rfl
  simp only [A18,A6j,A53,bO,ho,D9t h.g hf];unfold C2I;by_cases q2:(N3 m.g f).2.2=2
  · rw [A0 q2,if_pos (show (N3 m.g f).2.2=2\/(N3 m.g f).2.2=3 from .inl q2)];rfl
  rw [A3 q2];simp only [cond_false,bO];by_cases q3:(N3 m.g f).2.2=3
  · rw [A0 q3,if_pos (show (N3 m.g f).2.2=2\/(N3 m.g f).2.2=3 from .inr q3)];rfl
  rw [A3 q3,if_neg (show ¬ ((N3 m.g f).2.2=2\/(N3 m.g f).2.2=3) by omega)];by_cases q4:(N3 m.g f).2.2=4
  · rw [A0 q4,if_pos q4];rfl
  rw [A3 q4,if_neg q4];by_cases q1:(N3 m.g f).2.2=1
  · rw [A0 q1,if_pos q1]
    have e:=D5n pre inn enc dead {m with g:=(N3 m.g f).1} ⟨h.strs,h.last,h.dec,hok.1,hok.2.1⟩ hl (if m.g.1=0 then f.2.2.1 else m.g.1) (if m.g.1=0 then A6c f 1 else m.g.2.1) (N3 m.g f).2.1 hok.2.2.1 (by omega);simp only [mkH,mkC] at e;simp only [cond_true,cond_false,e,bO]
  · rw [A3 q1,if_neg q1];rfl
theorem C2K(m:HM)(ho:m.out.length<=100000000000000)(f:B1)(b:List Int)(hb:b.length<=1000):W8 (mkH pre inn enc dead m) f b=some (mkH pre inn enc dead (C5t m f b),()):=by
  simp only [W8,A4r,A53,bO,mkH];unfold C5t;cases A6c f 1 with
  | true=>rfl
  | false=>
    simp only [Bool.not_false,cond_true,cond_false];rw [A6D _ _ (by simp only;omega)];rfl
theorem B96(m:HM)(f:B1):M6 (mkH pre inn enc dead m) f=some ((C39 m f).1,mkH pre inn enc dead (C39 m f).2,()):=by
  simp only [M6,A43,mkH,mkC];unfold C39;by_cases h:f.2.2.1>m.last
  · rw [A0 h,if_pos h];rfl
  · rw [A3 h,if_neg h];rfl
theorem D9u(m:HM)(h:HI m)(hl:m.calls.length<=1000000000)(f:B1)(hf:FrI f) :
    A19 (mkH pre inn enc dead m) f=some ((C2J m f).1,mkH pre inn enc dead (C2J m f).2,()):=by
  have hsl:=h.strs.1;have hn:=hf.n;have hu:=E2e f;have e1:=C0c pre inn enc dead m f.2.2.1 (by omega);have e2:=B96 pre inn enc dead m f;simp only [mkC] at e1;simp only [mkH,mkC] at e2;simp only [A19,A6k,mkH,mkC,e1,bO,C5q hf,A53];unfold C2J;cases hh:B5m m.strs f.2.2.1 with
  | false=>
    simp only [Bool.not_false,cond_true,Bool.false_eq_true,if_false,e2,bO]
  | true=>
    have hlt:=B2s hh;have hst:=h.strs.2.2 _ (List.getElem_mem hlt.1);rw [<- A52 hlt.1] at hst;have h5:=hst.2.2.2.2;have d1:decide ((0:Int)<=(atM m.strs f.2.2.1:Int))=true:=A0 (by omega);have d2:decide ((atM m.strs f.2.2.1:Int)<(m.strs.length:Int))=true:=A0 (by omega);have e3:rd F8 m.strs (atM m.strs f.2.2.1:Int)=sAt m.strs (atM m.strs f.2.2.1):=rfl;simp only [Bool.not_true,cond_false,if_true,d1,d2,cond_true,e3];cases hq:(A8b f).2 with
    | false=>rfl
    | true=>
      simp only [Bool.not_true,cond_false,Bool.true_eq_false,if_false];rw [w64 (by omega) (by omega)];by_cases q:((sAt m.strs (atM m.strs f.2.2.1)).2.2.2.length:Int)+((A8b f).1.length:Int)>2000
      · rw [A0 q,if_pos q];rfl
      · rw [A3 q,if_neg q]
        simp only [cond_false];rw [gA (by omega)];simp only [Int.toNat_natCast,bO];have e4:=fun ev=>B94 pre inn enc dead (A39 m (atM m.strs f.2.2.1) ((sAt m.strs (atM m.strs f.2.2.1)).1,(sAt m.strs (atM m.strs f.2.2.1)).2.1,(sAt m.strs (atM m.strs f.2.2.1)).2.2.1,(sAt m.strs (atM m.strs f.2.2.1)).2.2.2++(A8b f).1)) (atM m.strs f.2.2.1) ev (by simpa [A39] using hlt.1) (by simp only [A39];omega) (by
          simp only [A39];rw [A52 (by simpa using hlt.1),List.getElem_set_self];simp only [List.length_append];omega)
        simp only [mkH,mkC,A39] at e4;cases A6c f 1
        · simp only [cond_false,e4,bO];rfl
        · simp only [cond_true,e4,bO];rfl
theorem D5o(m:HM)(h:HI m)(f:B1):A0a (mkH pre inn enc dead m) f=some ((B4j m f).1,mkH pre inn enc dead (B4j m f).2,()):=by
  have hsl:=h.strs.1;have e1:=C0c pre inn enc dead m f.2.2.1 (by omega);have e2:=B96 pre inn enc dead m f;simp only [mkC] at e1;simp only [mkH,mkC] at e2;simp only [A0a,A5c,mkH,mkC,e1,bO];unfold B4j;cases hh:B5m m.strs f.2.2.1 with
  | false=>simp only [Bool.not_false,cond_true,Bool.false_eq_true,if_false,e2,bO]
  | true=>
    have hlt:=B2s hh;have w1:IntKind.i64.wrap ((atM m.strs f.2.2.1:Int)+1)=((atM m.strs f.2.2.1+1:Nat):Int):=by rw [w64 (by omega) (by omega)];omega
    have e3:E5 m.strs (atM m.strs f.2.2.1:Int) ((atM m.strs f.2.2.1+1:Nat):Int)=some (m.strs.take (atM m.strs f.2.2.1)++m.strs.drop (atM m.strs f.2.2.1+1),()):=by
      rw [show E5=D2I from rfl];simp only [D2I];rw [A0 (by omega),A0 (by omega),A0 (by omega)];simp only [cond_true,Int.toNat_natCast]
    simp only [Bool.not_true,cond_false,w1,e3,bO,if_true]
theorem D3E(b:List Int)(hb:Byt b)(hl:b.length<=1000):∃ n,A4s b=some (n,E4e b,()):=by
  have e:=D2Q b hb (by omega) 0 4 (by omega);rw [show ((4:Nat):Int)=4 from rfl] at e;simp only [A4s,B2T,e,bO];unfold E4e;cases (A87 b 0 4).2.1<;>cases decide ((b.length:Int)=4)<;>cases decide (M4 .i64 (A87 b 0 4).1 2147483647=0)<;>exact ⟨_,rfl⟩
theorem D5p(m:HM)(h:HI m)(hl:HL m)(f:B1)(hf:FrI f):P6 (mkH pre inn enc dead m) f=some ((frM m f).1,mkH pre inn enc dead (frM m f).2,()):=by
  have hn:=hf.n;simp only [P6,A5d,A24,bO];unfold frM;by_cases c2:fcV f=2
  · rw [A0 c2,if_pos c2];rfl
  rw [A3 c2,if_neg c2];by_cases c3:fcV f=3
  · rw [A0 c3,if_pos c3];rfl
  rw [A3 c3,if_neg c3];have hc:fcV f=0:=by
    have e:=A24 f;have hall:∃ c,G6 f=some (c,())/\(c=0\/c=2\/c=3):=by
      have h2:∃ b,Q3 f=some (b,()):=by
        simp only [Q3,A4L,H1,bO];cases decide (0<=f.1/\f.1<=255)<;>cases decide (0<=f.2.1/\f.2.1<=255)<;>cases decide (0<=f.2.2.1/\f.2.2.1<=2147483647)<;>exact ⟨_,rfl⟩
      have h3:∃ b,U1 f=some (b,()):=by
        simp only [U1,A5T,A53,bO];cases decide (f.1=2)<;>cases decide (f.1=3)<;>cases decide (f.1=8)<;>cases decide (f.1=6)<;>cases decide (f.1=4)<;>cases decide (f.1=7)<;>cases decide ((f.2.2.2.length:Int).tmod 6=0)<;>cases decide ((f.2.2.2.length:Int)=0)<;>exact ⟨_,rfl⟩
      obtain ⟨b1,e1⟩:=h2;obtain ⟨b2,e2⟩:=h3;simp only [G6,A1M,e1,e2,bO];cases b1
      case false=>exact ⟨_,rfl,.inr (.inl rfl)⟩
      cases b2
      case false=>exact ⟨_,rfl,.inr (.inl rfl)⟩
      simp only [Bool.not_true,cond_false,bSl];cases decide (f.2.2.1=0)<;>cases decide (f.1=0)<;>cases decide (f.1=1)<;>cases decide (f.1=2)<;>cases decide (f.1=3)<;>cases decide (f.1=5)<;>cases decide (f.1=9)<;>cases decide (f.1=4)<;>cases decide (f.1=6)<;>cases decide (f.1=7)<;>first | exact ⟨_,rfl,.inl rfl⟩ | exact ⟨_,rfl,.inr (.inr rfl)⟩
    obtain ⟨c,e1,e2⟩:=hall;rw [e1] at e;injection e with e
    injection e with e _
    omega
  simp only [cond_false];by_cases g0:m.g.1=0
  case neg=>
    rw [A3 g0,if_pos (.inl g0)];simp only [Bool.not_false,cond_true,C0d pre inn enc dead m h hl.1 f hf hc,bO]
  rw [A0 g0];simp only [Bool.not_true,cond_false];by_cases k1:f.1=1
  · rw [A0 k1,if_pos (.inr (.inl k1))]
    simp only [cond_true,bO,C0d pre inn enc dead m h hl.1 f hf hc]
  rw [A3 k1];simp only [cond_false,bO];by_cases k9:f.1=9
  · rw [A0 k9,if_pos (.inr (.inr k9))]
    simp only [cond_true,bO,C0d pre inn enc dead m h hl.1 f hf hc]
  rw [A3 k9,if_neg (by omega)];simp only [cond_false];by_cases k4:f.1=4
  · rw [A0 k4,if_pos k4]
    simp only [cond_true,C2K pre inn enc dead m (by have:=hl.2;omega) f [] (by simp),bO]
  rw [A3 k4,if_neg k4];simp only [cond_false];by_cases k6:f.1=6
  · rw [A0 k6,if_pos k6]
    simp only [cond_true,C2K pre inn enc dead m (by have:=hl.2;omega) f f.2.2.2 hn,bO]
  rw [A3 k6,if_neg k6];simp only [cond_false];by_cases k5:f.1=5
  · rw [A0 k5,if_pos k5];rfl
  rw [A3 k5,if_neg k5];simp only [cond_false];by_cases k8:f.1=8
  · rw [A0 k8,if_pos k8]
    obtain ⟨n,e⟩:=D3E f.2.2.2 hf.b hn;simp only [cond_true,e,bO];cases E4e f.2.2.2<;>rfl
  rw [A3 k8,if_neg k8];simp only [cond_false];by_cases k0:f.1=0
  · rw [A0 k0,if_pos k0]
    simp only [cond_true,D9u pre inn enc dead m h hl.1 f hf,bO]
  rw [A3 k0,if_neg k0];simp only [cond_false];by_cases k3:f.1=3
  · rw [A0 k3,if_pos k3]
    simp only [cond_true,D5o pre inn enc dead m h f,bO]
  · rw [A3 k3,if_neg k3];rfl
end
set_option maxRecDepth 100000
structure FrO (m:HM) (r:Int×HM):Prop where
  code:0<=r.1/\r.1<=20
  hi:r.1=0->HI r.2
  last:0<=r.2.last/\r.2.last<=2147483647
  dec:T6 r.2.dec
  calls:r.2.calls.length<=m.calls.length+1
  out:r.2.out.length<=m.out.length+1100
theorem B2t{m:HM}(h:HI m){c:Int}(hc:0<c/\c<=20):FrO m (c,m):=⟨by simp only;omega,fun e=>by simp only at e;omega,h.last,h.dec,by simp only;omega,by simp only;omega⟩
theorem B97{m:HM}(h:HI m):FrO m (0,m):=⟨by simp only;omega,fun _=>h,h.last,h.dec,by simp only;omega,by simp only;omega⟩
theorem D3F{m m0:HM}(h:HI m){i:Nat}{ev:Int}(hi:i<m.strs.length)(hev:1<=ev/\ev<=4)(h1:m.calls=m0.calls)(h2:m.out=m0.out):FrO m0 (A4S m i ev):=by
  obtain ⟨a1,a2,a3,a4,a5,a6,a7⟩:=E2d h hi hev;exact ⟨⟨a2,a3⟩,a1,by rw [a4];exact h.last,by rw [a6];exact h.dec,by rw [<- h1];exact a7,by rw [a5,h2];omega⟩
theorem D9v{m m0:HM}(h:HI m)(id:Int)(hid:id<=2147483647)(fin:Bool)(b:List Int)(h1:m.calls=m0.calls)(h2:m.out=m0.out):FrO m0 (A8C m id fin b):=by
  have hg:=C5n h.dec (by omega:(4096:Int)<=4096) b;have hm:HI {m with dec:=(H7 m.dec 4096 b).2.1}:=⟨h.strs,h.last,hg.1,h.g,h.gb⟩;have hl:=h.last;unfold A8C;by_cases h9:(H7 m.dec 4096 b).2.2.1≠0
  · rw [if_pos h9]
    exact ⟨by simp only;omega,fun e=>by simp only at e;omega,h.last,h.dec,by simp only [h1];omega,by simp only [h2];omega⟩
  rw [if_neg h9];cases hh:B5m m.strs id with
  | true=>
    rw [if_pos rfl];exact D3F hm (B2s hh).1 (by cases fin<;>simp) h1 h2
  | false=>
    rw [if_neg (by simp)];unfold C5s;by_cases q:id.tmod 2=0\/id<=m.last
    · rw [if_pos q]
      exact ⟨by simp only;omega,fun e=>by simp only at e;omega,h.last,hg.1,by simp only [h1];omega,by simp only [h2];omega⟩
    rw [if_neg q];by_cases q2:100<=m.strs.length
    · rw [if_pos q2]
      exact ⟨by simp only;omega,fun e=>by simp only at e;omega,h.last,hg.1,by simp only [h1];omega,by simp only [h2];omega⟩
    rw [if_neg q2];have ht:id.tmod 2=1:=by
      have:=Int.tmod_eq_emod_of_nonneg (a:=id) (b:=2) (by omega);omega
    by_cases q3:(B5l (H7 m.dec 4096 b).1).2≠0
    · rw [if_pos q3]
      exact ⟨by simp only;omega,fun _=>⟨D5k h.strs (by simp only;omega),by simp only;omega,hg.1,h.g,h.gb⟩,by simp only;omega,hg.1,by simp only [List.length_append,List.length_singleton,h1];omega,by simp only [h2];omega⟩
    · rw [if_neg q3]
      obtain ⟨z1,z2,z3,z4,z5,z6⟩:=C2H {m with dec:=(H7 m.dec 4096 b).2.1,last:=id,strs:=m.strs ++ [(id,(if fin then 2 else 1),(B5l (H7 m.dec 4096 b).1).1,[])]} (id,(if fin then 2 else 1),(B5l (H7 m.dec 4096 b).1).1,[]);refine ⟨by simp only;omega,fun _=>⟨?_,?_,?_,?_,?_⟩,?_,?_,?_,?_⟩
      · rw [z1,z2]
        exact D5j h.strs (by omega) (s:=(id,(if fin then 2 else 1),(B5l (H7 m.dec 4096 b).1).1,[])) (by simp only;omega) ht (by cases fin<;>simp) (by simp) (by simp only;omega)
      · rw [z2];simp only;omega
      · rw [z3];exact hg.1
      · rw [z4];exact h.g
      · rw [z4];exact h.gb
      · simp only;rw [z2];simp only;omega
      · simp only;rw [z3];exact hg.1
      · simp only at z6 ⊢;rw [<- h1];exact z6
      · simp only;rw [z5];simp only [h2];omega
theorem E2j{m:HM}(h:HI m){f:B1}(hf:FrI f)(hc:fcV f=0):FrO m (C2I m f):=by
  have hok:=C5r h.g h.gb hf (by by_cases h1:f.1=1;exact .inl (D0u hc h1);exact .inr h1);have hm:HI {m with g:=(N3 m.g f).1}:=⟨h.strs,h.last,h.dec,hok.1,hok.2.1⟩;unfold C2I;by_cases q2:(N3 m.g f).2.2=2\/(N3 m.g f).2.2=3
  · rw [if_pos q2]
    exact ⟨by simp only;omega,fun e=>by simp only at e;omega,h.last,h.dec,by simp only;omega,by simp only;omega⟩
  rw [if_neg q2];by_cases q4:(N3 m.g f).2.2=4
  · rw [if_pos q4]
    exact ⟨by simp only;omega,fun e=>by simp only at e;omega,h.last,h.dec,by simp only;omega,by simp only;omega⟩
  rw [if_neg q4];by_cases q1:(N3 m.g f).2.2=1
  · rw [if_pos q1]
    have hs:=hf.st;refine D9v hm _ ?_ _ _ rfl rfl;by_cases g0:m.g.1=0
    · rw [if_pos g0];omega
    · rw [if_neg g0]
      rcases h.g with q | q
      · exact absurd q.1 g0
      · exact q.2.1
  · rw [if_neg q1]
    exact ⟨by simp only;omega,fun _=>hm,h.last,h.dec,by simp only;omega,by simp only;omega⟩
theorem D8M{m:HM}(h:HI m)(f:B1)(hf:FrI f)(b:List Int)(hb:b.length<=1000):FrO m (0,C5t m f b):=by
  have hk:=hf.k;unfold C5t;cases A6c f 1
  · have hl:=A4A (f.1,1,0,b) (fok _ _ _ _ (by omega) (by omega) (by omega) (by omega))
    exact ⟨by simp only;omega,fun _=>⟨h.strs,h.last,h.dec,h.g,h.gb⟩,h.last,h.dec,by simp only [cond_false];omega,by simp only [cond_false,List.length_append];omega⟩
  · exact B97 h
theorem D8N{m:HM}(h:HI m)(f:B1):FrO m (C39 m f):=by
  unfold C39;split
  · exact B2t h (by omega)
  · exact B97 h
theorem E2k{m:HM}(h:HI m){f:B1}(hf:FrI f):FrO m (C2J m f):=by
  unfold C2J;cases hh:B5m m.strs f.2.2.1 with
  | false=>rw [if_neg (by simp)];exact D8N h f
  | true=>
    rw [if_pos rfl];have hlt:=B2s hh;have hst:=h.strs.2.2 _ (List.getElem_mem hlt.1);rw [<- A52 hlt.1] at hst;by_cases hu:(A8b f).2=false
    · rw [if_pos hu];exact B2t h (by omega)
    rw [if_neg hu];by_cases q:((sAt m.strs (atM m.strs f.2.2.1)).2.2.2.length:Int)+((A8b f).1.length:Int)>2000
    · rw [if_pos q];exact B2t h (by omega)
    rw [if_neg q];refine D3F ?_ ?_ ?_ rfl rfl
    · exact ⟨C9V h.strs hlt.1 rfl hst.2.2.2.1 (by simp only [List.length_append];omega),h.last,h.dec,h.g,h.gb⟩
    · simpa [A39] using hlt.1
    · cases A6c f 1<;>simp
theorem D9w{m:HM}(h:HI m)(f:B1):FrO m (B4j m f):=by
  unfold B4j;cases hh:B5m m.strs f.2.2.1 with
  | false=>rw [if_neg (by simp)];exact D8N h f
  | true=>
    rw [if_pos rfl];exact ⟨by simp only;omega,fun _=>⟨D9s h.strs _,h.last,h.dec,h.g,h.gb⟩,h.last,h.dec,by simp only;omega,by simp only;omega⟩
theorem D8O(f:B1):fcV f=0\/fcV f=2\/fcV f=3:=by
  have e:=A24 f;have hall:∃ c,G6 f=some (c,())/\(c=0\/c=2\/c=3):=by
    have h2:∃ b,Q3 f=some (b,()):=by
      simp only [Q3,A4L,H1,bO];cases decide (0<=f.1/\f.1<=255)<;>cases decide (0<=f.2.1/\f.2.1<=255)<;>cases decide (0<=f.2.2.1/\f.2.2.1<=2147483647)<;>exact ⟨_,rfl⟩
    have h3:∃ b,U1 f=some (b,()):=by
      simp only [U1,A5T,A53,bO];cases decide (f.1=2)<;>cases decide (f.1=3)<;>cases decide (f.1=8)<;>cases decide (f.1=6)<;>cases decide (f.1=4)<;>cases decide (f.1=7)<;>cases decide ((f.2.2.2.length:Int).tmod 6=0)<;>cases decide ((f.2.2.2.length:Int)=0)<;>exact ⟨_,rfl⟩
    obtain ⟨b1,e1⟩:=h2;obtain ⟨b2,e2⟩:=h3;simp only [G6,A1M,e1,e2,bO];cases b1
    case false=>exact ⟨_,rfl,.inr (.inl rfl)⟩
    cases b2
    case false=>exact ⟨_,rfl,.inr (.inl rfl)⟩
    simp only [Bool.not_true,cond_false,bSl];cases decide (f.2.2.1=0)<;>cases decide (f.1=0)<;>cases decide (f.1=1)<;>cases decide (f.1=2)<;>cases decide (f.1=3)<;>cases decide (f.1=5)<;>cases decide (f.1=9)<;>cases decide (f.1=4)<;>cases decide (f.1=6)<;>cases decide (f.1=7)<;>first | exact ⟨_,rfl,.inl rfl⟩ | exact ⟨_,rfl,.inr (.inr rfl)⟩
  obtain ⟨c,e1,e2⟩:=hall;rw [e1] at e;injection e with e
  injection e with e _
  omega
theorem E2l{m:HM}(h:HI m){f:B1}(hf:FrI f):FrO m (frM m f):=by
  have hr:=D8O f;unfold frM;by_cases c2:fcV f=2
  · rw [if_pos c2];exact B2t h (by omega)
  rw [if_neg c2];by_cases c3:fcV f=3
  · rw [if_pos c3];exact B2t h (by omega)
  rw [if_neg c3];by_cases k:m.g.1≠0\/f.1=1\/f.1=9
  · rw [if_pos k];exact E2j h hf (by omega)
  rw [if_neg k];by_cases k4:f.1=4
  · rw [if_pos k4];exact D8M h f hf [] (by simp)
  rw [if_neg k4];by_cases k6:f.1=6
  · rw [if_pos k6];exact D8M h f hf _ hf.n
  rw [if_neg k6];by_cases k5:f.1=5
  · rw [if_pos k5];exact B2t h (by omega)
  rw [if_neg k5];by_cases k8:f.1=8
  · rw [if_pos k8]
    split
    · exact B97 h
    · exact B2t h (by omega)
  rw [if_neg k8];by_cases k0:f.1=0
  · rw [if_pos k0];exact E2k h hf
  rw [if_neg k0];by_cases k3:f.1=3
  · rw [if_pos k3];exact D9w h f
  · rw [if_neg k3];exact B97 h
abbrev pfM(cs:List P3)(os:List Int)(m:HM):HM:={m with calls:=cs++m.calls,out:=os++m.out}
abbrev pfR(cs:List P3)(os:List Int)(r:Int×HM):Int×HM:=(r.1,pfM cs os r.2)
section
variable (cs:List P3) (os:List Int)
theorem C9a(m:HM)(s:A08):A1W (pfM cs os m) s=pfM cs os (A1W m s):=by
  unfold A1W;split<;>simp [pfM]
theorem D3G(m:HM)(i:Nat)(ev:Int):A4S (pfM cs os m) i ev=pfR cs os (A4S m i ev):=by
  unfold A4S;by_cases h1:(stV (sAt m.strs i).2.1 ev).2=1
  · rw [if_pos h1,if_pos h1]
  rw [if_neg h1,if_neg h1];by_cases h2:(stV (sAt m.strs i).2.1 ev).2=2
  · rw [if_pos h2,if_pos h2]
  rw [if_neg h2,if_neg h2];show _=(0,pfM cs os _);rw [<- C9a];rfl
theorem E00(m:HM)(id:Int)(fin:Bool)(b:List Int):A8C (pfM cs os m) id fin b=pfR cs os (A8C m id fin b):=by
  unfold A8C;by_cases h9:(H7 m.dec 4096 b).2.2.1≠0
  · rw [if_pos h9,if_pos h9]
  rw [if_neg h9,if_neg h9];by_cases hh:B5m m.strs id=true
  · rw [if_pos hh,if_pos hh]
    exact D3G cs os {m with dec:=(H7 m.dec 4096 b).2.1} _ _
  rw [if_neg hh,if_neg hh];unfold C5s;by_cases q:id.tmod 2=0\/id<=m.last
  · rw [if_pos q,if_pos q]
  rw [if_neg q,if_neg q];by_cases q2:100<=m.strs.length
  · rw [if_pos q2,if_pos q2]
  rw [if_neg q2,if_neg q2];by_cases q3:(B5l (H7 m.dec 4096 b).1).2≠0
  · rw [if_pos q3,if_pos q3]
    simp
  · rw [if_neg q3,if_neg q3]
    show _=(0,pfM cs os _);rw [<- C9a]
theorem E5s(m:HM)(f:B1):frM (pfM cs os m) f=pfR cs os (frM m f):=by
  unfold frM;by_cases c2:fcV f=2
  · rw [if_pos c2,if_pos c2]
  rw [if_neg c2,if_neg c2];by_cases c3:fcV f=3
  · rw [if_pos c3,if_pos c3]
  rw [if_neg c3,if_neg c3];by_cases k:m.g.1≠0\/f.1=1\/f.1=9
  · rw [if_pos k,if_pos k]
    unfold C2I;by_cases q2:(N3 m.g f).2.2=2\/(N3 m.g f).2.2=3
    · rw [if_pos q2,if_pos q2]
    rw [if_neg q2,if_neg q2];by_cases q4:(N3 m.g f).2.2=4
    · rw [if_pos q4,if_pos q4]
    rw [if_neg q4,if_neg q4];by_cases q1:(N3 m.g f).2.2=1
    · rw [if_pos q1,if_pos q1]
      exact E00 cs os {m with g:=(N3 m.g f).1} _ _ _
    · rw [if_neg q1,if_neg q1]
  rw [if_neg k,if_neg k];have ha:∀ b,C5t (pfM cs os m) f b=pfM cs os (C5t m f b):=fun b=>by
    unfold C5t;cases A6c f 1<;>simp [pfM]
  have hu:C39 (pfM cs os m) f=pfR cs os (C39 m f):=by
    unfold C39;by_cases q:f.2.2.1>m.last
    · rw [if_pos q,if_pos q]
    · rw [if_neg q,if_neg q]
  by_cases k4:f.1=4
  · rw [if_pos k4,if_pos k4,ha]
  rw [if_neg k4,if_neg k4];by_cases k6:f.1=6
  · rw [if_pos k6,if_pos k6,ha]
  rw [if_neg k6,if_neg k6];by_cases k5:f.1=5
  · rw [if_pos k5,if_pos k5]
  rw [if_neg k5,if_neg k5];by_cases k8:f.1=8
  · rw [if_pos k8,if_pos k8]
    split<;>rfl
  rw [if_neg k8,if_neg k8];by_cases k0:f.1=0
  · rw [if_pos k0,if_pos k0]
    unfold C2J;by_cases hh:B5m m.strs f.2.2.1=true
    · rw [if_pos hh,if_pos hh]
      by_cases h1:(A8b f).2=false
      · rw [if_pos h1,if_pos h1]
      rw [if_neg h1,if_neg h1];by_cases q:((sAt m.strs (atM m.strs f.2.2.1)).2.2.2.length:Int)+((A8b f).1.length:Int)>2000
      · rw [if_pos q,if_pos q]
      rw [if_neg q,if_neg q];exact D3G cs os (A39 m _ _) _ _
    · rw [if_neg hh,if_neg hh,hu]
  rw [if_neg k0,if_neg k0];by_cases k3:f.1=3
  · rw [if_pos k3,if_pos k3]
    unfold B4j;by_cases hh:B5m m.strs f.2.2.1=true
    · rw [if_pos hh,if_pos hh]
    · rw [if_neg hh,if_neg hh,hu]
  · rw [if_neg k3,if_neg k3]
end
set_option maxRecDepth 100000
theorem C0e(b:List Int)(a c:Nat):∀ j,H8 (b.drop a) c j=H8 b (a+c) j
  | 0=>rfl
  | j+1=>by
    simp only [H8,C0e b a c j];rw [show (b.drop a).getD (c+j) 0=b.getD (a+c+j) 0 by simp [List.getD,List.getElem?_drop,Nat.add_assoc]]
theorem A5n(b:List Int)(n c:Nat):∀ j,c+j<=n->H8 (b.take n) c j=H8 b c j
  | 0,_=>rfl
  | j+1,h=>by
    simp only [H8,A5n b n c j (by omega)];rw [show (b.take n).getD (c+j) 0=b.getD (c+j) 0 by simp [List.getD,List.getElem?_take,show c+j<n by omega]]
def codeF(b:List Int):Nat:=if b.length<9 then 1 else if H8 b 0 3>1000 then 2 else if b.length<9+H8 b 0 3 then 1 else 0
def T7(b:List Int):Nat:=9+H8 b 0 3
def L7(b:List Int):B1:=(A51 b 0).1
theorem C2L{b:List Int}{a:Nat}(ha:a<=b.length):(A51 b a).2.2.1=(codeF (b.drop a):Int)/\(codeF (b.drop a)=0->(A51 b a).1=L7 (b.drop a)/\(A51 b a).2.1=((a+T7 (b.drop a):Nat):Int)/\a+T7 (b.drop a)<=b.length):=by
  have hl:(b.drop a).length=b.length-a:=by simp
  have e0:H8 (b.drop a) 0 3=H8 b a 3:=by rw [C0e];rfl
  have hg:∀ (k:Nat),rd (.int .u8) (b.drop a) (k:Int)=rd (.int .u8) b ((a:Int)+k):=fun k=>by
    simp only [rd];rw [show ((a:Int)+(k:Int)).toNat=a+k by omega,Int.toNat_natCast];simp [List.getD,List.getElem?_drop]
  unfold codeF T7 L7;rw [hl,e0];unfold A51;by_cases h9:b.length-a<9
  · rw [if_pos h9,if_neg (show ¬ (0<=(a:Int)/\(a:Int)<=(b.length:Int)-9) by omega)]
    exact ⟨rfl,fun h=>by cases h⟩
  rw [if_neg h9,if_pos (show 0<=(a:Int)/\(a:Int)<=(b.length:Int)-9 by omega),Int.toNat_natCast];by_cases h1:H8 b a 3>1000
  · rw [if_pos h1,if_pos (show (H8 b a 3:Int)>1000 by omega)]
    exact ⟨rfl,fun h=>by cases h⟩
  rw [if_neg h1,if_neg (show ¬ (H8 b a 3:Int)>1000 by omega)];by_cases h2:b.length-a<9+H8 b a 3
  · rw [if_pos h2,if_pos (show (H8 b a 3:Int)>(b.length:Int)-(a:Int)-9 by omega)]
    exact ⟨rfl,fun h=>by cases h⟩
  rw [if_neg h2,if_neg (show ¬ (H8 b a 3:Int)>(b.length:Int)-(a:Int)-9 by omega)];refine ⟨rfl,fun _=>⟨?_,(by show (a:Int)+9+(H8 b a 3:Int)=((a+(9+H8 b a 3):Nat):Int);omega),by omega⟩⟩;rw [if_pos (show 0<=(0:Int)/\(0:Int)<=((b.drop a).length:Int)-9 by omega)];rw [show (0:Int).toNat=0 from rfl,e0,if_neg (show ¬ (H8 b a 3:Int)>1000 by omega),if_neg (show ¬ (H8 b a 3:Int)>((b.drop a).length:Int)-0-9 by omega)];have r3:=hg 3;have r4:=hg 4;rw [show ((3:Nat):Int)=3 from rfl] at r3;rw [show ((4:Nat):Int)=4 from rfl] at r4;simp only [Int.zero_add];rw [r3,r4];have e5:H8 (b.drop a) (5:Int).toNat 4=H8 b ((a:Int)+5).toNat 4:=by
    rw [C0e]
    congr 1
  rw [e5];have e9:((b.drop a).take ((9:Int)+(H8 b a 3:Int)).toNat).drop (9:Int).toNat=(b.take ((a:Int)+9+(H8 b a 3:Int)).toNat).drop ((a:Int)+9).toNat:=by
    rw [show ((a:Int)+9+(H8 b a 3:Int)).toNat=a+(9+H8 b a 3) by omega,show ((a:Int)+9).toNat=a+9 by omega,show ((9:Int)+(H8 b a 3:Int)).toNat=9+H8 b a 3 by omega,show (9:Int).toNat=9 from rfl];rw [List.drop_take,List.drop_take,List.drop_drop]
    congr 1
    omega
  rw [e9]
theorem B5h(b:List Int):codeF b=0\/codeF b=1\/codeF b=2:=by
  unfold codeF;split
  · omega
  · split
    · omega
    · split<;>omega
theorem B7s{b:List Int}(h:codeF b=1)(k:Nat):codeF (b.take k)=1:=by
  unfold codeF at h ⊢;by_cases h9:(b.take k).length<9
  · rw [if_pos h9]
  rw [if_neg h9];rw [List.length_take] at h9;rw [if_neg (by omega)] at h;rw [A5n _ _ _ _ (by omega),List.length_take];by_cases h1:H8 b 0 3>1000
  · rw [if_pos h1] at h;cases h
  rw [if_neg h1] at h ⊢;by_cases h2:b.length<9+H8 b 0 3
  · rw [if_pos (by omega)]
  · rw [if_neg h2] at h;cases h
theorem D3H{b:List Int}(h:codeF b=2):9<=b.length/\(∀ k,k<9->codeF (b.take k)=1)/\∀ k,9<=k->codeF (b.take k)=2:=by
  unfold codeF at h;by_cases h9:b.length<9
  · rw [if_pos h9] at h;cases h
  rw [if_neg h9] at h;by_cases h1:H8 b 0 3>1000
  · refine ⟨by omega,fun k hk=>?_,fun k hk=>?_⟩
    · unfold codeF
      rw [if_pos (by rw [List.length_take];omega)]
    · unfold codeF
      rw [if_neg (by rw [List.length_take];omega),A5n _ _ _ _ (by omega),if_pos h1]
  · rw [if_neg h1] at h
    split at h<;>cases h
theorem A9I{b:List Int}(h:codeF b=0):T7 b<=b.length/\9<=T7 b/\T7 b<=1009/\(∀ k,k<T7 b->codeF (b.take k)=1)/\codeF (b.take (T7 b))=0:=by
  unfold codeF at h;by_cases h9:b.length<9
  · rw [if_pos h9] at h;cases h
  rw [if_neg h9] at h;by_cases h1:H8 b 0 3>1000
  · rw [if_pos h1] at h;cases h
  rw [if_neg h1] at h;by_cases h2:b.length<9+H8 b 0 3
  · rw [if_pos h2] at h;cases h
  unfold T7;refine ⟨by omega,by omega,by omega,fun k hk=>?_,?_⟩
  · unfold codeF
    by_cases hk9:k<9
    · rw [if_pos (by rw [List.length_take];omega)]
    · rw [if_neg (by rw [List.length_take];omega),A5n _ _ _ _ (by omega),if_neg h1,if_pos (by rw [List.length_take];omega)]
  · unfold codeF
    rw [if_neg (by rw [List.length_take];omega),A5n _ _ _ _ (by omega),if_neg h1,if_neg (by rw [List.length_take];omega)]
theorem D3I{b:List Int}(h:codeF b=0):L7 (b.take (T7 b))=L7 b:=by
  obtain ⟨h1,h2,h3,_,h5⟩:=A9I h;have hn:T7 b=9+H8 b 0 3:=rfl;have hl:(b.take (T7 b)).length=T7 b:=by rw [List.length_take];omega
  have hr:∀ (k:Nat),k<T7 b->rd (.int .u8) (b.take (T7 b)) (k:Int)=rd (.int .u8) b (k:Int):=fun k hk=>by
    simp only [rd,Int.toNat_natCast];simp [List.getD,List.getElem?_take,hk]
  have e3:H8 (b.take (T7 b)) 0 3=H8 b 0 3:=A5n _ _ _ _ (by omega);unfold L7 A51;rw [if_pos (show 0<=(0:Int)/\(0:Int)<=((b.take (T7 b)).length:Int)-9 by omega),if_pos (show 0<=(0:Int)/\(0:Int)<=(b.length:Int)-9 by omega)];rw [show (0:Int).toNat=0 from rfl,e3];rw [if_neg (show ¬ (H8 b 0 3:Int)>1000 by omega),if_neg (show ¬ (H8 b 0 3:Int)>((b.take (T7 b)).length:Int)-0-9 by omega),if_neg (show ¬ (H8 b 0 3:Int)>1000 by omega),if_neg (show ¬ (H8 b 0 3:Int)>(b.length:Int)-0-9 by omega)];simp only [Int.zero_add];have r3:=hr 3 (by omega);have r4:=hr 4 (by omega);rw [show ((3:Nat):Int)=3 from rfl] at r3;rw [show ((4:Nat):Int)=4 from rfl] at r4;rw [r3,r4,A5n _ _ _ _ (show (5:Int).toNat+4<=T7 b by simp;omega)];rw [show ((9:Int)+(H8 b 0 3:Int)).toNat=T7 b by omega,List.take_take,Nat.min_self]
theorem C0f{b:List Int}(hb:Byt b)(h:codeF b=0):FrI (L7 b):=by
  obtain ⟨h1,h2,h3,_,_⟩:=A9I h;have hn:T7 b=9+H8 b 0 3:=rfl;have r3:=B7p hb (show 3<b.length by omega);have r4:=B7p hb (show 4<b.length by omega);rw [show ((3:Nat):Int)=3 from rfl] at r3;rw [show ((4:Nat):Int)=4 from rfl] at r4;have hs:=C49 hb 5 4;have hm:M4 .i64 (H8 b 5 4:Int) 2147483647=((H8 b 5 4 % 2 ^ 31:Nat):Int):=by
    rw [show (2147483647:Int)=((2147483647:Nat):Int) from rfl,B90 (by simp at hs;omega) (by omega),show (2147483647:Nat)=2 ^ 31-1 from rfl,Nat.and_two_pow_sub_one_eq_mod]
  have hlt:H8 b 5 4 % 2 ^ 31<2 ^ 31:=Nat.mod_lt _ (by decide);have e:L7 b=(rd (.int .u8) b 3,rd (.int .u8) b 4,M4 .i64 (H8 b 5 4:Int) 2147483647,(b.take ((9:Int)+(H8 b 0 3:Int)).toNat).drop (9:Int).toNat):=by
    unfold L7 A51;rw [if_pos (show 0<=(0:Int)/\(0:Int)<=(b.length:Int)-9 by omega),show (0:Int).toNat=0 from rfl,if_neg (show ¬ (H8 b 0 3:Int)>1000 by omega),if_neg (show ¬ (H8 b 0 3:Int)>(b.length:Int)-0-9 by omega)];simp only [Int.zero_add];rfl
  rw [e];refine ⟨?_,?_,?_,?_,?_⟩
  · simp only [r3.1];omega
  · simp only [r4.1];omega
  · simp only [hm];omega
  · simp only [List.length_drop,List.length_take];omega
  · exact A89 (B4T hb _) _
set_option maxRecDepth 100000
abbrev priS:X0:=⟨#[80,82,73,32,42,32,72,84,84,80,47,50,46,48,13,10,13,10,83,77,13,10,13,10]⟩
def goB(last code:Int):List Int:=A10 (7,0,0,big (A6b last) 4++big (A6b code) 4)
theorem D8P(last code:Int):(goB last code).length=17:=by
  simp only [goB,A10,List.length_append,A6C,List.length_cons,List.length_nil]
structure BS where
  pre:Nat
  inn:List Int
  dead:Int
  m:HM
def A8D(pre:Nat)(m:HM)(code:Int):BS:=⟨pre,[],code,{m with g:=(0,false,[]),strs:= [],out:=m.out++goB m.last code}⟩
noncomputable def U5(st:BS)(x:Int):BS:=
  if st.dead≠0 then st
  else if st.pre<24 then (if x=bt priS (st.pre:Int) then ⟨st.pre+1,st.inn,0,st.m⟩ else A8D st.pre st.m 1)
  else if codeF (st.inn ++ [x])=1 then ⟨st.pre,st.inn ++ [x],0,st.m⟩
  else if codeF (st.inn ++ [x])=2 then A8D st.pre st.m 6
  else if (frM st.m (L7 (st.inn ++ [x]))).1=0 then ⟨st.pre,[],0,(frM st.m (L7 (st.inn ++ [x]))).2⟩
  else A8D st.pre (frM st.m (L7 (st.inn ++ [x]))).2 (frM st.m (L7 (st.inn ++ [x]))).1
noncomputable def E3(st:BS)(b:List Int):BS:=b.foldl U5 st
theorem A6d(st:BS)(h:st.dead≠0):∀ b,E3 st b=st
  | []=>rfl
  | x::b=>by
    have e:U5 st x=st:=by unfold U5;rw [if_pos h]
    show E3 (U5 st x) b=st;rw [e];exact A6d st h b
theorem B7t(st:BS)(a b:List Int):E3 st (a++b)=E3 (E3 st a) b:=by
  unfold E3;rw [List.foldl_append]
structure BI (st:BS):Prop where
  pre:st.pre<=24
  hi:HI st.m
  inb:Byt st.inn
  more:codeF st.inn=1
  emp:st.pre<24\/st.dead≠0->st.inn = []
  gone:st.dead≠0->st.m.strs = []/\st.m.g.1=0
  dead:0<=st.dead/\st.dead<=20
theorem D0v{pre:Nat}(hp:pre<=24){m:HM}(h1:0<=m.last/\m.last<=2147483647)(h2:T6 m.dec){code:Int}(hc:0<=code/\code<=20):BI (A8D pre m code):=
  ⟨hp,⟨C9W _,h1,h2,.inl ⟨rfl,rfl,rfl⟩,fun x hx=>by cases hx⟩,(fun x hx=>by cases hx),rfl,fun _=>rfl,fun _=>⟨rfl,rfl⟩,hc⟩
theorem D3J{b:List Int}(hb:Byt b){x:Int}(hx:0<=x/\x<256):Byt (b ++ [x]):=P2 hb fun y hy=>by rcases List.mem_singleton.1 hy with rfl;exact hx
theorem D3K{st:BS}(h:BI st){x:Int}(hx:0<=x/\x<256):BI (U5 st x)/\(U5 st x).m.calls.length<=st.m.calls.length+1/\(U5 st x).m.out.length<=st.m.out.length+1200:=by
  unfold U5;by_cases hd:st.dead≠0
  · rw [if_pos hd];exact ⟨h,by omega,by omega⟩
  rw [if_neg hd];have hb:=D3J h.inb hx;have hg:=D8P;by_cases hp:st.pre<24
  · rw [if_pos hp]
    by_cases hq:x=bt priS (st.pre:Int)
    · rw [if_pos hq]
      refine ⟨⟨by simp only;omega,h.hi,h.inb,h.more,fun _=>h.emp (.inl hp),fun e=>absurd rfl e,by simp⟩,by simp only;omega,by simp only;omega⟩
    · rw [if_neg hq]
      exact ⟨D0v h.pre h.hi.last h.hi.dec (by omega),by simp only [A8D];omega,by simp only [A8D,List.length_append,hg];omega⟩
  rw [if_neg hp];by_cases c1:codeF (st.inn ++ [x])=1
  · rw [if_pos c1]
    exact ⟨⟨h.pre,h.hi,hb,c1,(fun e=>by rcases e with e | e;exact absurd e hp;exact absurd rfl e),(fun e=>absurd rfl e),by simp⟩,by simp only;omega,by simp only;omega⟩
  rw [if_neg c1];by_cases c2:codeF (st.inn ++ [x])=2
  · rw [if_pos c2]
    exact ⟨D0v h.pre h.hi.last h.hi.dec (by omega),by simp only [A8D];omega,by simp only [A8D,List.length_append,hg];omega⟩
  rw [if_neg c2];have c0:codeF (st.inn ++ [x])=0:=by have:=B5h (st.inn ++ [x]);omega
  have ho:=E2l h.hi (C0f hb c0);have h1:=ho.calls;have h2:=ho.out;by_cases hr:(frM st.m (L7 (st.inn ++ [x]))).1=0
  · rw [if_pos hr]
    exact ⟨⟨h.pre,ho.hi hr,(fun x hx=>by cases hx),rfl,fun _=>rfl,(fun e=>absurd rfl e),by simp⟩,by simp only;omega,by simp only;omega⟩
  · rw [if_neg hr]
    exact ⟨D0v h.pre ho.last ho.dec ho.code,by simp only [A8D];omega,by simp only [A8D,List.length_append,hg];omega⟩
theorem B0m:∀ {b:List Int} {st:BS},BI st->Byt b->BI (E3 st b)/\(E3 st b).m.calls.length<=st.m.calls.length+b.length/\(E3 st b).m.out.length<=st.m.out.length+1200*b.length
  | [],st,h,_=>⟨h,by simp [E3],by simp [E3]⟩
  | x::b,st,h,hb=>by
    obtain ⟨h1,h2,h3⟩:=D3K h (hb x List.mem_cons_self);obtain ⟨h4,h5,h6⟩:=B0m (b:=b) h1 fun y hy=>hb y (List.mem_cons_of_mem _ hy)
    have e:E3 st (x::b)=E3 (U5 st x) b:=rfl;rw [e];exact ⟨h4,by simp only [List.length_cons];omega,by simp only [List.length_cons];omega⟩
theorem B4k(st:BS)(hd:st.dead=0)(hp:¬ st.pre<24):∀ (k:Nat) (xs:List Int),xs.length=k->(∀ j,j<=k->codeF (st.inn++xs.take j)=1)->E3 st xs=⟨st.pre,st.inn++xs,0,st.m⟩:=by
  intro k
  induction k generalizing st with
  | zero=>
    intro xs hx _;have:xs = []:=List.length_eq_zero_iff.1 hx;subst this;show st=_;rw [List.append_nil];cases st;simp only at hd;subst hd;rfl
  | succ k ih=>
    intro xs hx hc;cases xs with
    | nil=>cases hx
    | cons x xs=>
      have h1:=hc 1 (by omega);simp only [List.take_succ_cons,List.take_zero] at h1;have e:U5 st x=⟨st.pre,st.inn ++ [x],0,st.m⟩:=by
        unfold U5;rw [if_neg (by omega),if_neg hp,if_pos h1]
      show E3 (U5 st x) xs=_;rw [e,ih ⟨st.pre,st.inn ++ [x],0,st.m⟩ rfl hp xs (by simpa using hx) fun j hj=>by
        have:=hc (j+1) (by omega);simpa using this]
      simp
noncomputable def C5u:Nat->HM->List Int->Int×HM×List Int
  | 0,m,b=>(0,m,b)
  | k+1,m,b=>if codeF b=1 then (0,m,b) else if codeF b=2 then (6,m,b) else
    if (frM m (L7 b)).1≠0 then ((frM m (L7 b)).1,(frM m (L7 b)).2,b) else C5u k (frM m (L7 b)).2 (b.drop (T7 b))
def C9b(pre:Nat)(r:Int×HM×List Int):BS:=if r.1=0 then ⟨pre,r.2.2,0,r.2.1⟩ else A8D pre r.2.1 r.1
theorem D3L(pre:Nat)(hp:¬ pre<24):∀ (k:Nat) (xs inn:List Int) (m:HM),inn.length+xs.length<=k->codeF inn=1->E3 ⟨pre,inn,0,m⟩ xs=C9b pre (C5u (k+1) m (inn++xs)):=by
  intro k
  induction k with
  | zero=>
    intro xs inn m hk hi;have h1:xs = []:=List.length_eq_zero_iff.1 (by omega);subst h1;simp only [C5u,List.append_nil,if_pos hi,C9b,if_true];rfl
  | succ k ih=>
    intro xs inn m hk hi;rw [C5u];have hpre:∀ j,j<=inn.length+xs.length->inn.length<=j->(inn++xs).take j=inn++xs.take (j-inn.length):=fun j h1 h2=>by
      rw [List.take_append,List.take_of_length_le h2]
    rcases B5h (inn++xs) with c | c | c
    · obtain ⟨w1,w2,w3,w4,w5⟩:=A9I c
      have hlt:inn.length<T7 (inn++xs):=by
        rcases Nat.lt_or_ge inn.length (T7 (inn++xs)) with h | h
        · exact h
        · exfalso
          have h7:=B7s hi (T7 (inn++xs));have:(inn++xs).take (T7 (inn++xs))=inn.take (T7 (inn++xs)):=by rw [List.take_append_of_le_length h]
          rw [this,h7] at w5;cases w5
      rw [List.length_append] at w1;obtain ⟨n,hn⟩:∃ n,T7 (inn++xs)=inn.length+(n+1):=⟨T7 (inn++xs)-inn.length-1,by omega⟩;have hlen:n<xs.length:=by omega
      have hsplit:xs=xs.take n++(xs[n]::xs.drop (n+1)):=by
        rw [<- List.drop_eq_getElem_cons hlen,List.take_append_drop]
      have hw:E3 ⟨pre,inn,0,m⟩ (xs.take n)=⟨pre,inn++xs.take n,0,m⟩:=by
        refine B4k ⟨pre,inn,0,m⟩ rfl hp n (xs.take n) (by rw [List.length_take];omega) fun j hj=>?_
        have:=w4 (inn.length+j) (by omega);rw [hpre _ (by omega) (by omega)] at this;rw [List.take_take,Nat.min_eq_left hj];simpa using this
      have hB:inn++xs.take n ++ [xs[n]]=(inn++xs).take (T7 (inn++xs)):=by
        rw [hpre _ (by omega) (by omega),hn,show inn.length+(n+1)-inn.length=n+1 by omega,List.append_assoc,List.take_succ_eq_append_getElem hlen]
      have hD:(inn++xs).drop (T7 (inn++xs))=xs.drop (n+1):=by
        rw [hn,List.drop_append,List.drop_eq_nil_of_le (by omega),List.nil_append]
        congr 1
        omega
      rw [if_neg (by omega),if_neg (by omega)];have e1:E3 ⟨pre,inn,0,m⟩ xs=E3 (U5 ⟨pre,inn++xs.take n,0,m⟩ xs[n]) (xs.drop (n+1)):=by
        conv=>lhs;rw [hsplit]
        rw [B7t,hw];rfl
      rw [e1];have e2:U5 ⟨pre,inn++xs.take n,0,m⟩ xs[n]=if (frM m (L7 (inn++xs))).1=0 then ⟨pre,[],0,(frM m (L7 (inn++xs))).2⟩ else A8D pre (frM m (L7 (inn++xs))).2 (frM m (L7 (inn++xs))).1:=by
        unfold U5;simp only [hB,w5,D3I c];rw [if_neg (by omega),if_neg hp,if_neg (by omega),if_neg (by omega)]
      rw [e2];by_cases hr:(frM m (L7 (inn++xs))).1=0
      · rw [if_pos hr,if_neg (by simpa using hr),hD]
        exact ih (xs.drop (n+1)) [] _ (by simp;omega) rfl
      · rw [if_neg hr,if_pos hr,A6d _ (by simpa [A8D] using hr)]
        simp only [C9b,if_neg hr]
    · rw [if_pos c]
      simp only [C9b,if_true];refine B4k ⟨pre,inn,0,m⟩ rfl hp xs.length xs rfl fun j hj=>?_
      have:=B7s c (inn.length+j);rw [hpre _ (by omega) (by omega)] at this;simpa using this
    · obtain ⟨w1,w2,w3⟩:=D3H c
      have hlt:inn.length<9:=by
        rcases Nat.lt_or_ge inn.length 9 with h | h
        · exact h
        · exfalso
          have h7:=B7s hi 9;have h8:=w3 9 (by omega);have:(inn++xs).take 9=inn.take 9:=by rw [List.take_append_of_le_length h]
          rw [this,h7] at h8;cases h8
      rw [List.length_append] at w1;obtain ⟨n,hn⟩:∃ n,9=inn.length+(n+1):=⟨8-inn.length,by omega⟩;have hlen:n<xs.length:=by omega
      have hsplit:xs=xs.take n++(xs[n]::xs.drop (n+1)):=by
        rw [<- List.drop_eq_getElem_cons hlen,List.take_append_drop]
      have hw:E3 ⟨pre,inn,0,m⟩ (xs.take n)=⟨pre,inn++xs.take n,0,m⟩:=by
        refine B4k ⟨pre,inn,0,m⟩ rfl hp n (xs.take n) (by rw [List.length_take];omega) fun j hj=>?_
        have:=w2 (inn.length+j) (by omega);rw [hpre _ (by omega) (by omega)] at this;rw [List.take_take,Nat.min_eq_left hj];simpa using this
      have hB:codeF (inn++xs.take n ++ [xs[n]])=2:=by
        have:=w3 9 (by omega);rw [hpre _ (by omega) (by omega),show 9-inn.length=n+1 by omega,List.take_succ_eq_append_getElem hlen,<- List.append_assoc] at this;exact this
      rw [if_neg (by omega),if_pos c];have e1:E3 ⟨pre,inn,0,m⟩ xs=E3 (U5 ⟨pre,inn++xs.take n,0,m⟩ xs[n]) (xs.drop (n+1)):=by
        conv=>lhs;rw [hsplit]
        rw [B7t,hw];rfl
      have e2:U5 ⟨pre,inn++xs.take n,0,m⟩ xs[n]=A8D pre m 6:=by
        unfold U5;rw [if_neg (by simp),if_neg hp,if_neg (by simp only [hB];omega),if_pos hB]
      rw [e1,e2,A6d _ (by simp [A8D])];rfl
set_option maxRecDepth 100000
theorem E2m{c:S1}(h:B4i c.2.2.2.2.2.1 c.2.2.2.2.2.2.1):E25 c=true:=by
  obtain ⟨h1,h2,h3⟩:=h;have hall:∀ i,i<c.2.2.2.2.2.1.length->C0Q c i=true:=fun i hi=>by
    have e:=A52 hi;have hs:=h3 _ (List.getElem_mem hi);rw [<- e] at hs;unfold D9r at hs;have e0:rd F8 c.2.2.2.2.2.1 (i:Int)=sAt c.2.2.2.2.2.1 i:=rfl;unfold C0Q;rw [e0,A0 hs.1,A0 (show 1<=(sAt c.2.2.2.2.2.1 i).1/\(sAt c.2.2.2.2.2.1 i).1<=c.2.2.2.2.2.2.1 from ⟨hs.2.1,hs.2.2.1⟩),A3 (show ¬ (List.length (sAt c.2.2.2.2.2.1 i).2.2.2:Int)>2000 by omega)];have hst:(decide ((sAt c.2.2.2.2.2.1 i).2.1=1)||decide ((sAt c.2.2.2.2.2.1 i).2.1=2))=true:=by
      rcases hs.2.2.2.1 with q | q<;>rw [q]<;>rfl
    rw [hst];have hup:(decide (i=0)||!decide ((sAt c.2.2.2.2.2.1 i).1<=(rd F8 c.2.2.2.2.2.1 ((i:Int)-1)).1))=true:=by
      by_cases h0:i=0
      · rw [A0 h0];rfl
      · have e1:rd F8 c.2.2.2.2.2.1 ((i:Int)-1)=sAt c.2.2.2.2.2.1 (i-1):=by
          unfold sAt;rw [show (i:Int)-1=((i-1:Nat):Int) by omega]
        have hp:=List.pairwise_iff_getElem.1 h2 (i-1) i (by simp;omega) (by simpa using hi) (by omega);simp only [List.getElem_map] at hp;rw [e1,e,A52 (show i-1<c.2.2.2.2.2.1.length by omega),A3 (Int.not_le.2 hp),Bool.not_false,Bool.or_true]
    rw [hup];rfl
  have hn:L6 (C0Q c) 0 c.2.2.2.2.2.1.length=c.2.2.2.2.2.1.length:=C2C _ _ _ (Nat.le_refl _) hall (fun h=>absurd h (Nat.lt_irrefl _));unfold E25;rw [A0 hn,A0 (show (c.2.2.2.2.2.1.length:Int)<=100 by omega)];rfl
abbrev bsC(enc:A9)(st:BS):S1:=mkC (st.pre:Int) st.inn enc st.dead st.m
abbrev bsH(enc:A9)(st:BS):C7:=mkH (st.pre:Int) st.inn enc st.dead st.m
theorem C9c{b:List Int}(h:codeF b=1):b.length<=1009:=by
  unfold codeF at h;split at h
  · omega
  · split at h
    · cases h
    · split at h
      · omega
      · cases h
theorem A6F{enc:A9}(he:T6 enc){st:BS}(h:BI st):A40 (bsC enc st)=some (true,()):=by
  have hpre:=h.pre;have hd:=h.dead;have hl:=h.hi.last;have hn:=C9c h.more;have hsl:=h.hi.strs.1;have e5:=D9J (bsC enc st) (by simp only [maxLen];omega);rw [E2m (c:=bsC enc st) h.hi.strs] at e5;have e6:=B4U st.inn h.inb (by omega) 0 (by omega);have e7:=(C2L (b:=st.inn) (a:=0) (by omega)).1;rw [List.drop_zero,h.more,show ((0:Nat):Int)=0 from rfl] at e7;simp only [A40,B7W,H1,B3H h.hi.g,D8G h.hi.dec,D8G he,bO];rw [e5];rw [A0 (show (0:Int)<=(st.pre:Int)/\(st.pre:Int)<=24 by omega),A0 hl,A0 hd,A3 (show ¬ (st.inn.length:Int)>1100 by omega),e6];simp only [Bool.not_true,cond_false,bO,bSl,e7];by_cases h1:st.pre<24
  · have hi:st.inn.length=0:=by rw [h.emp (.inl h1)];rfl
    rw [A0 (show (st.pre:Int)<24 by omega),A3 (show ¬ (st.inn.length:Int)>0 by omega)];simp only [cond_true,cond_false];by_cases h2:st.dead>0
    · obtain ⟨g1,g2⟩:=h.gone (by omega)
      have g3:st.m.strs.length=0:=by rw [g1];rfl
      rw [A0 h2,A3 (show ¬ (st.m.strs.length:Int)>0 by omega),A0 g2];rfl
    · rw [A3 h2];rfl
  · rw [A3 (show ¬ (st.pre:Int)<24 by omega)]
    by_cases h2:st.dead>0
    · have hi:st.inn.length=0:=by rw [h.emp (.inr (by omega))];rfl
      obtain ⟨g1,g2⟩:=h.gone (by omega);have g3:st.m.strs.length=0:=by rw [g1];rfl
      rw [A0 h2,A3 (show ¬ (st.inn.length:Int)>0 by omega),A3 (show ¬ (st.m.strs.length:Int)>0 by omega),A0 g2];rfl
    · rw [A3 h2];rfl
theorem D0w(F T:List Int)(h1:F.length<=10000000000)(h2:T.length<=10000000000):K2 [F,T]=some (F++T,()):=by
  have r0:rd (.sl 5 (.int .u8)) ([F,T]:List (List Int)) 0=F:=rfl;have r1:rd (.sl 5 (.int .u8)) ([F,T]:List (List Int)) 1=T:=rfl;have hl:(([F,T]:List (List Int)).length:Int)=2:=rfl;have d0:decide ((0:Int)<2)=true:=rfl;have d1:decide ((0:Int)<=0)=true:=rfl;have d2:decide ((1:Int)<2)=true:=rfl;have d3:decide ((0:Int)<=1)=true:=rfl;have a1:B9 (N8 [F,T]) (0,0,())=some ((F.length:Int)+T.length,()):=by
    rw [V7 (y:=((F.length:Int),1,())) (by
      simp only [N8,hl,r0,d0,d1,cond_true,Int.zero_add];rw [w64 (n:=(F.length:Int)) (by omega) (by omega),A3 (p:=(F.length:Int)<0) (by omega)];rfl)]
    rw [V7 (y:=((F.length:Int)+T.length,2,())) (by
      simp only [N8,hl,r1,d2,d3,cond_true];rw [w64 (n:=(F.length:Int)+T.length) (by omega) (by omega),A3 (p:=(F.length:Int)+T.length<0) (by omega)];rfl)]
    rw [C1];rfl
  have a2:A6f ([]:List Int) ((F.length:Int)+T.length)=some ([],()):=by
    have:(([]:List Int).isEmpty&&decide (0<=(F.length:Int)+T.length)&&decide ((F.length:Int)+T.length<=1000000000000))=true:=by
      rw [A0 (by omega),A0 (by omega)];rfl
    simp only [A6f,this,cond_true]
  have a3:B9 (N9 [F,T]) (0,[],())=some (F++T,()):=by
    rw [V7 (y:=(1,F,())) (by
      simp only [N9,hl,r0,d0,d1,cond_true];rw [gA (by simp;omega)];rfl)]
    rw [V7 (y:=(2,F++T,())) (by
      simp only [N9,hl,r1,d2,d3,cond_true];rw [gA (by omega)];rfl)]
    rw [C1];rfl
  simp only [K2,V0,a1,A4];rw [show Q8=A6f from rfl,a2];exact a3
def F6:List Int->Nat->Int×Nat×List Int
  | [],p=>(0,p,[])
  | x::xs,p=>if p<24 then (if x=bt priS (p:Int) then F6 xs (p+1) else (1,p,[])) else (0,p,x::xs)
theorem C9d:∀ (xs:List Int) (p:Nat),p<=24->(F6 xs p).2.1<=24/\(F6 xs p).2.2.length<=xs.length/\((F6 xs p).1=0\/(F6 xs p).1=1)/\(∀ x∈(F6 xs p).2.2,x∈xs)/\((F6 xs p).2.1<24->(F6 xs p).2.2 = [])
  | [],p,h=>⟨h,by simp [F6],.inl rfl,fun x hx=>by simp [F6] at hx,fun _=>rfl⟩
  | x::xs,p,h=>by
    unfold F6;by_cases hp:p<24
    · rw [if_pos hp]
      by_cases hx:x=bt priS (p:Int)
      · rw [if_pos hx]
        obtain ⟨a,b,c,d,e⟩:=C9d xs (p+1) (by omega);exact ⟨a,by simp only [List.length_cons];omega,c,fun y hy=>List.mem_cons_of_mem _ (d y hy),e⟩
      · rw [if_neg hx]
        exact ⟨h,by simp,.inr rfl,(fun y hy=>by cases hy),fun _=>rfl⟩
    · rw [if_neg hp]
      exact ⟨h,Nat.le_refl _,.inl rfl,fun y hy=>hy,fun q=>absurd q hp⟩
theorem B98(inn:List Int)(m:HM):∀ (xs:List Int) (p:Nat),p<=24->E3 ⟨p,inn,0,m⟩ xs=if (F6 xs p).1=0 then E3 ⟨(F6 xs p).2.1,inn,0,m⟩ (F6 xs p).2.2 else A8D (F6 xs p).2.1 m 1
  | [],p,_=>by simp [F6]
  | x::xs,p,h=>by
    have e:E3 ⟨p,inn,0,m⟩ (x::xs)=E3 (U5 ⟨p,inn,0,m⟩ x) xs:=rfl;unfold F6;by_cases hp:p<24
    · rw [if_pos hp,e]
      by_cases hx:x=bt priS (p:Int)
      · have e2:U5 ⟨p,inn,0,m⟩ x=⟨p+1,inn,0,m⟩:=by
          unfold U5;rw [if_neg (by simp),if_pos hp,if_pos hx]
        rw [if_pos hx,e2];exact B98 inn m xs (p+1) (by omega)
      · have e2:U5 ⟨p,inn,0,m⟩ x=A8D p m 1:=by
          unfold U5;rw [if_neg (by simp),if_pos hp,if_neg hx]
        rw [if_neg hx,e2,A6d _ (by simp [A8D])];rfl
    · rw [if_neg hp]
      rfl
section
variable (enc:A9)
theorem C5v(inn:List Int)(dead:Int)(m:HM):∀ (xs:List Int) (p:Nat),p<=24->Byt xs->xs.length<=1000000000->F2 (mkH (p:Int) inn enc dead m) xs=some ((F6 xs p).2.2,(F6 xs p).1,mkH ((F6 xs p).2.1:Int) inn enc dead m,())
  | [],p,h,_,_=>by
    simp only [F2,J7];rw [C1];simp only [L5,List.length_nil,show decide (((0:Nat):Int)>0)=false from rfl,cond_false,bSr];rfl
  | x::xs,p,h,hb,hl=>by
    have d1:decide ((((x::xs).length:Nat):Int)>0)=true:=A0 (by simp only [List.length_cons];omega);have d2:decide ((0:Int)<(((x::xs).length:Nat):Int))=true:=A0 (by simp only [List.length_cons];omega);have d3:decide ((1:Int)<=(((x::xs).length:Nat):Int))=true:=A0 (by simp only [List.length_cons];omega);have e0:rd (.int .u8) (x::xs) 0=x:=rfl;have ht:((x::xs).take (x::xs).length).drop 1=xs:=by rw [List.take_length];rfl
    unfold F6;by_cases hp:p<24
    · have d4:decide ((p:Int)<24)=true:=A0 (by omega)
      have d5:decide ((0:Int)<=(p:Int))=true:=A0 (by omega);have d6:decide ((p:Int)<(priS.size:Int))=true:=A0 (by rw [show priS.size=24 from rfl];omega);rw [if_pos hp];by_cases hx:x=bt priS (p:Int)
      · have w1:IntKind.i64.wrap ((p:Int)+1)=((p+1:Nat):Int):=by rw [w64 (by omega) (by omega)];omega
        rw [if_pos hx,<- C5v inn dead m xs (p+1) (by omega) (fun y hy=>hb y (List.mem_cons_of_mem _ hy)) (by simp only [List.length_cons] at hl;omega)];simp only [F2,J7]
        conv=>lhs;rw [C1]
        simp only [L5,d1,d2,d3,d4,d5,d6,cond_true,bSl,e0,A0 hx,Bool.not_true,cond_false,ht,w1]
      · rw [if_neg hx]
        simp only [F2,J7];rw [C1];simp only [L5,d1,d2,d3,d4,d5,d6,cond_true,bSl,e0,A3 hx,Bool.not_false,bSr]
    · have d4:decide ((p:Int)<24)=false:=A3 (by omega)
      rw [if_neg hp];simp only [F2,J7];rw [C1];simp only [L5,d1,d4,cond_true,cond_false,bSr];rfl
abbrev frL(a:Int)(pre:Int)(inn:List Int)(dead:Int)(m:HM):Int×Int×Int×Bool×Int×Int×Int×Int×List Int×List Int×List A5×List A5×List A08×List P3×List Int×Unit:=
  (a,pre,m.g.1,m.g.2.1,m.dec.1,enc.1,m.last,dead,inn,m.g.2.2,m.dec.2,enc.2,m.strs,m.calls,m.out,())
theorem B6G(pre:Int)(inn:List Int)(dead:Int)(b:List Int)(hb:Byt b)(hl:b.length<=1000000000):∀ (k a:Nat) (m:HM),a<=b.length->b.length<a+k->HI m->m.calls.length<=a->m.out.length<=1100*a->
    B9 (A37 V9 P6 B2 b) (frL enc (a:Int) pre inn dead m) =
      some ((C5u k m (b.drop a)).1,mkH pre (if (C5u k m (b.drop a)).1=0 then (C5u k m (b.drop a)).2.2 else inn) enc dead (C5u k m (b.drop a)).2.1,())
  | 0,a,m,ha,hk,_,_,_=>by omega
  | k+1,a,m,ha,hk,hi,hc,ho=>by
    have e1:=B4U b hb (by omega) (a:Int) (by omega);obtain ⟨g1,g2⟩:=C2L ha;rw [C1];simp only [A37,e1,bO,g1];unfold C5u;rcases B5h (b.drop a) with c | c | c
    · obtain ⟨f1,f2,f3⟩:=g2 c
      have w:=A9I c;have hfi:=C0f (A89 hb a) c;have hfo:=E2l hi hfi;have e2:=D5p pre inn enc dead m hi ⟨by omega,by omega⟩ (L7 (b.drop a)) hfi;have e2':P6 ((pre,inn,(m.g.1,m.g.2.1,m.g.2.2),(m.dec.1,m.dec.2),(enc.1,enc.2),m.strs,m.last,dead),m.calls,m.out) (L7 (b.drop a))=some ((frM m (L7 (b.drop a))).1,mkH pre inn enc dead (frM m (L7 (b.drop a))).2,()):=e2;rw [c];simp only [show decide (((0:Nat):Int)=1)=false from rfl,show decide (((0:Nat):Int)=2)=false from rfl,cond_false,f1,f2,e2',bO];rw [if_neg (show ¬ (0:Nat)=1 by omega),if_neg (show ¬ (0:Nat)=2 by omega)];by_cases hr:(frM m (L7 (b.drop a))).1=0
      · rw [A0 hr,if_neg (show ¬ (frM m (L7 (b.drop a))).1≠0 by simpa using hr)]
        have ih:=B6G pre inn dead b hb hl k (a+T7 (b.drop a)) (frM m (L7 (b.drop a))).2 f3 (by omega) (hfo.hi hr) (by have:=hfo.calls;omega) (by have:=hfo.out;omega);rw [List.drop_drop];simp only [Bool.not_true,cond_false];exact ih
      · rw [A3 hr,if_pos (show (frM m (L7 (b.drop a))).1≠0 from hr)]
        simp only [Bool.not_false,cond_true];rw [if_neg hr]
    · rw [c]
      simp only [show decide (((1:Nat):Int)=1)=true from rfl,cond_true,if_true];rw [A0 (show (0:Int)<=(a:Int) by omega),A0 (show (a:Int)<=(b.length:Int) by omega),List.take_length,Int.toNat_natCast,A4P _ (by simp;omega)];rfl
    · rw [c]
      simp only [show decide (((2:Nat):Int)=1)=false from rfl,show decide (((2:Nat):Int)=2)=true from rfl,cond_true,cond_false];rw [if_neg (show ¬ (2:Nat)=1 by omega),if_pos trivial];rfl
theorem D3M(pre:Nat)(inn:List Int)(m:HM)(code:Int)(ho:m.out.length<=100000000000000):A1w (mkH (pre:Int) inn enc 0 m) code=some (bsH enc (A8D pre m code),()):=by
  have e1:=A9D [] m.last 4 (by omega) (by simp);have e2:=A9D ([]++big (A6b m.last) 4) code 4 (by omega) (by simp [A6C]);rw [show ((4:Nat):Int)=4 from rfl] at e1 e2;have hg:=D8P m.last code;simp only [A1w,A84,A62,A9n,e1,bO,e2];rw [A6D _ _ (by simp [A6C];omega)];rfl
theorem A8E(he:T6 enc){st:BS}(h:BI st)(hc:st.m.calls = [])(ho:st.m.out = []){b:List Int}(hb:Byt b)(hl:b.length<=900000000) :
    A3M (bsC enc st) b=some (bsC enc (E3 st b),(E3 st b).m.calls,(E3 st b).m.out,()):=by
  have hsl:=h.hi.strs.1;have hdl:=B2n h.hi.dec;have hel:=B2n he;have hgl:=h.hi.g;have hil:=C9c h.more;have hcp:=D2t (bsC enc st) ⟨by simp only;omega,(by rcases hgl with ⟨_,_,q⟩ | ⟨_,_,q⟩;(simp only [q];simp);(simp only;omega)),by simp only;omega,by simp only;omega,by simp only;omega,fun x hx=>by have:=(h.hi.strs.2.2 x hx).2.2.2.2;omega⟩;obtain ⟨pre,inn,dead,m⟩:=st;simp only at hc ho hcp;simp only [A3M,A9o,hcp,bO];have hd:=h.dead;by_cases h0:dead=0
  · subst h0
    have hck:=A6F he h;simp only [bsC] at hck;simp only [show decide ((0:Int)>0)=false from rfl,cond_false,hck,bO,Bool.not_true,bSl];have es:=C5v enc inn 0 m b pre h.pre hb (by omega);simp only [mkH,hc,ho] at es;rw [es];simp only [bO];obtain ⟨s1,s2,s3,s4,s5⟩:=C9d b pre h.pre;rw [B98 inn m b pre h.pre];rcases s3 with s3 | s3
    · rw [s3,D0w inn _ (by simp only at hil;omega) (by omega)]
      simp only [decide_true,cond_true,bO,if_true,A1e,A4t];have hB:Byt (inn++(F6 b pre).2.2):=P2 h.inb fun y hy=>hb y (s4 y hy)
      have hBl:(inn++(F6 b pre).2.2).length<=1000000000:=by rw [List.length_append];simp only at hil;omega
      have el:=B6G enc ((F6 b pre).2.1:Int) inn 0 (inn++(F6 b pre).2.2) hB hBl ((inn++(F6 b pre).2.2).length+1) 0 m (by omega) (by omega) h.hi (by rw [hc];simp) (by rw [ho];simp);simp only [frL,hc,ho] at el;rw [show ((0:Nat):Int)=0 from rfl,List.drop_zero] at el;rw [el];simp only [bO];have key:E3 ⟨(F6 b pre).2.1,inn,0,m⟩ (F6 b pre).2.2=C9b (F6 b pre).2.1 (C5u ((inn++(F6 b pre).2.2).length+1) m (inn++(F6 b pre).2.2)):=by
        by_cases hp:(F6 b pre).2.1<24
        · have hr:=s5 hp
          rw [hr];have hi0:inn = []:=by
            refine h.emp (.inl ?_);have:pre<=(F6 b pre).2.1:=by
              have:∀ (xs:List Int) (p:Nat),p<=(F6 xs p).2.1:=by
                intro xs
                induction xs with
                | nil=>intro p;exact Nat.le_refl _
                | cons x xs ih=>
                  intro p;unfold F6;split
                  · split
                    · have:=ih (p+1);omega
                    · exact Nat.le_refl _
                  · exact Nat.le_refl _
              exact this b pre
            simp only;omega
          subst hi0;rfl
        · exact D3L _ hp _ (F6 b pre).2.2 inn m (by rw [List.length_append];omega) h.more
      rw [key];have hbi:=(B0m (st:=⟨(F6 b pre).2.1,inn,0,m⟩) (b:=(F6 b pre).2.2) ⟨s1,h.hi,h.inb,h.more,(fun q=>h.emp (by
        rcases q with q | q
        · left
          have:∀ (xs:List Int) (p:Nat),p<=(F6 xs p).2.1:=by
            intro xs
            induction xs with
            | nil=>intro p;exact Nat.le_refl _
            | cons x xs ih=>
              intro p;unfold F6;split
              · split
                · have:=ih (p+1);omega
                · exact Nat.le_refl _
              · exact Nat.le_refl _
          have:=this b pre;simp only at q ⊢;omega
        · exact absurd rfl q)),(fun q=>absurd rfl q),by simp⟩ fun y hy=>hb y (s4 y hy)).2.2
      rw [key] at hbi;unfold C9b at hbi ⊢;generalize C5u ((inn++(F6 b pre).2.2).length+1) m (inn++(F6 b pre).2.2)=R at hbi ⊢;by_cases hR:R.1=0
      · rw [if_pos hR,if_pos hR,A0 hR]
        rfl
      · rw [if_neg hR,if_neg hR,A3 hR]
        rw [if_neg hR] at hbi;have ee:=D3M enc (F6 b pre).2.1 inn R.2.1 R.1 (by
          simp only [A8D,List.length_append,ho,List.length_nil] at hbi;omega)
        simp only [mkH,mkC] at ee;simp only [Bool.not_false,cond_true,mkH,mkC,ee,bO]
    · rw [s3]
      simp only [show decide ((1:Int)=0)=false from rfl,cond_false,bO,Bool.not_false,cond_true];have ee:=D3M enc (F6 b pre).2.1 inn m 1 (by rw [ho];simp);simp only [mkH,mkC,hc,ho] at ee;rw [ee];rfl
  · have hp:dead>0:=by simp only at hd;omega
    rw [A0 hp];simp only [cond_true,bSr];rw [A6d _ h0];simp only [hc,ho]
end
set_option maxRecDepth 100000
theorem B4l(a:List Int)(h:a.length<=maxLen):T3 a a=some (true,()):=by
  simp only [T3,A9p,decide_true,Bool.not_true,cond_false];have e:=E4v (A3m a a) a.length h (fun _=>true) (fun i hi=>by
    have g1:((i:Int)<(a.length:Int)):=by omega
    have g2:(0:Int)<=(i:Int):=by omega
    simp only [A3m,A0 g1,A0 g2,cond_true,decide_true,Bool.not_true,cond_false]) (by simp [A3m])
  rw [e];simp
theorem C0g(c:D7)(n:Int)(h:Cur c)(hn:0<n/\n<9223372036854775808):∃ b c',A0v c n=some (b,c',())/\Cur c':=by
  obtain ⟨r,c',e,hc,_⟩:=A0C c n h hn;simp only [A0v,B7k,e,A4];exact ⟨_,_,rfl,hc⟩
theorem D5q(c:D7)(hc:Cur c):∃ r c',A5i c=some (r,c',())/\Cur c'/\-1<=r.2.2/\r.2.2<=4294967295/\r.2.1.size<=64:=by
  obtain ⟨k,c1,q1,h1,k0,k1⟩:=A0C c 6 hc (by omega);obtain ⟨s,c2,q2,h2,hs⟩:=E27 c1 [(⟨#[97]⟩:X0),(⟨#[98]⟩:X0),(⟨#[117,112,49]⟩:X0),(⟨#[101,105,103,104,116,108,101,116]⟩:X0)] h1 (by simp);have hsz:s.size<=64:=by
    simp only [List.mem_cons,List.not_mem_nil,or_false] at hs;rcases hs with rfl | rfl | rfl | rfl<;>decide
  simp only [A5i,B7l,q1,q2,bO];obtain ⟨m,qm⟩:∃ m,A0h (IntKind.i64.wrap (1+k))=some (m,()):=by
    simp only [A0h,A95];cases decide (IntKind.i64.wrap (1+k)=1)<;>cases decide (IntKind.i64.wrap (1+k)=3)<;>cases decide (IntKind.i64.wrap (1+k)=4)<;>exact ⟨_,rfl⟩
  rw [qm];simp only [bO];cases decide (m>=0) with
  | false=>exact ⟨_,_,rfl,h2,by simp only;omega,by simp only;omega,hsz⟩
  | true=>
    obtain ⟨n,c3,q3,h3,hn⟩:=A3T c2 [0,5,24,100,1000000000] h2 (by simp);have hn2:0<=n/\n<=1000000000:=by
      simp only [List.mem_cons,List.not_mem_nil,or_false] at hn;omega
    simp only [cond_true,q3,bO];cases decide (IntKind.i64.wrap (1+k)=4) with
    | false=>exact ⟨_,_,rfl,h3,by simp only;omega,by simp only;omega,hsz⟩
    | true=>
      obtain ⟨b,c4,q4,h4⟩:=C0g c3 2 h3 (by omega);simp only [cond_true,q4,bO];cases b
      · exact ⟨_,_,rfl,h4,by simp only;omega,by simp only;omega,hsz⟩
      · exact ⟨_,_,rfl,h4,by simp only;omega,by simp only;omega,hsz⟩
theorem C5w(a:List P3)(h:a.length<=1000000000)(hb:∀ c∈a,c.2.2.1.length<=1000000000):A3Q a a=some (true,()):=by
  simp only [A3Q,A9u,decide_true,Bool.not_true,cond_false];have e:=E4v (A3q T3 a a) a.length (by simp only [maxLen];omega) (fun _=>true) (fun i hi=>by
    have g1:((i:Int)<(a.length:Int)):=by omega
    have g2:(0:Int)<=(i:Int):=by omega
    have hr:rd A0f a (i:Int)=a[i]:=A49 (k:=A0f) hi;have hs:=B4l (a[i]).2.2.1 (by have:=hb _ (List.getElem_mem hi);simp only [maxLen];omega);simp only [A3q,A0 g1,A0 g2,cond_true,decide_true,Bool.not_true,cond_false,hr,eqM,Bool.and_self,hs,bO]) (by simp [A3q])
  rw [e];simp
theorem D10:Byt prefaceB:=by
  unfold prefaceB;refine P2 ?_ (A8B fun x hx=>by cases hx);intro x hx;simp only [pri,List.mem_cons,List.not_mem_nil,or_false] at hx;omega
theorem D5r(c:D7)(hc:Cur c):∃ f c',T8 c=some (f,c',())/\Cur c'/\f.2.2.2.length<=1000/\Byt f.2.2.2:=by
  obtain ⟨k,c1,q1,h1,k0,k1⟩:=A0C c 11 hc (by omega);obtain ⟨fl,c2,q2,h2,_⟩:=A3T c1 [0,1,4,5,8,12,32,44] h1 (by simp);obtain ⟨st,c3,q3,h3,_⟩:=A3T c2 [1,1,3,0,5] h2 (by simp);obtain ⟨n,c4,q4,h4,hn⟩:=A3T c3 [0,1,4,5,6,8,12] h3 (by simp);have hn2:0<=n/\n<=12:=by
    simp only [List.mem_cons,List.not_mem_nil,or_false] at hn;omega
  obtain ⟨j,c5,q5,h5,j0,j1⟩:=A0C c4 3 h4 (by omega);simp only [T8,A5k,q1,q2,q3,q4,q5,bO];obtain ⟨n1,d,e1,hd,hn1⟩:∃ n1 d,(bif (decide (k=2)) then some (5,c4.1,c4.2.1,c4.2.2,()) else A4 (bif (decide (k=3)) then some ((decide (k=3)),()) else some ((decide (k=8)),())) fun (m0:Bool×Unit)=>bif m0.1 then some (4,c4.1,c4.2.1,c4.2.2,()) else A4 (bif (decide (k=6)) then some ((decide (k=6)),()) else some ((decide (k=7)),())) fun (m1:Bool×Unit)=>bif m1.1 then some (8,c4.1,c4.2.1,c4.2.2,()) else bif (decide (k=4)) then bif (decide ((M4 .i64 fl 1)=1)) then some (0,c5.1,c5.2.1,c5.2.2,()) else some ((IntKind.i64.wrap (6*j)),c5.1,c5.2.1,c5.2.2,()) else some (n,c4.1,c4.2.1,c4.2.2,()))=some (n1,d.1,d.2.1,d.2.2,())/\Cur d/\(0<=n1/\n1<=12):=by
    have hj:IntKind.i64.wrap (6*j)=6*j:=w64 (by omega) (by omega);rw [hj];cases decide (k=2)
    case true=>exact ⟨5,c4,rfl,h4,by omega⟩
    cases decide (k=3)
    case true=>exact ⟨4,c4,rfl,h4,by omega⟩
    cases decide (k=8)
    case true=>exact ⟨4,c4,rfl,h4,by omega⟩
    cases decide (k=6)
    case true=>exact ⟨8,c4,rfl,h4,by omega⟩
    cases decide (k=7)
    case true=>exact ⟨8,c4,rfl,h4,by omega⟩
    cases decide (k=4)
    case false=>exact ⟨n,c4,rfl,h4,hn2⟩
    cases decide ((M4 .i64 fl 1)=1)
    case true=>exact ⟨0,c5,rfl,h5,by omega⟩
    case false=>exact ⟨6*j,c5,rfl,h5,by omega⟩
  obtain ⟨o,d2,q6,h6⟩:=C0g d 8 hd (by omega);rw [e1];simp only [bO,show ((d.1,(d.2.1,d.2.2)):D7)=d from rfl,q6];obtain ⟨n2,e2,hn2'⟩:∃ n2,(bif o then some ((IntKind.i64.wrap (n1+1)),d2.1,d2.2.1,d2.2.2,()) else some (n1,d2.1,d2.2.1,d2.2.2,()))=some (n2,d2.1,d2.2.1,d2.2.2,())/\(0<=n2/\n2<=13):=by
    cases o
    · exact ⟨n1,rfl,by omega⟩
    · exact ⟨n1+1,by rw [w64 (by omega) (by omega)];rfl,by omega⟩
  rw [e2];simp only [bO,A1f,show ((d2.1,(d2.2.1,d2.2.2)):D7)=d2 from rfl];obtain ⟨z,c7,q7,h7,_⟩:=A3T d2 [0,0,0,0,1] h6 (by simp);obtain ⟨st2,d3,e3,hd3⟩:∃ st2 d3,(bif decide (6<=k/\k<=7) then A4 (V5 d2 [0,0,0,0,1]) fun c50=>some (k,fl,c50.1,c50.2.1.1,c50.2.1.2.1,c50.2.1.2.2,()) else bif (decide (k=4)) then A4 (V5 d2 [0,0,0,0,1]) fun c50=>some (k,fl,c50.1,c50.2.1.1,c50.2.1.2.1,c50.2.1.2.2,()) else some (k,fl,st,d2.1,d2.2.1,d2.2.2,()))=some (k,fl,st2,d3.1,d3.2.1,d3.2.2,())/\Cur d3:=by
    rw [q7];cases decide (6<=k/\k<=7)
    case true=>exact ⟨z,c7,rfl,h7⟩
    cases decide (k=4)
    case true=>exact ⟨z,c7,rfl,h7⟩
    case false=>exact ⟨st,d2,rfl,h6⟩
  rw [e3];obtain ⟨b,c8,q8,h8,hb1,hb2⟩:=B7m d3 n2 hd3 (by omega);simp only [bO,show ((d3.1,(d3.2.1,d3.2.2)):D7)=d3 from rfl,q8];exact ⟨_,_,rfl,h8,by simp only;omega,hb2⟩
theorem C9e(f:B1)(h:f.2.2.2.length<=1000)(hb:Byt f.2.2.2):∃ o,G3 f=some (o,())/\o.length<=1009/\Byt o:=by
  rw [A3S f (by omega)];cases hk:N1 f with
  | true=>exact ⟨_,rfl,by rw [if_pos rfl];exact A4A f hk,by rw [if_pos rfl];exact A8B hb⟩
  | false=>exact ⟨_,rfl,by simp,fun x hx=>by simp at hx⟩
theorem D5s(c:D7)(hc:Cur c)(most:Int)(hm:0<most/\most<=6):∃ b c',A0e c most=some (b,c',())/\Cur c'/\33<=b.length/\b.length<=33+125000000*6/\Byt b:=by
  obtain ⟨n,c1,q1,h1,n0,n1⟩:=A0C c most hc (by omega);have hp:=D2T;simp only [A0e,A5l,D0V,bO,q1];obtain ⟨z,e,hz⟩:=B0h (A47 Q9 G3 A5i F3 N0 V5 T8)
    (fun l=>l.2.1.toNat) (fun l=>0<=l.2.1/\l.2.1<=6/\szT l.2.2.2.1<=1000000000/\Cur (l.2.2.2.2.1,l.2.2.2.2.2.1,l.2.2.2.2.2.2.1)/\33<=l.2.2.2.2.2.2.2.1.length/\(l.2.2.2.2.2.2.2.1.length:Int)<=33+125000000*(6-l.2.1)/\Byt l.2.2.2.2.2.2.2.1)
    (fun z=>Cur z.2.1/\33<=z.1.length/\z.1.length<=33+125000000*6/\Byt z.1) (fun l hl=>by
      obtain ⟨i0,i6,ht,hcu,hb0,hb1,hb2⟩:=hl;obtain ⟨a1,a2,a3,a4,a5,a6,a7,a8,u⟩:=l;simp only at i0 i6 ht hcu hb0 hb1 hb2;simp only [A47];by_cases hi:a2>0
      · left
        rw [A0 hi];obtain ⟨w,c2,q2,h2,w0,w1⟩:=A0C (a5,a6,a7) 6 hcu (by omega);have wi:IntKind.i64.wrap (a2-1)=a2-1:=w64 (by omega) (by omega);simp only [cond_true,q2,bO,wi];by_cases k0:w=0
        · rw [A0 k0]
          obtain ⟨f,c3,q3,h3,f1,f2⟩:=D5r c2 h2;obtain ⟨o,q4,o1,o2⟩:=C9e f f1 f2;simp only [cond_true,q3,q4,bO];rw [gA (by omega)];exact ⟨_,rfl,⟨by simp only;omega,by simp only;omega,ht,h3,by simp only [List.length_append];omega,by simp only [List.length_append];omega,P2 hb2 o2⟩,by simp only;omega⟩
        rw [A3 k0];simp only [cond_false];by_cases k1:w=1
        · rw [A0 k1]
          obtain ⟨v1,c3,q3,h3,_⟩:=A3T c2 [6,4,8,3] h2 (by simp);obtain ⟨v2,c4,q4,h4,_⟩:=A3T c3 [0,0,1] h3 (by simp);obtain ⟨v3,c5,q5,h5,hv⟩:=A3T c4 [8,4,0,6] h4 (by simp);have hv2:0<=v3/\v3<=8:=by
            simp only [List.mem_cons,List.not_mem_nil,or_false] at hv;omega
          obtain ⟨bb,c6,q6,h6,b1,b2⟩:=B7m c5 v3 h5 (by omega);obtain ⟨o,q7,o1,o2⟩:=C9e (v1,0,v2,bb) (by simp only;omega) b2;simp only [cond_true,q3,q4,q5,q6,q7,bO];rw [gA (by omega)];exact ⟨_,rfl,⟨by simp only;omega,by simp only;omega,ht,h6,by simp only [List.length_append];omega,by simp only [List.length_append];omega,P2 hb2 o2⟩,by simp only;omega⟩
        · rw [A3 k1]
          obtain ⟨r,c3,q3,h3,_,_,hr⟩:=D5q c2 h2;obtain ⟨v3,c5,q5,h5,hv⟩:=A3T c3 [0,3,10] h3 (by simp);have hv2:0<=v3/\v3<=10:=by
            simp only [List.mem_cons,List.not_mem_nil,or_false] at hv;omega
          obtain ⟨bb,c6,q6,h6,b1,b2⟩:=B7m c5 v3 h5 (by omega);obtain ⟨v4,c7,q7,h7,_⟩:=A3T c6 [1000,5,2] h6 (by simp);obtain ⟨o,T,q8,_,o1,o2,o3⟩:=D2s (a3,a4) a1 r bb v4 ht (by omega) (by omega);simp only [cond_false,q3,q5,q6,q7,q8,bO];rw [gA (by omega)];exact ⟨_,rfl,⟨by simp only;omega,by simp only;omega,o2,h7,by simp only [List.length_append];omega,by simp only [List.length_append];omega,P2 hb2 (o3 b2)⟩,by simp only;omega⟩
      · right
        rw [A3 hi];exact ⟨(a8,(a5,a6,a7),()),rfl,hcu,hb0,by simp only;omega,hb2⟩) (1,n,4096,[],c1.1,c1.2.1,c1.2.2,prefaceB,()) ⟨n0,by simp only;omega,by simp [szT],h1,by simp only [hp];omega,by simp only [hp];omega,D10⟩
  exact ⟨z.1,z.2.1,e,hz⟩
theorem E4f{b:List Int}(h:Byt b)(i:Nat){x:Int}(hx:0<=x/\x<256):Byt (b.set i x):=fun y hy=>by
  rcases List.mem_or_eq_of_mem_set hy with q | q
  · exact h y q
  · rw [q];exact hx
theorem D3N(a:List Int)(ha:a.length<=1048576):∃ b k,U4 a=some (b,k,())/\Byt b/\b.length<=800000000/\0<=k/\k<=(b.length:Int):=by
  obtain ⟨c0,q0,h0⟩:=E28 a ha;obtain ⟨b,c1,q1,h1,b0,b1,b2⟩:=D5s c0 h0 6 (by omega);obtain ⟨o,c2,q2,h2⟩:=C0g c1 4 h1 (by omega);simp only [U4,A48,q0,q1,q2,bO];obtain ⟨b',d,e1,hd,hl,hb⟩:∃ b' d,(bif o then A4 (F3 c2 (b.length:Int)) fun c16=>A4 (U2 c16.2.1) fun c18=>bif decide (0<=c16.1) then bif decide (c16.1<(b.length:Int)) then some (c18.2.1.1,c18.2.1.2.1,c18.2.1.2.2,(b.set c16.1.toNat (IntKind.u8.wrap c18.1)),()) else none else none else some (c2.1,c2.2.1,c2.2.2,b,()))=some (d.1,d.2.1,d.2.2,b',())/\Cur d/\b'.length=b.length/\Byt b':=by
    cases o
    case false=>exact ⟨b,c2,rfl,h2,rfl,b2⟩
    obtain ⟨i,c3,q3,h3,i0,i1⟩:=A0C c2 (b.length:Int) h2 (by omega);obtain ⟨x,c4,q4,h4,_⟩:=A7e c3 h3;simp only [cond_true,q3,q4,bO,A0 i0,A0 i1];exact ⟨_,c4,rfl,h4,by simp,E4f b2 _ (wrap_u8 _)⟩
  rw [e1];simp only [bO,show ((d.1,(d.2.1,d.2.2)):D7)=d from rfl];rw [w64 (n:=(b'.length:Int)+1) (by omega) (by omega)];obtain ⟨k,c5,q5,h5,k0,k1⟩:=A0C d ((b'.length:Int)+1) hd (by omega);rw [q5];exact ⟨b',k,rfl,hb,by omega,k0,by omega⟩
set_option maxRecDepth 100000
abbrev pfS(cs:List P3)(os:List Int)(st:BS):BS:={st with m:=pfM cs os st.m}
theorem D11(cs:List P3)(os:List Int)(pre:Nat)(m:HM)(code:Int):A8D pre (pfM cs os m) code=pfS cs os (A8D pre m code):=by
  simp only [A8D,List.append_assoc]
theorem E2n(cs:List P3)(os:List Int)(st:BS)(x:Int):U5 (pfS cs os st) x=pfS cs os (U5 st x):=by
  unfold U5;by_cases h1:st.dead≠0
  · rw [if_pos h1,if_pos h1]
  rw [if_neg h1,if_neg h1];by_cases h2:st.pre<24
  · rw [if_pos h2,if_pos h2]
    by_cases h3:x=bt priS (st.pre:Int)
    · rw [if_pos h3,if_pos h3]
    · rw [if_neg h3,if_neg h3]
      exact D11 cs os _ _ _
  rw [if_neg h2,if_neg h2];by_cases c1:codeF (st.inn ++ [x])=1
  · rw [if_pos c1,if_pos c1]
  rw [if_neg c1,if_neg c1];by_cases c2:codeF (st.inn ++ [x])=2
  · rw [if_pos c2,if_pos c2]
    exact D11 cs os _ _ _
  rw [if_neg c2,if_neg c2];have e:=E5s cs os st.m (L7 (st.inn ++ [x]));rw [e];by_cases hr:(frM st.m (L7 (st.inn ++ [x]))).1=0
  · rw [if_pos hr,if_pos hr]
  · rw [if_neg hr,if_neg hr]
    exact D11 cs os _ _ _
theorem C9f(cs:List P3)(os:List Int):∀ (b:List Int) (st:BS),E3 (pfS cs os st) b=pfS cs os (E3 st b)
  | [],st=>rfl
  | x::b,st=>by
    show E3 (U5 (pfS cs os st) x) b=pfS cs os (E3 (U5 st x) b);rw [E2n,C9f cs os b]
abbrev E54(st:BS):BS:={st with m:={st.m with calls:= [],out:= []}}
theorem E2o(st:BS):pfS st.m.calls st.m.out (E54 st)=st:=by
  obtain ⟨p,i,d,g,e,s,l,cs,os⟩:=st;simp
def CI(cs:List P3):Prop:=∀ c∈cs,c.2.2.1.length<=2000
theorem D8Q{cs:List P3}(h:CI cs){c:P3}(hc:c.2.2.1.length<=2000):CI (cs ++ [c]):=fun x hx=>by
  rcases List.mem_append.1 hx with q | q
  · exact h x q
  · rcases List.mem_singleton.1 q with rfl;exact hc
theorem C9g{m:HM}(h:CI m.calls){s:A08}(hs:s.2.2.2.length<=2000):CI (A1W m s).calls:=by
  unfold A1W;split
  · exact D8Q h hs
  · exact h
theorem D3O{m:HM}(h:CI m.calls){i:Nat}(hs:(sAt m.strs i).2.2.2.length<=2000)(ev:Int):CI (A4S m i ev).2.calls:=by
  unfold A4S;split
  · exact h
  · split
    · exact h
    · exact C9g (m:=A39 m i _) h hs
theorem E01{m:HM}(hi:HI m)(h:CI m.calls)(id:Int)(fin:Bool)(b:List Int):CI (A8C m id fin b).2.calls:=by
  unfold A8C;split
  · exact h
  · split
    · rename_i hh
      have hlt:=B2s hh;have hst:=(hi.strs.2.2 _ (List.getElem_mem hlt.1)).2.2.2.2;rw [<- A52 hlt.1] at hst;exact D3O (m:={m with dec:=(H7 m.dec 4096 b).2.1}) h hst _
    · unfold C5s
      split
      · exact h
      · split
        · exact h
        · split
          · exact D8Q h (by simp)
          · exact C9g (m:={m with dec:=(H7 m.dec 4096 b).2.1,last:=id,strs:=m.strs ++ [(id,(if fin then 2 else 1),(B5l (H7 m.dec 4096 b).1).1,[])]}) h (by simp)
theorem E5t{m:HM}(hi:HI m)(h:CI m.calls){f:B1}(hf:FrI f):CI (frM m f).2.calls:=by
  have hu:CI (C39 m f).2.calls:=by unfold C39;split<;>exact h
  have ha:∀ b,CI (C5t m f b).calls:=fun b=>by unfold C5t;cases A6c f 1<;>exact h
  have hr:=D8O f;unfold frM;by_cases c2:fcV f=2
  · rw [if_pos c2];exact h
  rw [if_neg c2];by_cases c3:fcV f=3
  · rw [if_pos c3];exact h
  rw [if_neg c3];have hc:fcV f=0:=by omega
  by_cases k:m.g.1≠0\/f.1=1\/f.1=9
  · rw [if_pos k]
    have hok:=C5r hi.g hi.gb hf (by by_cases h1:f.1=1;exact .inl (D0u hc h1);exact .inr h1);unfold C2I;split
    · exact h
    · split
      · exact h
      · split
        · exact E01 (m:={m with g:=(N3 m.g f).1}) ⟨hi.strs,hi.last,hi.dec,hok.1,hok.2.1⟩ h _ _ _
        · exact h
  rw [if_neg k];split
  · exact ha _
  · split
    · exact ha _
    · split
      · exact h
      · split
        · split<;>exact h
        · split
          · unfold C2J
            split
            · rename_i hh
              have hlt:=B2s hh;split
              · exact h
              · split
                · exact h
                · rename_i hq
                  refine D3O (m:=A39 m _ _) h ?_ _;simp only [A39];rw [A52 (by simpa using hlt.1),List.getElem_set_self];simp only [List.length_append];omega
            · exact hu
          · split
            · unfold B4j
              split
              · exact h
              · exact hu
            · exact h
theorem E2p{st:BS}(h:BI st)(hc:CI st.m.calls){x:Int}(hx:0<=x/\x<256):CI (U5 st x).m.calls:=by
  unfold U5;split
  · exact hc
  · split
    · split<;>exact hc
    · rename_i hp
      by_cases c1:codeF (st.inn ++ [x])=1
      · rw [if_pos c1];exact hc
      rw [if_neg c1];by_cases c2:codeF (st.inn ++ [x])=2
      · rw [if_pos c2];exact hc
      rw [if_neg c2];have c0:codeF (st.inn ++ [x])=0:=by have:=B5h (st.inn ++ [x]);omega
      have:=E5t h.hi hc (C0f (D3J h.inb hx) c0);split<;>exact this
theorem C9h:∀ {b:List Int} {st:BS},BI st->Byt b->CI st.m.calls->CI (E3 st b).m.calls
  | [],st,h,_,hc=>hc
  | x::b,st,h,hb,hc=>by
    have hx:=hb x List.mem_cons_self;have e:E3 st (x::b)=E3 (U5 st x) b:=rfl;rw [e];exact C9h (D3K h hx).1 (fun y hy=>hb y (List.mem_cons_of_mem _ hy)) (E2p h hc hx)
def newB:BS:=⟨0,[],0,⟨(0,false,[]),(4096,[]),[],0,[],[]⟩⟩
def D3P:A9:=(4096,[])
theorem B2u:T6 D3P:=⟨by decide,by decide,by simp [D3P,szT]⟩
theorem B99:BI newB:=⟨by decide,⟨C9W _,by decide,B2u,.inl ⟨rfl,rfl,rfl⟩,fun x hx=>by cases hx⟩,(fun x hx=>by cases hx),rfl,fun _=>rfl,(fun e=>absurd rfl e),by decide⟩
theorem D12:A93=some (bsC D3P newB,()):=rfl
set_option maxRecDepth 100000
theorem exactSpoken(a:List Int):B2g a=some (true,()):=by
  simp only [B2g,B2f,C48,D0Q,bO];by_cases hbig:(a.length:Int)>1048576
  · rw [A0 hbig];rfl
  rw [A3 hbig];obtain ⟨b,k,q1,hb,hl,k0,k1⟩:=D3N a (by omega);obtain ⟨n,rfl⟩:∃ n:Nat,k=(n:Int):=⟨k.toNat,by omega⟩;have hbt:Byt (b.take n):=B4T hb n;have hbd:Byt (b.drop n):=A89 hb n;have htl:(b.take n).length<=b.length:=by simp;omega
  have hdl:(b.drop n).length<=b.length:=by simp
  have e1:=A8E D3P B2u B99 rfl rfl hb (by omega);have e2:=A8E D3P B2u B99 rfl rfl hbt (by omega);obtain ⟨s1,s2,s3⟩:=B0m B99 hb;obtain ⟨t1,t2,t3⟩:=B0m B99 hbt;have c1:=C9h B99 hb (fun x hx=>by cases hx);simp only [cond_false,q1,bO,D12,e1];rw [A0 (show (0:Int)<=(n:Int) by omega),A0 k1,Int.toNat_natCast,List.drop_zero,e2];simp only [cond_true,bO];obtain ⟨S,hS⟩:∃ S:BS,S=E54 (E3 newB (b.take n)):=⟨_,rfl⟩;have hSi:BI S:=by rw [hS];exact ⟨t1.pre,⟨t1.hi.strs,t1.hi.last,t1.hi.dec,t1.hi.g,t1.hi.gb⟩,t1.inb,t1.more,t1.emp,t1.gone,t1.dead⟩
  have hC:bsC D3P (E3 newB (b.take n))=bsC D3P S:=by rw [hS]
  have hP:E3 newB (b.take n)=pfS (E3 newB (b.take n)).m.calls (E3 newB (b.take n)).m.out S:=by
    rw [hS];exact (E2o _).symm
  have e3:=A8E D3P B2u hSi (by rw [hS]) (by rw [hS]) hbd (by omega);have hcalls:S.m.calls = []:=by rw [hS]
  have hout:S.m.out = []:=by rw [hS]
  obtain ⟨u1,u2,u3⟩:=B0m hSi hbd;have hall:E3 newB b=pfS (E3 newB (b.take n)).m.calls (E3 newB (b.take n)).m.out (E3 S (b.drop n)):=by
    rw [<- C9f,<- hP,<- B7t,List.take_append_drop]
  have k1':=A6F B2u s1;have k2':=A6F B2u t1;have k3':=A6F B2u u1;rw [hcalls] at u2;rw [hout] at u3;have n1:newB.m.calls.length=0:=rfl;have n2:newB.m.out.length=0:=rfl;rw [k1',k2'];rw [hC,List.take_length,e3];simp only [bO,List.nil_append];rw [D5a (by simp at u2 ⊢;omega),D5a (by simp at u2 ⊢;omega),hall];simp only [pfS,pfM];rw [hall] at s2 s3 c1;simp only [pfS,pfM] at s2 s3 c1;rw [C5w _ (by omega) fun c hc=>by have:=c1 c hc;omega];simp only [bO,cond_true];rw [gA (by simp at u3 ⊢;omega),gA (by simp at u3 ⊢;omega),B4l _ (by simp only [maxLen];omega)];simp only [bO,cond_true,decide_true,k3']
end Go.Proofs.YthnfghmjipikhaaGreatDoor.Ev
