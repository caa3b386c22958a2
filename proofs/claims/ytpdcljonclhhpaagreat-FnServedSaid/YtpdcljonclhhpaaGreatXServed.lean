/- What the plain functions of the program and of the reference answer: laws of plain data. -/
import Derived.Test.YtpdcljonclhhpaaGreatXServeda
set_option linter.unusedVariables false
set_option linter.unusedSimpArgs false
namespace Go.Proofs.YtpdcljonclhhpaaGreat.Ev
theorem B5d(st:A5)(id:ByteArray)(want:Int)(hid:id.size≤maxLen)(h:Rt st)(hS:A5n st)(hok:D0 st=some (true,())):O5 st id want=some ((A2x st id want).1,(A2x st id want).2,()):=by
 obtain ⟨g1,g2,g3,g4,⟨g5,g6⟩,_⟩:=h.g
 have hU:=h.up
 have hl:st.1.1.length≤1048576:=by omega
 have hul:=hU.2.1
 simp only [O5,A3I,T1 st hS,hok,A7J id hid,A1e,bO,A2x]
 cases hidb:idB id with
 | false=>simp [B7,bO]
 | true=>
  simp only [Bool.not_true,cond_false,true_and]
  by_cases hw:0≤want∧want≤1000000
  ·rw [A0 hw,if_pos hw]
   simp only [Bool.not_true,cond_false,B7]
   rw [B1U st.2.2.2 id hU,B1W st g5 g6 hl]
   cases hh:F3 st.2.2.2 id with
   | true=>
    simp only [if_true,bO]
    rw [A0 (show (A8 st.2.2.2 id:Int)≥0 by omega)]
    rfl
   | false=>
    simp only [Bool.false_eq_true,if_false,bO]
    rw [A3 (show ¬ (-1:Int)≥0 by omega)]
    simp only [cond_false]
    by_cases hleft:(st.1.1.length:Int)-st.2.2.1<1
    ·rw [A0 hleft,if_pos (.inl hleft)]
     rfl
    ·rw [A3 hleft]
     simp only [cond_false]
     by_cases h10:10≤st.2.2.2.length
     ·rw [A0 (show (st.2.2.2.length:Int)=10 by omega),if_pos (.inr h10)]
      rfl
     ·rw [A3 (show ¬ (st.2.2.2.length:Int)=10 by omega),if_neg (fun hx=>hx.elim hleft h10)]
      simp only [cond_false]
      have hr:=A8p h.g 1 want id hidb hleft (.inl ⟨rfl,hw.1,by omega⟩)
      have hf:=B4l (st:=st) (id:=id) (want:=want) (by rw [hh];simp) h10
      rw [A8n st 0 0 1 id want [] hU hr Q1 g5 (by omega) hl _ hf]
      rfl
  ·rw [A3 hw,if_neg hw]
   rfl
theorem C38(st:A5)(id:ByteArray)(sum:Int)(hid:id.size≤maxLen)(h:Rt st):Y1 st id sum=some ((A2y st id sum).2,(A2y st id sum).1,()):=by
 obtain ⟨g1,g2,g3,g4,⟨g5,g6⟩,_⟩:=h.g
 have hU:=h.up
 have hl:st.1.1.length≤1048576:=by omega
 have hul:=hU.2.1
 simp only [Y1,A3Q,B1S id hid,bO,A2y]
 cases hidb:idB id with
 | false=>rfl
 | true=>
  simp only [Bool.not_true,cond_false,if_true]
  rw [A5G st.2.2.2 id (by simp only [maxLen];omega),B1V st g5 g6 hl]
  cases hh:F3 st.2.2.2 id with
  | false=>
   simp only [Bool.false_eq_true,if_false,bO]
   rw [A0 (show (-1:Int)<0 by omega)]
   rfl
  | true=>
   obtain ⟨hlt,hid2⟩:=G4.1 hh
   have hu:=hU.2.2 _ (List.getElem_mem hlt)
   have hdl:=A6W hU _ (List.getElem_mem hlt)
   rw [← E3 (k:=kUp) hlt] at hu hdl
   simp only [if_true,bO]
   rw [A3 (show ¬ (A8 st.2.2.2 id:Int)<0 by omega)]
   simp only [cond_false]
   rw [C2q _ hu.2.2.2 (by simp only [maxLen];omega)]
   simp only [bO]
   by_cases hd1:(List.length (rd kUp st.2.2.2 (A8 st.2.2.2 id:Int)).2.2.1:Int)<(rd kUp st.2.2.2 (A8 st.2.2.2 id:Int)).2.1
   ·rw [A0 hd1,if_pos hd1]
    rfl
   rw [A3 hd1,if_neg hd1]
   simp only [cond_false]
   by_cases hc:sum=((A46 (rd kUp st.2.2.2 (A8 st.2.2.2 id:Int)).2.2.1 ^^^ 4294967295:Nat):Int)
   ·rw [A0 hc,if_neg (fun hx=>hx hc)]
    simp only [Bool.not_true,cond_false]
    cases hdn:(rd kUp st.2.2.2 (A8 st.2.2.2 id:Int)).2.2.2 with
    | true=>rfl
    | false=>
     simp only [Bool.not_false,cond_true,cond_false,Bool.false_eq_true,if_false,bO]
     by_cases hleft:(st.1.1.length:Int)-st.2.2.1<1
     ·rw [A0 hleft,if_pos hleft]
      rfl
     ·rw [A3 hleft,if_neg hleft]
      simp only [cond_false]
      have hr:=A8p h.g 3 0 id hidb hleft (.inr ⟨.inl rfl,rfl⟩)
      have hf:=B4m hU hh hd1 (by rw [hdn];simp)
      have hwi:B9 ((st.1.1,st.1.2),(st.2.1,(st.2.2.1,st.2.2.2))) 3 id 0 []=_:=A8o st 3 id 0 [] hU hr Q1 g5 (by omega) hl _ hf
      simp only [B7,Bool.not_false,cond_true]
      rw [hwi]
      rfl
   ·rw [A3 hc,if_pos hc]
    rfl
theorem B5e(st:A5)(id:ByteArray)(sum:Int)(hid:id.size≤maxLen)(h:Rt st)(hS:A5n st)(hok:D0 st=some (true,())):O6 st id sum=some ((A2y st id sum).1,(A2y st id sum).2,()):=by
 obtain ⟨g1,g2,g3,g4,⟨g5,g6⟩,_⟩:=h.g
 have hU:=h.up
 have hl:st.1.1.length≤1048576:=by omega
 have hul:=hU.2.1
 simp only [O6,A3J,T1 st hS,hok,A7J id hid,bO,A2y]
 cases hidb:idB id with
 | false=>rfl
 | true=>
  simp only [Bool.not_true,cond_false,B7,if_true]
  rw [B1U st.2.2.2 id hU,B1W st g5 g6 hl]
  cases hh:F3 st.2.2.2 id with
  | false=>
   simp only [Bool.false_eq_true,if_false,bO]
   rw [A0 (show (-1:Int)<0 by omega)]
   rfl
  | true=>
   obtain ⟨hlt,hid2⟩:=G4.1 hh
   have hu:=hU.2.2 _ (List.getElem_mem hlt)
   have hdl:=A6W hU _ (List.getElem_mem hlt)
   rw [← E3 (k:=kUp) hlt] at hu hdl
   simp only [if_true,bO]
   rw [A3 (show ¬ (A8 st.2.2.2 id:Int)<0 by omega),A0 (show (0:Int)≤(A8 st.2.2.2 id:Int) by omega),A0 (show (A8 st.2.2.2 id:Int)<(st.2.2.2.length:Int) by omega)]
   simp only [cond_true,cond_false]
   rw [B0Y _ hu.2.2.2 (by simp only [maxLen];omega)]
   simp only [bO]
   by_cases hd1:(List.length (rd kUp st.2.2.2 (A8 st.2.2.2 id:Int)).2.2.1:Int)<(rd kUp st.2.2.2 (A8 st.2.2.2 id:Int)).2.1
   ·rw [A0 hd1,if_pos hd1]
    rfl
   rw [A3 hd1,if_neg hd1]
   simp only [cond_false]
   by_cases hc:sum=((A46 (rd kUp st.2.2.2 (A8 st.2.2.2 id:Int)).2.2.1 ^^^ 4294967295:Nat):Int)
   ·rw [A0 hc,if_neg (fun hx=>hx hc)]
    simp only [Bool.not_true,cond_false]
    cases hdn:(rd kUp st.2.2.2 (A8 st.2.2.2 id:Int)).2.2.2 with
    | true=>rfl
    | false=>
     simp only [Bool.not_false,cond_true,cond_false,Bool.false_eq_true,if_false,bO]
     by_cases hleft:(st.1.1.length:Int)-st.2.2.1<1
     ·rw [A0 hleft,if_pos hleft]
      rfl
     ·rw [A3 hleft,if_neg hleft]
      simp only [cond_false]
      have hr:=A8p h.g 3 0 id hidb hleft (.inr ⟨.inl rfl,rfl⟩)
      have hf:=B4m hU hh hd1 (by rw [hdn];simp)
      rw [A8n st 0 0 3 id 0 [] hU hr Q1 g5 (by omega) hl _ hf]
      rfl
   ·rw [A3 hc,if_pos hc]
    rfl
theorem C39(st:A5)(id:ByteArray)(hid:id.size≤maxLen)(h:Rt st):Y2 st id=some ((A2z st id).2,(A2z st id).1,()):=by
 obtain ⟨g1,g2,g3,g4,⟨g5,g6⟩,_⟩:=h.g
 have hU:=h.up
 have hl:st.1.1.length≤1048576:=by omega
 have hul:=hU.2.1
 simp only [Y2,A3R,B1S id hid,bO,A2z]
 cases hidb:idB id with
 | false=>rfl
 | true=>
  simp only [Bool.not_true,cond_false,if_true,B7]
  rw [A5G st.2.2.2 id (by simp only [maxLen];omega),B1V st g5 g6 hl]
  cases hh:F3 st.2.2.2 id with
  | false=>
   simp only [Bool.false_eq_true,if_false,bO]
   rw [A0 (show (-1:Int)<0 by omega)]
   rfl
  | true=>
   simp only [if_true,bO]
   rw [A3 (show ¬ (A8 st.2.2.2 id:Int)<0 by omega)]
   simp only [cond_false,Bool.not_true]
   by_cases hleft:(st.1.1.length:Int)-st.2.2.1<1
   ·rw [A0 hleft,if_pos hleft]
    rfl
   ·rw [A3 hleft,if_neg hleft]
    simp only [cond_false]
    have hr:=A8p h.g 4 0 id hidb hleft (.inr ⟨.inr rfl,rfl⟩)
    have hf:=B4n (st:=st) hh
    have hwi:B9 ((st.1.1,st.1.2),(st.2.1,(st.2.2.1,st.2.2.2))) 4 id 0 []=_:=A8o st 4 id 0 [] hU hr Q1 g5 (by omega) hl _ hf
    rw [hwi]
    rfl
theorem B5f(st:A5)(id:ByteArray)(hid:id.size≤maxLen)(h:Rt st)(hS:A5n st)(hok:D0 st=some (true,())):O7 st id=some ((A2z st id).1,(A2z st id).2,()):=by
 obtain ⟨g1,g2,g3,g4,⟨g5,g6⟩,_⟩:=h.g
 have hU:=h.up
 have hl:st.1.1.length≤1048576:=by omega
 have hul:=hU.2.1
 simp only [O7,A3K,T1 st hS,hok,A7J id hid,bO,A2z]
 cases hidb:idB id with
 | false=>rfl
 | true=>
  simp only [Bool.not_true,cond_false,B7,if_true]
  rw [B1U st.2.2.2 id hU,B1W st g5 g6 hl]
  cases hh:F3 st.2.2.2 id with
  | false=>
   simp only [Bool.false_eq_true,if_false,bO]
   rw [A0 (show (-1:Int)<0 by omega)]
   rfl
  | true=>
   simp only [if_true,bO]
   rw [A3 (show ¬ (A8 st.2.2.2 id:Int)<0 by omega)]
   simp only [cond_false]
   by_cases hleft:(st.1.1.length:Int)-st.2.2.1<1
   ·rw [A0 hleft,if_pos hleft]
    rfl
   ·rw [A3 hleft,if_neg hleft]
    simp only [cond_false]
    have hr:=A8p h.g 4 0 id hidb hleft (.inr ⟨.inr rfl,rfl⟩)
    have hf:=B4n (st:=st) hh
    rw [A8n st 0 0 4 id 0 [] hU hr Q1 g5 (by omega) hl _ hf]
    rfl
theorem B9h{xs:List Int}(h:Byt xs):bytesOf (strOf xs)=xs:=by
 show ((strOfNums xs).data.toList.map fun b=>(b.toNat:Int))=xs
 rw [strOfNums_data,List.map_map]
 refine (List.map_congr_left fun x hx=>?_).trans (List.map_id _)
 have:=h x hx
 simp only [Function.comp,id]
 have e:(UInt8.ofNat x.toNat).toNat=x.toNat % 256:=UInt8.toNat_ofNat
 rw [e]
 omega
theorem B9i(s:ByteArray):strOf (bytesOf s)=s:=by
 refine C1X ?_
 rw [ByteArray.toList_eq,ByteArray.toList_eq]
 show ((bytesOf s).map fun n=>UInt8.ofNat n.toNat)=s.data.toList
 rw [bytesOf,List.map_map]
 refine (List.map_congr_left fun x hx=>?_).trans (List.map_id _)
 simp
theorem C3A(n:Nat):IntKind.u8.wrap (n:Int)=((n % 256:Nat):Int):=by
 simp only [IntKind.wrap,IntKind.bits,IntKind.signed]
 simp
theorem C3B(x y:Nat)(h:y<256):(x*256) ||| y=x*256+y:=by
 have:=Nat.two_pow_add_eq_or_of_lt (i:=8) (b:=y) (by simpa using h) x
 rw [Nat.mul_comm x 256]
 exact this.symm
theorem C3C(p q:List Int)(n k:Nat):∀ j,j≤k→U1 (p++(big (n:Int) k++q)) p.length j=n / 2 ^ (8*(k-j)) % 2 ^ (8*j)
 | 0,_=>by simp [U1,Nat.mod_one]
 | j+1,hj=>by
  have ih:=C3C p q n k j (by omega)
  have hget:(p++(big (n:Int) k++q)).getD (p.length+j) 0=B80 (n:Int) k j:=by
   simp only [List.getD]
   rw [List.getElem?_append_right (by omega),Nat.add_sub_cancel_left,List.getElem?_append_left (by rw [I5];omega)]
   simp only [big,List.getElem?_map,List.getElem?_range (show j<k by omega),Option.map_some,Option.getD_some]
  have hat:B80 (n:Int) k j=((n / 2 ^ (8*(k-1-j)) % 256:Nat):Int):=by
   unfold B80
   rw [← C3A]
   congr 1
   rw [show (2:Int) ^ (8*(k-1-j))=((2 ^ (8*(k-1-j)):Nat):Int) by rw [Int.natCast_pow];rfl,Int.fdiv_eq_ediv_of_nonneg _ (Int.natCast_nonneg _),← Int.natCast_ediv]
  simp only [U1]
  rw [ih,hget,hat,Int.toNat_natCast,C3B _ _ (Nat.mod_lt _ (by omega))]
  rw [show k-1-j=k-(j+1) by omega]
  have e1:2 ^ (8*(k-j))=2 ^ (8*(k-(j+1)))*256:=by rw [show 8*(k-j)=8*(k-(j+1))+8 by omega,Nat.pow_add]
  have e2:2 ^ (8*(j+1))=256*2 ^ (8*j):=by rw [show 8*(j+1)=8+8*j by omega,Nat.pow_add]
  rw [e1,← Nat.div_div_eq_div_mul,e2,Nat.mod_mul]
  omega
theorem A5H{b:List Int}(p q:List Int)(n:Int)(k a:Nat)(h:b=p++(big n k++q))(ha:a=p.length)(h0:0≤n)(h1:n<2 ^ (8*k)):(U1 b a k:Int)=n:=by
 subst h;subst ha
 obtain ⟨m,rfl⟩:∃ m:Nat,n=(m:Int):=⟨n.toNat,by omega⟩
 rw [C3C p q m k k (Nat.le_refl _),Nat.sub_self,Nat.mul_zero,Nat.pow_zero,Nat.div_one]
 rw [show (2:Int) ^ (8*k)=((2 ^ (8*k):Nat):Int) by rw [Int.natCast_pow];rfl] at h1
 rw [Nat.mod_eq_of_lt (by omega)]
theorem C1Z{r:E9}(h:B0e r):bytesOf (S0 r)=A9p r++big (Y3 (D21 (A9p r))) 4:=by
 unfold S0
 exact B9h (C1R (B86 r h.2) (C6i _ _))
theorem D16{r:E9}(h:N3 r=true)(c:List Int):A9p r++c=big r.1 3++(big r.2.1 2++(big r.2.2.1 1++(big (r.2.2.2.1.size:Int) 1++(bytesOf r.2.2.2.1++(big r.2.2.2.2.1 4++(big (List.length r.2.2.2.2.2:Int) 1++(r.2.2.2.2.2++c))))))):=by
 have hb:=Y4 h
 have hq:0≤r.2.1:=by
  simp only [N3,Bool.and_eq_true] at h
  exact (of_decide_eq_true h.1.1.2).1
 unfold A9p
 rw [A2b (n:=r.1) (by omega),A2b (n:=r.2.1) hq,A2b (n:=r.2.2.1) (by omega),A2b (n:=(r.2.2.2.1.size:Int)) (by omega),A2b (n:=r.2.2.2.2.1) (by omega),A2b (n:=(List.length r.2.2.2.2.2:Int)) (by omega)]
 simp only [List.append_assoc]
theorem C7m{r:E9}(h:N3 r=true):0≤r.2.1∧r.2.1≤199:=by
 simp only [N3,Bool.and_eq_true] at h
 exact of_decide_eq_true h.1.1.2
theorem C7n{r:E9}(h:N3 r=true)(c:List Int):C4 (A9p r++c)=r.2.2.2.1.size∧M5 (A9p r++c)=List.length r.2.2.2.2.2∧recAt (A9p r++c)=r:=by
 have hb:=Y4 h
 have hq:=C7m h
 have e:=D16 h c
 generalize A9p r++c=b at e
 have b6:(U1 b 6 1:Int)=(r.2.2.2.1.size:Int):=A5H (big r.1 3++(big r.2.1 2++big r.2.2.1 1)) _ _ 1 6 (by rw [e];simp only [List.append_assoc];rfl) (by simp [I5]) (by omega) (by omega)
 have hid:C4 b=r.2.2.2.1.size:=by unfold C4;omega
 have b11:(U1 b (11+C4 b) 1:Int)=(List.length r.2.2.2.2.2:Int):=
  A5H (big r.1 3++(big r.2.1 2++(big r.2.2.1 1++(big (r.2.2.2.1.size:Int) 1++(bytesOf r.2.2.2.1++big r.2.2.2.2.1 4))))) _ _ 1 _ (by rw [e];simp only [List.append_assoc];rfl) (by simp [I5,bytesOf_length,hid];omega) (by omega) (by omega)
 have hdl:M5 b=List.length r.2.2.2.2.2:=by unfold M5;omega
 refine ⟨hid,hdl,?_⟩
 have b0:(U1 b 0 3:Int)=r.1:=A5H [] _ _ 3 0 (by rw [e];rfl) rfl (by omega) (by omega)
 have b3:(U1 b 3 2:Int)=r.2.1:=A5H (big r.1 3) _ _ 2 3 (by rw [e]) (by simp [I5]) (by omega) (by omega)
 have b5:(U1 b 5 1:Int)=r.2.2.1:=A5H (big r.1 3++big r.2.1 2) _ _ 1 5 (by rw [e];simp only [List.append_assoc];rfl) (by simp [I5]) (by omega) (by omega)
 have b7:(U1 b (7+C4 b) 4:Int)=r.2.2.2.2.1:=A5H (big r.1 3++(big r.2.1 2++(big r.2.2.1 1++(big (r.2.2.2.1.size:Int) 1++bytesOf r.2.2.2.1)))) _ _ 4 _ (by rw [e];simp only [List.append_assoc];rfl) (by simp [I5,bytesOf_length,hid];omega) (by omega) (by omega)
 have t1:(b.take (7+C4 b)).drop 7=bytesOf r.2.2.2.1:=by
  have e7:b=(big r.1 3++(big r.2.1 2++(big r.2.2.1 1++big (r.2.2.2.1.size:Int) 1)))++(bytesOf r.2.2.2.1++(big r.2.2.2.2.1 4++(big (List.length r.2.2.2.2.2:Int) 1++(r.2.2.2.2.2++c)))):=by rw [e];simp only [List.append_assoc]
  have hl7:(big r.1 3++(big r.2.1 2++(big r.2.2.1 1++big (r.2.2.2.1.size:Int) 1))).length=7:=by simp [I5]
  rw [hid,List.drop_take,Nat.add_sub_cancel_left,e7,← hl7,List.drop_left,← bytesOf_length,List.take_left]
 have t2:(b.take (12+C4 b+M5 b)).drop (12+C4 b)=r.2.2.2.2.2:=by
  have e12:b=(big r.1 3++(big r.2.1 2++(big r.2.2.1 1++(big (r.2.2.2.1.size:Int) 1++(bytesOf r.2.2.2.1++(big r.2.2.2.2.1 4++big (List.length r.2.2.2.2.2:Int) 1))))))++(r.2.2.2.2.2++c):=by rw [e];simp only [List.append_assoc]
  have hl12:(big r.1 3++(big r.2.1 2++(big r.2.2.1 1++(big (r.2.2.2.1.size:Int) 1++(bytesOf r.2.2.2.1++(big r.2.2.2.2.1 4++big (List.length r.2.2.2.2.2:Int) 1)))))).length=12+r.2.2.2.1.size:=by simp [I5,bytesOf_length];omega
  rw [hid,hdl,List.drop_take,Nat.add_sub_cancel_left,e12,← hl12,List.drop_left,List.take_left]
 unfold recAt
 rw [b0,b3,b5,b7,t1,t2,B9i]
theorem B2m{r:E9}(h:B0e r):C2 (S0 r)=(r,true,()):=by
 have hpb:=C1Z h
 obtain ⟨h1,h2,h3⟩:=C7n h.1 (big (Y3 (D21 (A9p r))) 4)
 have hsz:(S0 r).size=12+r.2.2.2.1.size+List.length r.2.2.2.2.2+4:=by
  unfold S0
  rw [A8m,List.length_append,B0b,I5]
 have hg:A6T (S0 r)=true:=by
  unfold A6T
  rw [hpb,h1,h2,h3,hsz,A0 (by omega),h.1]
  simp
 unfold C2
 rw [if_pos hg,hpb,h3]
theorem C7o{r:E9}(h:N3 r=true):(S0 r).size≤64:=by
 have hb:=Y4 h
 unfold S0
 rw [A8m,List.length_append,B0b,I5]
 omega
def A0o(last:Int)(i:Nat)(s:ByteArray):Bool:=(C2 s).2.1&&decide ((C2 s).1.2.1=(i:Int))&&!decide ((C2 s).1.1<last)
def H0(last:Int)(i:Nat):List ByteArray→List E9
 | []=> []
 | s::l=>if A0o last i s=true then (C2 s).1::H0 (C2 s).1.1 (i+1) l else []
def B0(now:List ByteArray):List E9:=H0 0 0 now
def A0A:Int→List E9→Int
 | e,[]=>e
 | _,r::l=>A0A r.1 l
theorem A5I(last:Int)(i:Nat)(l:List ByteArray):(H0 last i l).length≤l.length:=by
 induction l generalizing last i with
 | nil=>exact Nat.le_refl _
 | cons s l ih=>
  simp only [H0]
  split
  ·have:=ih (C2 s).1.1 (i+1);simp only [List.length_cons];omega
  ·simp
theorem B2n(last:Int)(i:Nat)(l:List ByteArray):∀ r∈H0 last i l,B0e r:=by
 induction l generalizing last i with
 | nil=>intro r hr;cases hr
 | cons s l ih=>
  intro r hr
  simp only [H0] at hr
  split at hr
  ·rename_i hg
   simp only [A0o,Bool.and_eq_true] at hg
   rcases List.mem_cons.1 hr with rfl | hr
   ·exact B5c hg.1.1
   ·exact ih _ _ r hr
  ·cases hr
theorem C9y(last:Int)(i:Nat)(l:List ByteArray):last≤A0A last (H0 last i l)∧∀ r∈H0 last i l,r.1≤A0A last (H0 last i l):=by
 induction l generalizing last i with
 | nil=>exact ⟨Int.le_refl _,fun r hr=>by cases hr⟩
 | cons s l ih=>
  simp only [H0]
  split
  ·rename_i hg
   obtain ⟨h1,h2⟩:=ih (C2 s).1.1 (i+1)
   simp only [A0o,Bool.and_eq_true,Bool.not_eq_true',decide_eq_false_iff_not] at hg
   have h3:=hg.2
   simp only [A0A]
   refine ⟨by omega,fun r hr=>?_⟩
   rcases List.mem_cons.1 hr with rfl | hr
   ·exact h1
   ·exact h2 r hr
  ·exact ⟨Int.le_refl _,fun r hr=>by cases hr⟩
theorem C0W(last:Int)(i:Nat)(a b:List ByteArray)(h:(H0 last i a).length=a.length):H0 last i (a++b)=H0 last i a++H0 (A0A last (H0 last i a)) (i+a.length) b:=by
 induction a generalizing last i with
 | nil=>simp [H0,A0A]
 | cons s a ih=>
  simp only [H0,List.cons_append] at h ⊢
  split
  ·rename_i hg
   rw [if_pos hg] at h
   simp only [List.length_cons,Nat.add_right_cancel_iff] at h
   rw [ih _ _ h,List.cons_append,A0A,List.length_cons]
   congr 3
   omega
  ·rename_i hg
   rw [if_neg hg] at h
   simp at h
theorem C51(last:Int)(i:Nat)(l:List ByteArray):H0 last i (l.take (H0 last i l).length)=H0 last i l:=by
 induction l generalizing last i with
 | nil=>rfl
 | cons s l ih=>
  simp only [H0]
  split
  ·rename_i hg
   simp only [List.length_cons,List.take_succ_cons,H0,if_pos hg,ih]
  ·rfl
theorem B2o(last:Int)(i:Nat)(l:List ByteArray)(h:∀ s,l.head? = some s→A0o last i s=false):H0 last i l = []:=by
 cases l with
 | nil=>rfl
 | cons s l=>simp only [H0,h s rfl,Bool.false_eq_true,if_false]
theorem A8q(last:Int)(i:Nat)(s:ByteArray)(l:List ByteArray):H0 last i (s::l)=bif A0o last i s then (C2 s).1::H0 (C2 s).1.1 (i+1) l else []:=by
 simp only [H0]
 cases A0o last i s<;>rfl
set_option maxRecDepth 100000 in
theorem C0X(d:G2)(h:B2k d.1):R5 d=some (B0 d.1,()):=by
 have hl:=h.1
 obtain ⟨z,e,hz⟩:=A0P (P1 I2 d) (fun l=>((d.1.length:Int)-l.2.1).toNat) (fun l=>∃ i:Nat,l.2.1=(i:Int)∧i≤d.1.length∧List.length l.2.2.1=i∧B0 d.1=l.2.2.1++H0 l.1 i (d.1.drop i))
  (fun z=>z=(B0 d.1,())) (fun l hl=>by
   obtain ⟨i,h0,h1,h2,h3⟩:=hl
   simp only [P1]
   by_cases hi:i<d.1.length
   ·rw [h0,A0 (show (i:Int)<(d.1.length:Int) by omega),A0 (show (0:Int)≤(i:Int) by omega)]
    simp only [cond_true]
    rw [A48 _ (A6Y h hi)]
    simp only [A4]
    rw [A3V hi]
    have hdrop:d.1.drop i=d.1[i]::d.1.drop (i+1):=List.drop_eq_getElem_cons hi
    rw [hdrop] at h3
    rw [A8q] at h3
    simp only [A0o] at h3
    obtain ⟨g,hg⟩:∃ g,C2 d.1[i]=g:=⟨_,rfl⟩
    rw [hg] at h3 ⊢
    cases hk:g.2.1 with
    | false=>
     rw [hk] at h3
     simp only [Bool.false_and,cond_false,List.append_nil] at h3
     exact .inr ⟨_,rfl,by rw [h3]⟩
    | true=>
     rw [hk] at h3
     simp only [Bool.true_and] at h3
     simp only [Bool.not_true,cond_false]
     by_cases e1:g.1.2.1=(i:Int)
     ·rw [A0 e1] at h3 ⊢
      by_cases e2:g.1.1<l.1
      ·rw [A0 e2] at h3 ⊢
       simp only [Bool.not_true,Bool.and_false,cond_false,List.append_nil] at h3
       exact .inr ⟨_,rfl,by rw [h3]⟩
      ·rw [A3 e2] at h3 ⊢
       simp only [Bool.not_false,Bool.and_true,cond_true,Bool.true_and] at h3
       simp only [Bool.not_true,cond_false]
       rw [A0 (by simp;omega),A0 (by simp;omega),w64 (by omega) (by omega)]
       refine .inl ⟨_,rfl,⟨i+1,by simp only;omega,by omega,by simp;omega,?_⟩,by simp only;omega⟩
       simp only
       rw [h3,List.append_assoc]
       rfl
     ·rw [A3 e1] at h3 ⊢
      simp only [Bool.false_and,cond_false,List.append_nil] at h3
      exact .inr ⟨_,rfl,by rw [h3]⟩
   ·rw [h0,A3 (show ¬ (i:Int)<(d.1.length:Int) by omega)]
    rw [List.drop_eq_nil_of_le (by omega)] at h3
    simp only [H0,List.append_nil] at h3
    exact .inr ⟨_,rfl,by rw [h3]⟩) (0,0,[],()) ⟨0,rfl,by omega,rfl,by simp [B0]⟩
 have e':R5 d=some z:=e
 rw [e',hz]
structure GoodS (st:A5):Prop where
 dk:A4A st.1=true
 ep:0≤st.2.1∧st.2.1≤10000
 up:J2 [] (B0 st.1.1)=some st.2.2.2
 nx:st.2.2.1=(List.length (B0 st.1.1):Int)
 le:A0A 0 (B0 st.1.1)≤st.2.1
 tl:((st.1.1.drop (B0 st.1.1).length).all fun s=>!A1M st.2.1 s)=true
theorem A3r{d:G2}(h:A4A d=true):A7M d∧d.1.length=d.2.length∧d.1.length≤200∧(∀ s∈d.1,s.size≤64)∧∀ s∈d.2,s.size≤64:=by
 simp only [A4A,Bool.and_eq_true] at h
 obtain ⟨h1,h2⟩:=h
 have h1:=of_decide_eq_true h1
 have k1:∀ s∈d.1,s.size≤64:=fun s hs=>by
  obtain ⟨i,hi,rfl⟩:=List.getElem_of_mem hs
  have:=List.all_eq_true.1 h2 i (List.mem_range.2 hi)
  simp only [Bool.and_eq_true,Bool.not_eq_true',decide_eq_false_iff_not] at this
  have h3:=this.1
  rw [A3V hi] at h3
  omega
 have k2:∀ s∈d.2,s.size≤64:=fun s hs=>by
  obtain ⟨i,hi,rfl⟩:=List.getElem_of_mem hs
  have:=List.all_eq_true.1 h2 i (List.mem_range.2 (by omega))
  simp only [Bool.and_eq_true,Bool.not_eq_true',decide_eq_false_iff_not] at this
  have h3:=this.2
  rw [A3V hi] at h3
  omega
 exact ⟨⟨⟨by omega,fun s hs=>by have:=k1 s hs;omega⟩,by omega,fun s hs=>by have:=k2 s hs;omega⟩,h1.1,h1.2,k1,k2⟩
theorem B8K{d:G2}(h1:d.1.length=d.2.length)(h2:d.1.length≤200)(h3:∀ s∈d.1,s.size≤64)(h4:∀ s∈d.2,s.size≤64):A4A d=true:=by
 simp only [A4A,Bool.and_eq_true]
 refine ⟨decide_eq_true ⟨h1,h2⟩,List.all_eq_true.2 fun i hi=>?_⟩
 have hi:=List.mem_range.1 hi
 rw [A3V hi,A3V (show i<d.2.length by omega)]
 have k1:=h3 _ (List.getElem_mem hi)
 have k2:=h4 _ (List.getElem_mem (show i<d.2.length by omega))
 rw [A3 (by omega),A3 (by omega)]
 rfl
theorem C52(l:List E9)(h:0<l.length)(e:Int):(rd A4u l ((l.length:Int)-1)).1=A0A e l:=by
 induction l generalizing e with
 | nil=>simp at h
 | cons r l ih=>
  cases l with
  | nil=>rfl
  | cons r' l=>
   have h2:=ih (by simp) r.1
   simp only [A0A] at h2 ⊢
   rw [← h2]
   have e1:((r::r'::l).length:Int)-1=(((l.length+1):Nat):Int):=by simp only [List.length_cons];omega
   have e2:((r'::l).length:Int)-1=((l.length:Nat):Int):=by simp only [List.length_cons];omega
   rw [e1,e2,E3 (k:=A4u) (xs:=r::r'::l) (by simp),E3 (k:=A4u) (xs:=r'::l) (by simp)]
   rfl
theorem B5g(st:A5)(h:B2k st.1.1)(hb:∀ u∈st.2.2.2,Byt u.2.2.1):∃ b,D0 st=some (b,())∧A0k st=some (b,())∧(b=true↔GoodS st):=by
 obtain ⟨b,hs,hi,_⟩:=B8A st h
 refine ⟨b,hs,hi,?_⟩
 have hl:=h.1
 have hrg:=B2n 0 0 st.1.1
 have hll:=A5I 0 0 st.1.1
 have hfs:=A6t (B0 st.1.1) (by simp only [maxLen,B0];omega) hrg
 simp only [D0,A6L,B0h,C0X st.1 h,hfs,A1e,A4] at hs
 have hsc:H0 0 0 st.1.1=B0 st.1.1:=rfl
 rw [hsc] at hrg hll
 cases hbd:A4A st.1 with
 | false=>
  rw [hbd] at hs
  have:b=false:=by
   simp only [Bool.not_false,cond_true] at hs
   first | (injection hs with hs;injection hs with hs;exact hs.symm) | (simp [B7] at hs;exact hs.symm)
  rw [this]
  exact ⟨fun e=>by (cases e),fun g=>by rw [g.dk] at hbd;cases hbd⟩
 | true=>
  rw [hbd] at hs
  simp only [Bool.not_true,cond_false] at hs
  by_cases he:0≤st.2.1∧st.2.1≤10000
  ·rw [A0 he] at hs
   simp only [Bool.not_true,cond_false,B7] at hs
   unfold A1L at hs
   cases hf:J2 [] (B0 st.1.1) with
   | none=>
    rw [hf] at hs
    have:b=false:=by
     first | (injection hs with hs;injection hs with hs;exact hs.symm) | (simp at hs;exact hs.symm)
    rw [this]
    exact ⟨fun e=>by (cases e),fun g=>by rw [g.up] at hf;cases hf⟩
   | some us=>
    have hu:=A6X B7C hrg hf
    have hul:=hu.2.1
    rw [hf] at hs
    simp only at hs
    rw [C0T _ _ (show us.length≤maxLen by simp only [maxLen];omega)] at hs
    simp only [Bool.not_true,cond_false] at hs
    cases hsm:A09 us st.2.2.2 with
    | false=>
     rw [hsm] at hs
     have:b=false:=by
      first | (injection hs with hs;injection hs with hs;exact hs.symm) | (simp at hs;exact hs.symm)
     rw [this]
     refine ⟨fun e=>by (cases e),fun g=>?_⟩
     have:=g.up
     rw [hf] at this
     injection this with this
     rw [this,B23] at hsm
     cases hsm
    | true=>
     have heq:=B8E (fun u hu'=>(hu.2.2 u hu').2.2.2) hb hsm
     rw [hsm] at hs
     simp only [Bool.not_true,cond_false] at hs
     by_cases hn:st.2.2.1=(List.length (B0 st.1.1):Int)
     ·rw [A0 hn] at hs
      simp only [Bool.not_true,cond_false] at hs
      have htail:=C0U st h (B0 st.1.1).length hll
      rw [hn] at hs
      rw [htail] at hs
      by_cases hl0:(List.length (B0 st.1.1):Int)>0
      ·rw [A0 hl0,w64 (n:=(List.length (B0 st.1.1):Int)-1) (by omega) (by omega),A0 (show (0:Int)≤(List.length (B0 st.1.1):Int)-1 by omega),A0 (show (List.length (B0 st.1.1):Int)-1<(List.length (B0 st.1.1):Int) by omega),C52 (B0 st.1.1) (by omega) 0] at hs
       simp only [cond_true] at hs
       by_cases hle:A0A 0 (B0 st.1.1)>st.2.1
       ·rw [A0 hle] at hs
        have:b=false:=by
         first | (injection hs with hs;injection hs with hs;exact hs.symm) | (simp at hs;exact hs.symm)
        rw [this]
        exact ⟨fun e=>by (cases e),fun g=>by have:=g.le;omega⟩
       ·rw [A3 hle] at hs
        simp only [cond_false] at hs
        have:b=((st.1.1.drop (B0 st.1.1).length).all fun s=>!A1M st.2.1 s):=by
         first | (injection hs with hs;injection hs with hs;exact hs.symm) | (simp at hs;exact hs.symm)
        rw [this]
        exact ⟨fun e=>⟨hbd,he,by rw [hf,heq],hn,by omega,e⟩,fun g=>g.tl⟩
      ·rw [A3 hl0] at hs
       simp only [cond_false] at hs
       have:b=((st.1.1.drop (B0 st.1.1).length).all fun s=>!A1M st.2.1 s):=by
        first | (injection hs with hs;injection hs with hs;exact hs.symm) | (simp at hs;exact hs.symm)
       rw [this]
       have hnil:B0 st.1.1 = []:=List.length_eq_zero_iff.1 (by omega)
       exact ⟨fun e=>⟨hbd,he,by rw [hf,heq],hn,by rw [hnil];exact he.1,e⟩,fun g=>g.tl⟩
     ·rw [A3 hn] at hs
      have:b=false:=by
       first | (injection hs with hs;injection hs with hs;exact hs.symm) | (simp at hs;exact hs.symm)
      rw [this]
      exact ⟨fun e=>by (cases e),fun g=>absurd g.nx hn⟩
  ·rw [A3 he] at hs
   have:b=false:=by
    first | (injection hs with hs;injection hs with hs;exact hs.symm) | (simp [B7] at hs;exact hs.symm)
   rw [this]
   exact ⟨fun e=>by (cases e),fun g=>absurd g.ep he⟩
theorem C1a{st:A5}(h:GoodS st)(hr:Ups st.2.2.2):Rt st:=by
 obtain ⟨k1,k2,k3,k4,k5⟩:=A3r h.dk
 have:=A5I 0 0 st.1.1
 have hn:=h.nx
 exact ⟨⟨h.ep.1,h.ep.2,k2,k3,by simp only [B0] at hn;omega,st.2.2.2,hr,B23 _⟩,hr,k1⟩
theorem A7N{st:A5}(h:GoodS st):Ups st.2.2.2:=A6X B7C (B2n 0 0 st.1.1) h.up
theorem B5h:∀ (l l':List E9) (us:List TUp),J2 us (l++l')=(J2 us l).bind fun us'=>J2 us' l'
 | [],l',us=>rfl
 | r::l,l',us=>by
  simp only [List.cons_append,J2]
  cases K0 us r with
  | none=>rfl
  | some us'=>exact B5h l l' us'
theorem C7p(l:List E9)(r:E9)(e:Int):A0A e (l ++ [r])=r.1:=by
 induction l generalizing e with
 | nil=>rfl
 | cons x l ih=>exact ih x.1
theorem A8r{st:A5}(h:GoodS st){r:E9}(hr:B0e r)(h1:r.1=st.2.1)(h2:r.2.1=st.2.2.1)(hlt:st.2.2.1<(st.1.1.length:Int)){us:List TUp}(hf:K0 st.2.2.2 r=some us) :
  GoodS (wrote st r us)∧B0 (wrote st r us).1.1=B0 st.1.1 ++ [r]:=by
 obtain ⟨k1,k2,k3,k4,k5⟩:=A3r h.dk
 have hn:=h.nx
 generalize hL:B0 st.1.1=L at *
 have hll:L.length≤st.1.1.length:=by rw [← hL];exact A5I 0 0 st.1.1
 have hlt':L.length<st.1.1.length:=by omega
 have hto:st.2.2.1.toNat=L.length:=by omega
 have hset:st.1.1.set L.length (S0 r)=st.1.1.take L.length++S0 r::st.1.1.drop (L.length+1):=by
  rw [List.set_eq_take_append_cons_drop,if_pos hlt']
 have htake:H0 0 0 (st.1.1.take L.length)=L:=by
  have:=C51 0 0 st.1.1
  rw [show H0 0 0 st.1.1=L from hL] at this
  exact this
 have hgo:A0o (A0A 0 L) L.length (S0 r)=true:=by
  simp only [A0o,B2m hr,Bool.true_and]
  rw [h1,h2,A0 (by omega),A3 (by have:=h.le;rw [hL] at this;omega)]
  rfl
 have htl:=h.tl
 rw [hL] at htl
 have hscan:B0 (wrote st r us).1.1=L ++ [r]:=by
  show H0 0 0 (st.1.1.set st.2.2.1.toNat (S0 r))=_
  rw [hto,hset,C0W _ _ _ _ (by rw [htake,List.length_take];omega),htake]
  congr 1
  have hle:(st.1.1.take L.length).length=L.length:=by rw [List.length_take];omega
  simp only [H0,hle,Nat.zero_add,hgo,if_true,B2m hr]
  congr 1
  refine B2o _ _ _ fun s hs=>?_
  have hmem:s∈st.1.1.drop (L.length+1):=List.mem_of_mem_head? hs
  have hmem2:s∈st.1.1.drop L.length:=by
   rw [List.drop_eq_getElem_cons hlt']
   exact List.mem_cons_of_mem _ hmem
  have:=List.all_eq_true.1 htl s hmem2
  simp only [A1M,Bool.not_eq_true',Bool.and_eq_false_iff,decide_eq_false_iff_not] at this
  simp only [A0o,h1]
  rcases this with h3 | h3
  ·rw [h3];rfl
  ·rw [A0 (show (C2 s).1.1<st.2.1 by omega)]
   simp
 have hlen:(L ++ [r]).length=L.length+1:=by simp
 refine ⟨⟨?_,h.ep,?_,?_,?_,?_⟩,hscan⟩
 ·refine B8K ?_ ?_ (fun s hs=>?_) k5
  ·show (st.1.1.set _ _).length=_;rw [List.length_set];exact k2
  ·show (st.1.1.set _ _).length≤_;rw [List.length_set];exact k3
  ·rcases List.mem_or_eq_of_mem_set hs with hs | rfl
   ·exact k4 s hs
   ·exact C7o hr.1
 ·have hup:=h.up
  rw [hL] at hup
  rw [hscan,B5h,hup]
  show J2 st.2.2.2 [r]=some us
  simp only [J2,hf]
 ·rw [hscan,hlen]
  show st.2.2.1+1=_
  omega
 ·rw [hscan,C7p,h1]
  exact Int.le_refl _
 ·rw [hscan,hlen]
  show ((st.1.1.set st.2.2.1.toNat (S0 r)).drop (L.length+1)).all _=true
  rw [hto,List.drop_set_of_lt (by omega)]
  rw [List.drop_eq_getElem_cons hlt',List.all_cons,Bool.and_eq_true] at htl
  exact htl.2
def U6(now sure:List ByteArray)(k:List Bool):List ByteArray:=(List.range now.length).map fun i=>bif k.getD i false then now.getD i ⟨#[]⟩ else sure.getD i ⟨#[]⟩
def C0Y(d:G2)(k:List Bool):G2:=(U6 d.1 d.2 k,U6 d.1 d.2 k)
theorem B3X(now sure:List ByteArray)(k:List Bool):(U6 now sure k).length=now.length:=by simp [U6]
theorem B3Y{now sure:List ByteArray}{k:List Bool}(h:now.length=sure.length){i:Nat}(hi:i<now.length):(U6 now sure k)[i]? = if k.getD i false=true then now[i]? else sure[i]?:=by
 simp only [U6,List.getElem?_map,List.getElem?_range hi,Option.map_some]
 rw [List.getElem?_eq_getElem hi,List.getElem?_eq_getElem (show i<sure.length by omega)]
 have e1:now.getD i ⟨#[]⟩=now[i]:=by simp [List.getD,hi]
 have e2:sure.getD i ⟨#[]⟩=sure[i]'(by omega):=by simp [List.getD,show i<sure.length by omega]
 rw [e1,e2]
 by_cases hb:k.getD i false=true
 ·rw [if_pos hb,hb];rfl
 ·rw [if_neg hb,Bool.eq_false_iff.2 hb];rfl
def A9q{α:Type}(l x:List α)(i:Nat):List α:=l.take i++x.drop i
theorem C3D{α:Type}{l x:List α}(h:l.length=x.length)(i:Nat):(A9q l x i).length=x.length:=by simp [A9q];omega
theorem C3E{α:Type}{l x:List α}(h:l.length=x.length){i:Nat}(hi:i<l.length):(A9q l x i).set i l[i]=A9q l x (i+1):=by
 have hl:(l.take i).length=i:=by rw [List.length_take];omega
 unfold A9q
 rw [List.drop_eq_getElem_cons (show i<x.length by omega)]
 have e:(l.take i++x[i]'(by omega)::x.drop (i+1)).set i l[i]=l.take i++(x[i]'(by omega)::x.drop (i+1)).set (i-(l.take i).length) l[i]:=List.set_append_right _ _ (by omega)
 rw [e,hl,Nat.sub_self,List.set_cons_zero,List.take_succ_eq_append_getElem hi,List.append_assoc]
 rfl
theorem C0Z{α:Type}{l x:List α}(h:l.length=x.length){i:Nat}(hi:i<l.length)(he:l[i]? = x[i]?):A9q l x i=A9q l x (i+1):=by
 unfold A9q
 rw [List.drop_eq_getElem_cons (show i<x.length by omega),List.take_succ_eq_append_getElem hi,List.append_assoc]
 rw [List.getElem?_eq_getElem hi,List.getElem?_eq_getElem (show i<x.length by omega)] at he
 injection he with he
 rw [he]
 rfl
theorem C3F{α:Type}{l x:List α}(h:l.length=x.length){i:Nat}(hi:i<x.length):(A9q l x i)[i]? = x[i]?:=by
 unfold A9q
 rw [List.getElem?_append_right (by rw [List.length_take];omega),List.length_take,Nat.min_eq_left (by omega),Nat.sub_self,List.getElem?_drop,Nat.add_zero]
theorem C0a(d:G2)(k:List Bool)(hd:A4A d=true):V5 d k=some (C0Y d k,()):=by
 obtain ⟨hS,hlen,h200,_,_⟩:=A3r hd
 have hml:=B3X d.1 d.2 k
 simp only [V5,A8V,A6u d hS,B0h,hd,bO,Bool.not_true,cond_false]
 have key:=I1 (A2P k) (fun i=>((i:Int),A9q (U6 d.1 d.2 k) d.1 i,A9q (U6 d.1 d.2 k) d.2 i,())) d.1.length (C0Y d k,()) (fun i hi=>?_) ?_
 ·exact key
 ·have l1:=C3D (l:=U6 d.1 d.2 k) (x:=d.1) hml i
  have l2:=C3D (l:=U6 d.1 d.2 k) (x:=d.2) (by omega) i
  have g1:=C3F (l:=U6 d.1 d.2 k) (x:=d.1) hml hi
  have g2:=C3F (l:=U6 d.1 d.2 k) (x:=d.2) (by omega) (show i<d.2.length by omega)
  have hm:=B3Y (k:=k) hlen hi
  have hmi:i<(U6 d.1 d.2 k).length:=by omega
  simp only [A2P,l1]
  rw [A0 (show (i:Int)<(d.1.length:Int) by omega)]
  have hb:(bif decide ((i:Int)<(k.length:Int)) then bif decide (0≤(i:Int)) then bif decide ((i:Int)<(k.length:Int)) then (some ((rd .bool k (i:Int)),()):Option (Bool×Unit)) else none else none else some (false,()))=some (k.getD i false,()):=by
   by_cases hik:i<k.length
   ·rw [A0 (show (i:Int)<(k.length:Int) by omega),A0 (show (0:Int)≤(i:Int) by omega)]
    simp only [cond_true]
    rw [E3 (k:=.bool) hik]
    simp [List.getD,hik]
   ·rw [A3 (show ¬ (i:Int)<(k.length:Int) by omega)]
    simp [List.getD,List.getElem?_eq_none (show k.length≤i by omega)]
  rw [hb]
  simp only [cond_true,bO,l2,hlen]
  rw [A0 (show (0:Int)≤(i:Int) by omega),A0 (show (i:Int)<(d.2.length:Int) by omega),w64 (by omega) (by omega)]
  have r1:rd .str (A9q (U6 d.1 d.2 k) d.1 i) (i:Int)=d.1[i]:=by
   rw [A3V (by omega)]
   have:=g1
   rw [List.getElem?_eq_getElem (by omega),List.getElem?_eq_getElem hi] at this
   injection this
  have r2:rd .str (A9q (U6 d.1 d.2 k) d.2 i) (i:Int)=d.2[i]:=by
   rw [A3V (by omega)]
   have:=g2
   rw [List.getElem?_eq_getElem (by omega),List.getElem?_eq_getElem (show i<d.2.length by omega)] at this
   injection this
  rw [r1,r2,Int.toNat_natCast]
  rw [List.getElem?_eq_getElem hmi,List.getElem?_eq_getElem hi,List.getElem?_eq_getElem (show i<d.2.length by omega)] at hm
  cases hkb:k.getD i false with
  | true=>
   rw [hkb,if_pos rfl] at hm
   injection hm with hm
   simp only [cond_true]
   rw [← hm,C3E (by omega) hmi,C0Z (l:=U6 d.1 d.2 k) (x:=d.1) hml hmi (by rw [List.getElem?_eq_getElem hmi,List.getElem?_eq_getElem hi,hm])]
   rfl
  | false=>
   rw [hkb,if_neg (by simp)] at hm
   injection hm with hm
   simp only [cond_true,cond_false]
   rw [← hm,C3E hml hmi,C0Z (l:=U6 d.1 d.2 k) (x:=d.2) (by omega) hmi (by rw [List.getElem?_eq_getElem hmi,List.getElem?_eq_getElem (show i<d.2.length by omega),hm])]
   rfl
 ·have e1:A9q (U6 d.1 d.2 k) d.1 d.1.length=U6 d.1 d.2 k:=by unfold A9q;rw [List.drop_length,List.append_nil,List.take_of_length_le (by omega)]
  have e2:A9q (U6 d.1 d.2 k) d.2 d.1.length=U6 d.1 d.2 k:=by unfold A9q;rw [hlen,List.drop_length,List.append_nil,List.take_of_length_le (by omega)]
  simp only [A2P,e1,e2]
  rw [A3 (by omega)]
  rfl
theorem C3G(last:Int)(i:Nat)(l:List ByteArray)(j:Nat):H0 last i (l.take j)=(H0 last i l).take j:=by
 induction l generalizing last i j with
 | nil=>simp [H0]
 | cons s l ih=>
  cases j with
  | zero=>simp [H0]
  | succ j=>
   simp only [List.take_succ_cons,A8q,ih]
   cases A0o last i s<;>simp
theorem C0b(last:Int)(j:Nat)(l:List ByteArray)(i:Nat)(hi:i<(H0 last j l).length):∃ s,l[i]? = some s∧C2 s=((H0 last j l)[i],true,()):=by
 induction l generalizing last j i with
 | nil=>simp [H0] at hi
 | cons s l ih=>
  have e:=A8q last j s l
  cases hg:A0o last j s with
  | false=>rw [hg] at e;rw [e] at hi;simp at hi
  | true=>
   rw [hg] at e
   simp only [cond_true] at e
   cases i with
   | zero=>
    refine ⟨s,rfl,?_⟩
    simp only [A0o,Bool.and_eq_true] at hg
    have h0:(H0 last j (s::l))[0]=(C2 s).1:=by simp only [e];rfl
    rw [h0]
    have:=hg.1.1
    generalize C2 s=g at this
    obtain ⟨a,b,u⟩:=g
    simp only at this
    rw [this]
   | succ i=>
    have hi2:i<(H0 (C2 s).1.1 (j+1) l).length:=by rw [e] at hi;simpa using hi
    obtain ⟨s',h1,h2⟩:=ih _ _ i hi2
    refine ⟨s',h1,?_⟩
    rw [h2]
    congr 1
    simp only [e,List.getElem_cons_succ]
theorem A8s{now x:List ByteArray}{j:Nat}(hj:j≤(B0 now).length)(hx:x.take j=now.take j)(hlen:x.length=now.length):B0 x=(B0 now).take j++H0 (A0A 0 ((B0 now).take j)) j (x.drop j):=by
 have hll:=A5I 0 0 now
 have hs:H0 0 0 (x.take j)=(B0 now).take j:=by rw [hx,C3G];rfl
 have h1:(H0 0 0 (x.take j)).length=(x.take j).length:=by
  rw [hs,List.length_take,List.length_take]
  simp only [B0] at hj ⊢
  omega
 have:=C0W 0 0 (x.take j) (x.drop j) h1
 rw [List.take_append_drop,hs] at this
 have hj2:(x.take j).length=j:=by rw [List.length_take];simp only [B0] at hj;omega
 rw [hj2,Nat.zero_add] at this
 exact this
theorem C9z{now:List ByteArray}{j:Nat}(hj:(B0 now).length=j):H0 (A0A 0 (B0 now)) j (now.drop j) = []:=by
 have h:=A8s (now:=now) (x:=now) (j:=j) (by omega) rfl rfl
 rw [← hj,List.take_length] at h
 rw [← hj]
 have h2:B0 now ++ []=B0 now++H0 (A0A 0 (B0 now)) (B0 now).length (now.drop (B0 now).length):=by rw [List.append_nil];exact h
 exact (List.append_cancel_left h2).symm
theorem C6o{st:A5}(h:GoodS st):∀ s∈st.1.1,(C2 s).2.1=true→(C2 s).1.1≤st.2.1:=by
 intro s hs hr
 obtain ⟨i,hi,rfl⟩:=List.getElem_of_mem hs
 by_cases hl:i<(B0 st.1.1).length
 ·obtain ⟨s',h1,h2⟩:=C0b 0 0 st.1.1 i hl
  rw [List.getElem?_eq_getElem hi] at h1
  injection h1 with h1
  rw [h1,h2]
  have:=(C9y 0 0 st.1.1).2 _ (List.getElem_mem hl)
  exact Int.le_trans this h.le
 ·have hm:st.1.1[i]∈st.1.1.drop (B0 st.1.1).length:=by
   rw [List.mem_iff_getElem]
   refine ⟨i-(B0 st.1.1).length,by rw [List.length_drop];omega,?_⟩
   rw [List.getElem_drop]
   congr 1
   omega
  have:=List.all_eq_true.1 h.tl _ hm
  simp only [A1M,hr,Bool.true_and,Bool.not_eq_true',decide_eq_false_iff_not] at this
  omega
structure Dur (st:A5) (c:Nat):Prop where
 g:GoodS st
 le:c≤(B0 st.1.1).length
 out:∀ i,¬ (c≤i∧i<(B0 st.1.1).length)→st.1.2[i]? = st.1.1[i]?
 inn:∀ i s,c≤i→i<(B0 st.1.1).length→st.1.2[i]? = some s→A1M st.2.1 s=false
 ep:∀ i (h:i<(B0 st.1.1).length),c≤i→(B0 st.1.1)[i].1=st.2.1
 sc:B0 st.1.2=(B0 st.1.1).take c
theorem C3H{e:Int}{s:ByteArray}(h:A1M e s=false)(i:Nat):A0o e i s=false:=by
 simp only [A1M,Bool.and_eq_false_iff,decide_eq_false_iff_not] at h
 simp only [A0o]
 rcases h with h | h
 ·rw [h];rfl
 ·rw [A0 (show (C2 s).1.1<e by omega)];simp
theorem B8L{L:List E9}{e:Int}{j:Nat}(h0:0<j)(hj:j≤L.length):A0A e (L.take j)=(L[j-1]'(by omega)).1:=by
 induction L generalizing e j with
 | nil=>simp at hj;omega
 | cons r L ih=>
  cases j with
  | zero=>omega
  | succ j=>
   simp only [List.take_succ_cons,A0A]
   cases j with
   | zero=>simp [A0A]
   | succ j=>
    rw [ih (by omega) (by simpa using hj)]
    simp
theorem B0j{st:A5}{c:Nat}(h:Dur st c)(k:List Bool){i:Nat}(hi:i<st.1.1.length)(hk:k.getD i false=true∨¬ (c≤i∧i<(B0 st.1.1).length)):(U6 st.1.1 st.1.2 k)[i]? = st.1.1[i]?:=by
 obtain ⟨_,k2,_⟩:=A3r h.g.dk
 rw [B3Y k2 hi]
 split
 ·rfl
 ·rename_i hn
  rcases hk with hk | hk
  ·exact absurd hk hn
  ·exact h.out i hk
theorem C7q{α:Type}{x now:List α}{j:Nat}(hx:x.take j=now.take j)(hj:j<now.length)(hlen:x.length=now.length)(he:x[j]? = now[j]?):x.take (j+1)=now.take (j+1):=by
 rw [List.take_succ_eq_append_getElem (show j<x.length by omega),List.take_succ_eq_append_getElem hj,hx]
 rw [List.getElem?_eq_getElem (show j<x.length by omega),List.getElem?_eq_getElem hj] at he
 injection he with he
 rw [he]
theorem D00{st:A5}{c:Nat}(h:Dur st c)(k:List Bool):∃ m,c≤m∧m≤(B0 st.1.1).length∧B0 (U6 st.1.1 st.1.2 k)=(B0 st.1.1).take m:=by
 obtain ⟨_,k2,k3,_⟩:=A3r h.g.dk
 have hml:=B3X st.1.1 st.1.2 k
 have hll:(B0 st.1.1).length≤st.1.1.length:=A5I 0 0 st.1.1
 have go:∀ (n j:Nat),j+n=(B0 st.1.1).length→c≤j→(U6 st.1.1 st.1.2 k).take j=st.1.1.take j→∃ m,c≤m∧m≤(B0 st.1.1).length∧B0 (U6 st.1.1 st.1.2 k)=(B0 st.1.1).take m:=by
  intro n
  induction n with
  | zero=>
   intro j hj hc hx
   rw [Nat.add_zero] at hj
   refine ⟨j,hc,by omega,?_⟩
   rw [A8s (by omega) hx hml,hj,List.take_length]
   have hdrop:(U6 st.1.1 st.1.2 k).drop (B0 st.1.1).length=st.1.1.drop (B0 st.1.1).length:=by
    refine List.ext_getElem? fun i=>?_
    rw [List.getElem?_drop,List.getElem?_drop]
    by_cases hi:(B0 st.1.1).length+i<st.1.1.length
    ·exact B0j h k hi (.inr (by omega))
    ·rw [List.getElem?_eq_none (by omega),List.getElem?_eq_none (by omega)]
   rw [hdrop,C9z rfl,List.append_nil]
  | succ n ih=>
   intro j hj hc hx
   have hjl:j<st.1.1.length:=by omega
   cases hk:k.getD j false with
   | true=>exact ih (j+1) (by omega) (by omega) (C7q hx hjl hml (B0j h k hjl (.inl hk)))
   | false=>
    refine ⟨j,hc,by omega,?_⟩
    rw [A8s (by omega) hx hml]
    have hs:H0 (A0A 0 ((B0 st.1.1).take j)) j ((U6 st.1.1 st.1.2 k).drop j) = []:=by
     refine B2o _ _ _ fun s hs=>?_
     have hs2:(U6 st.1.1 st.1.2 k)[j]? = some s:=by
      rw [List.head?_eq_getElem?,List.getElem?_drop,Nat.add_zero] at hs
      exact hs
     rw [B3Y k2 hjl,hk,if_neg (by simp)] at hs2
     by_cases hjc:j=c
     ·have hsp:=A8s (now:=st.1.2) (x:=st.1.2) (j:=c) (by rw [h.sc,List.length_take];omega) rfl rfl
      rw [h.sc,List.take_take,Nat.min_self] at hsp
      have hnil:H0 (A0A 0 ((B0 st.1.1).take c)) c (st.1.2.drop c) = []:=by
       have h2:(B0 st.1.1).take c ++ []=(B0 st.1.1).take c++H0 (A0A 0 ((B0 st.1.1).take c)) c (st.1.2.drop c):=by rw [List.append_nil];exact hsp
       exact (List.append_cancel_left h2).symm
      rw [hjc] at hs2 ⊢
      have hcl:c<st.1.2.length:=(List.getElem?_eq_some_iff.1 hs2).1
      rw [List.drop_eq_getElem_cons hcl,A8q] at hnil
      have:st.1.2[c]=s:=by rw [List.getElem?_eq_getElem hcl] at hs2;injection hs2
      rw [this] at hnil
      cases hg:A0o (A0A 0 ((B0 st.1.1).take c)) c s with
      | false=>rfl
      | true=>rw [hg] at hnil;cases hnil
     ·rw [B8L (by omega) (by omega),h.ep (j-1) (by omega) (by omega)]
      exact C3H (h.inn j s hc (by omega) hs2) _
    rw [hs,List.append_nil]
 refine go ((B0 st.1.1).length-c) c (by have:=h.le;omega) (Nat.le_refl _) ?_
 refine List.ext_getElem? fun i=>?_
 by_cases hi:i<c
 ·rw [List.getElem?_take_of_lt hi,List.getElem?_take_of_lt hi]
  exact B0j h k (by have:=h.le;omega) (.inr (by omega))
 ·rw [List.getElem?_eq_none (by rw [List.length_take];omega),List.getElem?_eq_none (by rw [List.length_take];omega)]
theorem C1b{now sure:List ByteArray}{k:List Bool}(h:now.length=sure.length){s:ByteArray}(hs:s∈U6 now sure k):s∈now∨s∈sure:=by
 obtain ⟨i,hi,rfl⟩:=List.getElem_of_mem hs
 have hi':i<now.length:=by rw [B3X] at hi;exact hi
 have:=B3Y (k:=k) h hi'
 rw [List.getElem?_eq_getElem hi] at this
 split at this
 ·exact .inl (List.mem_of_getElem? this.symm)
 ·exact .inr (List.mem_of_getElem? this.symm)
theorem C3I{st:A5}{c:Nat}(h:Dur st c):∀ s∈st.1.2,(C2 s).2.1=true→(C2 s).1.1≤st.2.1:=by
 intro s hs hr
 obtain ⟨i,hi,rfl⟩:=List.getElem_of_mem hs
 by_cases hb:c≤i∧i<(B0 st.1.1).length
 ·have:=h.inn i _ hb.1 hb.2 (List.getElem?_eq_getElem hi)
  simp only [A1M,hr,Bool.true_and,decide_eq_false_iff_not] at this
  omega
 ·have:=h.out i hb
  rw [List.getElem?_eq_getElem hi] at this
  exact C6o h.g _ (List.mem_of_getElem? this.symm) hr
theorem B3Z:∀ (l:List E9) (us us':List TUp) (m:Nat),J2 us l=some us'→∃ u,J2 us (l.take m)=some u
 | _,us,_,0,_=>⟨us,by simp [J2]⟩
 | [],us,us',m+1,h=>⟨us',by simpa using h⟩
 | r::l,us,us',m+1,h=>by
  simp only [J2] at h
  simp only [List.take_succ_cons,J2]
  split at h
  ·rename_i u1 e1
   exact B3Z l u1 us' m h
  ·cases h
theorem D17{l:List ByteArray}{b:Int}(hb:-1≤b)(h:∀ s∈l,(C2 s).2.1=true→(C2 s).1.1≤b):A2o l≤b:=by
 have h1:=B1T (b+1) l (-1)
 have h2:(l.all fun s=>!A1M (b+1) s)=true:=List.all_eq_true.2 fun s hs=>by
  simp only [A1M,Bool.not_eq_true',Bool.and_eq_false_iff,decide_eq_false_iff_not]
  cases hr:(C2 s).2.1 with
  | false=>exact .inl rfl
  | true=>have:=h s hs hr;exact .inr (by omega)
 rw [h2,A0 (show (-1:Int)<b+1 by omega),Bool.and_true] at h1
 have:=of_decide_eq_true h1
 show l.foldl A22 (-1)≤b
 omega
def A3s(x:List ByteArray)(us:List TUp):A5:=((x,x),(A2o x+1,((List.length (B0 x):Int),us)))
theorem C3J{x:List ByteArray}{us:List TUp}(hd:A4A (x,x)=true)(hu:J2 [] (B0 x)=some us)(ht:A2o x+1≤10000):GoodS (A3s x us):=by
 have h0:=C6l x
 refine ⟨hd,⟨by show 0≤A2o x+1;omega,ht⟩,hu,rfl,?_,?_⟩
 ·show A0A 0 (B0 x)≤A2o x+1
  have hg:∀ (i:Nat) (hi:i<(B0 x).length),∃ s,x[i]? = some s∧C2 s=((B0 x)[i],true,()):=C0b 0 0 x
  by_cases hl:0<(B0 x).length
  ·have e:=B8L (L:=B0 x) (e:=0) (j:=(B0 x).length) hl (Nat.le_refl _)
   rw [List.take_length] at e
   rw [e]
   obtain ⟨s,h1,h2⟩:=hg ((B0 x).length-1) (by omega)
   have h3:=C6m (List.mem_of_getElem? h1) (by rw [h2])
   rw [h2] at h3
   have h5:((B0 x)[(B0 x).length-1]'(by omega)).1≤A2o x:=h3
   have h6:@LE.le Int _ ((B0 x)[(B0 x).length-1]'(by omega)).1 (A2o x+1):=by omega
   exact h6
  ·rw [List.length_eq_zero_iff.1 (show (B0 x).length=0 by omega)]
   show (0:Int)≤_
   omega
 ·refine List.all_eq_true.2 fun s hs=>?_
  have hs2:s∈x:=List.mem_of_mem_drop hs
  simp only [A1M,Bool.not_eq_true',Bool.and_eq_false_iff,decide_eq_false_iff_not]
  cases hr:(C2 s).2.1 with
  | false=>exact .inl rfl
  | true=>
   have:=C6m hs2 hr
   refine .inr ?_
   show ¬ (C2 s).1.1≥A2o x+1
   omega
theorem B2p{st:A5}(h:GoodS st):Dur ((st.1.1,st.1.1),st.2) (B0 st.1.1).length:=
 ⟨⟨C7l h.dk,h.ep,h.up,h.nx,h.le,h.tl⟩,Nat.le_refl _,fun i _=>rfl,fun i s h1 h2 _=>by (have h3:i<(B0 st.1.1).length:=h2;omega),fun i h1 h2=>by (have h3:i<(B0 st.1.1).length:=h1;omega),(List.take_length).symm⟩
theorem B8M{x:List ByteArray}{us:List TUp}(h:GoodS (A3s x us)):Dur (A3s x us) (B0 x).length:=B2p h
theorem C7r{st:A5}{c:Nat}(h:Dur st c){r:E9}(hr:B0e r)(h1:r.1=st.2.1)(h2:r.2.1=st.2.2.1)(hlt:st.2.2.1<(st.1.1.length:Int)){us:List TUp}(hf:K0 st.2.2.2 r=some us):Dur (wrote st r us) c:=by
 obtain ⟨hg,hsc⟩:=A8r h.g hr h1 h2 hlt hf
 have hnx:=h.g.nx
 have hto:st.2.2.1.toNat=(B0 st.1.1).length:=by omega
 have hll:(B0 st.1.1).length<st.1.1.length:=by omega
 have hlen:((B0 st.1.1) ++ [r]).length=(B0 st.1.1).length+1:=by simp
 have hle:=h.le
 refine ⟨hg,by rw [hsc,hlen];omega,fun i hi=>?_,fun i s hc hi hs=>?_,fun i hi hc=>?_,?_⟩
 ·rw [hsc,hlen] at hi
  show st.1.2[i]? = (st.1.1.set st.2.2.1.toNat (S0 r))[i]?
  rw [hto,List.getElem?_set_ne (by omega)]
  exact h.out i (by omega)
 ·rw [hsc,hlen] at hi
  by_cases hi2:i<(B0 st.1.1).length
  ·exact h.inn i s hc hi2 hs
  ·have e:=h.out i (by omega)
   have hs':st.1.2[i]? = some s:=hs
   rw [e] at hs'
   have hm:s∈st.1.1.drop (B0 st.1.1).length:=by
    rw [List.mem_iff_getElem?]
    exact ⟨i-(B0 st.1.1).length,by rw [List.getElem?_drop,show (B0 st.1.1).length+(i-(B0 st.1.1).length)=i by omega];exact hs'⟩
   have:=List.all_eq_true.1 h.g.tl s hm
   have h7:A1M st.2.1 s=false:=by simpa using this
   exact h7
 ·have hi':=hi
  rw [hsc,hlen] at hi'
  have e:(B0 (wrote st r us).1.1)[i]=((B0 st.1.1) ++ [r])[i]'(by omega):=by simp only [hsc]
  rw [e]
  by_cases hi2:i<(B0 st.1.1).length
  ·rw [List.getElem_append_left hi2]
   exact h.ep i hi2 hc
  ·rw [List.getElem_append_right (by omega)]
   simp only [show i-(B0 st.1.1).length=0 by omega,List.getElem_cons_zero]
   exact h1
 ·show B0 st.1.2=_
  rw [hsc,List.take_append_of_le_length hle]
  exact h.sc
theorem C0c{st:A5}{c:Nat}(h:Dur st c)(k:List Bool)(hep:st.2.1≤9999):∃ m us,c≤m∧m≤(B0 st.1.1).length∧B0 (U6 st.1.1 st.1.2 k)=(B0 st.1.1).take m∧J2 [] ((B0 st.1.1).take m)=some us∧
  A2o (U6 st.1.1 st.1.2 k)≤st.2.1∧A4A (C0Y st.1 k)=true∧GoodS (A3s (U6 st.1.1 st.1.2 k) us):=by
 obtain ⟨_,k2,k3,k4,k5⟩:=A3r h.g.dk
 obtain ⟨m,h1,h2,h3⟩:=D00 h k
 obtain ⟨us,hu⟩:=B3Z _ _ _ m h.g.up
 have hml:=B3X st.1.1 st.1.2 k
 have hdb:A4A (U6 st.1.1 st.1.2 k,U6 st.1.1 st.1.2 k)=true:=by
  have hall:∀ s∈U6 st.1.1 st.1.2 k,s.size≤64:=fun s hs=>(C1b k2 hs).elim (k4 s) (k5 s)
  exact B8K rfl (by simp only [hml];exact k3) hall hall
 have ht:A2o (U6 st.1.1 st.1.2 k)≤st.2.1:=D17 (by have:=h.g.ep.1;omega) fun s hs hr=>(C1b k2 hs).elim (fun hs=>C6o h.g s hs hr) (fun hs=>C3I h s hs hr)
 exact ⟨m,us,h1,h2,h3,hu,ht,hdb,C3J hdb (by rw [h3];exact hu) (by omega)⟩
inductive Steps (id:ByteArray) (st:A5):A5→Prop
 | refl:Steps id st st
 | step {st1:A5} {r:E9} {us:List TUp}:Steps id st st1→B0e r→r.1=st1.2.1→r.2.1=st1.2.2.1→st1.2.2.1<(st1.1.1.length:Int)→r.2.2.2.1=id→(r.2.2.1=1→r.2.2.2.2.1≤1000000)→K0 st1.2.2.2 r=some us→Steps id st (wrote st1 r us)
theorem B0k{st:A5}{id:ByteArray}{n:Int}(h:Rt st):Steps id st (A2x st id n).1:=by
 unfold A2x
 split
 ·rename_i h1
  split
  ·exact Steps.refl
  ·rename_i h2
   split
   ·exact Steps.refl
   ·rename_i h3
    have hr:=A8p h.g 1 n id h1.1 (fun hx=>h3 (.inl hx)) (.inl ⟨rfl,h1.2.1,by omega⟩)
    exact .step Steps.refl ⟨hr,Q1⟩ rfl rfl (by omega) rfl (fun _=>h1.2.2) (B4l h2 (fun hx=>h3 (.inr hx)))
 ·exact Steps.refl
theorem B0l{st:A5}{id:ByteArray}{n:Int}(h:Rt st):Steps id st (A2y st id n).1:=by
 unfold A2y
 split
 ·rename_i h1
  split
  ·rename_i h2
   split
   ·exact Steps.refl
   ·rename_i h3
    split
    ·exact Steps.refl
    ·split
     ·exact Steps.refl
     ·rename_i h5
      split
      ·exact Steps.refl
      ·rename_i h6
       have hr:=A8p h.g 3 0 id h1 h6 (.inr ⟨.inl rfl,rfl⟩)
       exact .step Steps.refl ⟨hr,Q1⟩ rfl rfl (by omega) rfl (fun e=>by cases e) (B4m h.up h2 h3 h5)
  ·exact Steps.refl
 ·exact Steps.refl
theorem B0m{st:A5}{id:ByteArray}(h:Rt st):Steps id st (A2z st id).1:=by
 unfold A2z
 split
 ·rename_i h1
  split
  ·rename_i h2
   split
   ·exact Steps.refl
   ·rename_i h3
    have hr:=A8p h.g 4 0 id h1 h3 (.inr ⟨.inr rfl,rfl⟩)
    exact .step Steps.refl ⟨hr,Q1⟩ rfl rfl (by omega) rfl (fun e=>by cases e) (B4n h2)
  ·exact Steps.refl
 ·exact Steps.refl
theorem B5i{st:A5}{id:ByteArray}{off:Int}{dat:List Int}(hc:C4x st id off dat):∀ j,j≤nPc dat→Steps id st (putAt st id off dat j)
 | 0,_=>Steps.refl
 | j+1,hj=>by
  have hI:=B1X hc j (by omega)
  obtain ⟨hr,hf,_⟩:=B3V hc hI (by omega)
  have h1:=hc.nx.2
  have h2:=hI.nx
  have h3:=hI.len
  exact .step (B5i hc j (by omega)) ⟨hr,B0a (A5l hc.byt _) _⟩ rfl rfl (by omega) rfl (fun e=>by cases e) hf
theorem A8t{st:A5}{id:ByteArray}{off:Int}{dat:List Int}(h:Rt st)(hb:Byt dat):Steps id st (A4L st id off dat).1:=by
 unfold A4L
 split
 ·rename_i h1
  split
  ·rename_i h3
   split
   ·exact Steps.refl
   ·rename_i h4
    split
    ·exact Steps.refl
    ·rename_i h5
     exact B5i (B3W h hb h1.1 h1.2 h3 h4 h5) _ (Nat.le_refl _)
  ·exact Steps.refl
 ·exact Steps.refl
theorem B1Y{id:ByteArray}{st st':A5}(hs:Steps id st st'){c:Nat}(h:Dur st c):Dur st' c∧st'.2.1=st.2.1∧st'.1.2=st.1.2∧st'.1.1.length=st.1.1.length∧
  (∃ R,B0 st'.1.1=B0 st.1.1++R∧∀ r∈R,r.2.2.2.1=id)∧∀ s∈st'.1.1,s∈st.1.1∨∃ r,B0e r∧r.2.2.2.1=id∧s=S0 r:=by
 induction hs with
 | refl=>exact ⟨h,rfl,rfl,rfl,⟨[],by simp,fun r hr=>by cases hr⟩,fun s hs=>.inl hs⟩
 | @step st1 r us h1 hr e1 e2 hlt hid _ hf ih=>
  obtain ⟨k1,k2,k3,k4,⟨R,k5,k6⟩,k7⟩:=ih
  refine ⟨C7r k1 hr e1 e2 hlt hf,k2,k3,by simp only [wrote,List.length_set];exact k4,?_,?_⟩
  ·refine ⟨R ++ [r],?_,fun r' hr'=>?_⟩
   ·rw [(A8r k1.g hr e1 e2 hlt hf).2,k5,List.append_assoc]
   ·rcases List.mem_append.1 hr' with hr' | hr'
    ·exact k6 r' hr'
    ·rw [List.mem_singleton.1 hr'];exact hid
  ·intro s hs
   rcases List.mem_or_eq_of_mem_set hs with hs | rfl
   ·exact k7 s hs
   ·exact .inr ⟨_,hr,hid,rfl⟩
theorem B3a{st:A5}(h:GoodS st):Rt st∧A5n st∧D0 st=some (true,())∧A0k st=some (true,()):=by
 have hU:=A7N h
 have hS:=A3r h.dk
 obtain ⟨b,h1,h2,h3⟩:=B5g st hS.1.1 (fun u hu=>(hU.2.2 u hu).2.2.2)
 rw [h3.2 h] at h1 h2
 exact ⟨C1a h hU,C50 hS.1 hU,h1,h2⟩
theorem C1c{N:Int}{us us':List TUp}{r:E9}(h:K0 us r=some us')(hr:r.2.2.1=1→r.2.2.2.2.1≤N)(hus:∀ u∈us,(show Int from u.2.1)≤N):∀ u∈us',(show Int from u.2.1)≤N:=by
 intro u hu
 simp only [K0] at h
 have hset:∀ v:TUp,F3 us r.2.2.2.1=true→v.2.1=(rd kUp us (A8 us r.2.2.2.1:Int)).2.1→u∈us.set (A8 us r.2.2.2.1) v→(show Int from u.2.1)≤N:=fun v hh hv hu=>by
  rcases List.mem_or_eq_of_mem_set hu with hu | rfl
  ·exact hus u hu
  ·obtain ⟨hlt,_⟩:=G4.1 hh
   rw [E3 (k:=kUp) (xs:=us) hlt] at hv
   have:=hus _ (List.getElem_mem hlt)
   rw [← hv] at this
   exact this
 split at h
 ·rename_i h1
  split at h
  ·cases h
  ·injection h with h;subst h
   rcases List.mem_append.1 hu with hu | hu
   ·exact hus u (List.mem_of_mem_take hu)
   ·rcases List.mem_cons.1 hu with rfl | hu
    ·exact hr h1
    ·exact hus u (List.mem_of_mem_drop hu)
 ·split at h
  ·cases h
  ·rename_i hh
   have hh:F3 us r.2.2.2.1=true:=by simpa using hh
   split at h
   ·split at h
    ·cases h
    ·injection h with h;subst h
     refine hset _ hh ?_ hu
     rfl
   ·split at h
    ·split at h
     ·cases h
     ·injection h with h;subst h
      refine hset _ hh ?_ hu
      rfl
    ·split at h
     ·injection h with h;subst h
      rcases List.mem_append.1 hu with hu | hu
      ·exact hus u (List.mem_of_mem_take hu)
      ·exact hus u (List.mem_of_mem_drop hu)
     ·cases h
theorem A8u{N:Int}:∀ {l:List E9} {us us':List TUp},J2 us l=some us'→(∀ r∈l,r.2.2.1=1→r.2.2.2.2.1≤N)→(∀ u∈us,(show Int from u.2.1)≤N)→∀ u∈us',(show Int from u.2.1)≤N
 | [],us,us',h,_,hus=>by
  simp only [J2,Option.some.injEq] at h;subst h
  exact hus
 | r::l,us,us',h,hr,hus=>by
  simp only [J2] at h
  split at h
  ·rename_i us1 e1
   exact A8u h (fun x hx=>hr x (List.mem_cons_of_mem _ hx)) (C1c e1 (hr r List.mem_cons_self) hus)
  ·cases h
def B4o(st:A5):Prop:=∀ r∈B0 st.1.1,r.2.2.1=1→r.2.2.2.2.1≤1000000
theorem B8N{id:ByteArray}{st st':A5}(hs:Steps id st st'){c:Nat}(h:Dur st c)(hw:B4o st):B4o st':=by
 induction hs with
 | refl=>exact hw
 | @step st1 r us h1 hr e1 e2 hlt hid hn hf ih=>
  have hg:=(B1Y h1 h).1.g
  unfold B4o
  rw [(A8r hg hr e1 e2 hlt hf).2]
  intro x hx h1
  rcases List.mem_append.1 hx with hx | hx
  ·exact ih x hx h1
  ·rw [List.mem_singleton] at hx;subst hx;exact hn h1
structure A5o (k:Nat) (st:A5):Prop where
 dur:∃ c,Dur st c
 ep:st.2.1≤(k:Int)
 ids:∀ s,s∈st.1.1∨s∈st.1.2→(C2 s).2.1=true→(C2 s).1.2.2.2.1∈ [(⟨#[97]⟩:ByteArray),(⟨#[98]⟩:ByteArray),(⟨#[99]⟩:ByteArray)]
 wn:B4o st
theorem A6Z{k:Nat}{st st':A5}{id:ByteArray}(h:A5o k st)(hs:Steps id st st')(hid:id∈ [(⟨#[97]⟩:ByteArray),(⟨#[98]⟩:ByteArray),(⟨#[99]⟩:ByteArray)]):A5o k st':=by
 obtain ⟨c,hd⟩:=h.dur
 obtain ⟨k1,k2,k3,_,_,k7⟩:=B1Y hs hd
 refine ⟨⟨c,k1⟩,by rw [k2];exact h.ep,fun s hs hr=>?_,B8N hs hd h.wn⟩
 rw [k3] at hs
 rcases hs with hs | hs
 ·rcases k7 s hs with hs | ⟨r,h1,h2,rfl⟩
  ·exact h.ids s (.inl hs) hr
  ·rw [B2m h1,h2];exact hid
 ·exact h.ids s (.inr hs) hr
theorem C0d{x:List ByteArray}{us:List TUp}(h:GoodS (A3s x us)):F9 (x,x)=some (A3s x us,true,()):=by
 obtain ⟨hS,_,h200,_⟩:=A3r h.dk
 have hdk:A4A (x,x)=true:=h.dk
 have hl:x.length≤200:=h200
 have hll:=A5I 0 0 x
 have hfs:=A6t (B0 x) (by simp only [maxLen,B0];omega) (B2n 0 0 x)
 have hf:A1L (B0 x)=(us,true,()):=by
  unfold A1L
  rw [show J2 [] (B0 x)=some us from h.up]
 have htop:=C6l x
 have hep:A2o x+1≤10000:=h.ep.2
 simp only [F9,A19,B0h,hdk,C0X (x,x) hS.1,hfs,hf,B9g (x,x) hS.1,A6u (x,x) hS,bO,Bool.not_true,cond_false]
 rw [w64 (n:=A2o x+1) (by omega) (by omega),A3 (show ¬ A2o x+1>10000 by omega)]
 rfl
theorem C3K{k:Nat}{st:A5}(h:A5o k st)(hk:k≤9999)(ke:List Bool):∃ us,V5 st.1 ke=some (C0Y st.1 ke,())∧F9 (C0Y st.1 ke)=some (A3s (U6 st.1.1 st.1.2 ke) us,true,())∧A5o (k+1) (A3s (U6 st.1.1 st.1.2 ke) us):=by
 obtain ⟨c,hd⟩:=h.dur
 obtain ⟨_,k2,_⟩:=A3r hd.g.dk
 have hep:=h.ep
 obtain ⟨m,us,_,_,g3,_,h5,h6,h7⟩:=C0c hd ke (by omega)
 refine ⟨us,C0a st.1 ke hd.g.dk,C0d h7,⟨_,B8M h7⟩,?_,fun s hs hr=>?_,fun r hr h1=>by
  have hr':r∈B0 (U6 st.1.1 st.1.2 ke):=hr
  rw [g3] at hr'
  exact h.wn r (List.mem_of_mem_take hr') h1⟩
 ·show A2o (U6 st.1.1 st.1.2 ke)+1≤((k+1:Nat):Int)
  omega
 ·have hs2:s∈U6 st.1.1 st.1.2 ke:=hs.elim id id
  exact h.ids s (C1b k2 hs2) hr
theorem C53{k:Nat}{st:A5}(h:A5o k st):A5o k ((st.1.1,st.1.1),st.2):=by
 obtain ⟨c,hd⟩:=h.dur
 exact ⟨⟨_,B2p hd.g⟩,h.ep,fun s hs hr=>h.ids s (.inl (hs.elim id id)) hr,h.wn⟩
theorem A1q{k k':Nat}{st:A5}(h:A5o k st)(hk:k≤k'):A5o k' st:=⟨h.dur,by have:=h.ep;omega,h.ids,h.wn⟩
theorem C54(k:Nat)(hk:k≤9999)(c:B5)(st:A5)(hc:Cur c)(h:A5o k st):∃ y c',E4 c st=some (y,c',())∧A5o (k+1) y∧Cur c':=by
 obtain ⟨cc,hdur⟩:=h.dur
 obtain ⟨hR,hS,hok,_⟩:=B3a hdur.g
 have hk1:k≤k+1:=Nat.le_succ k
 obtain ⟨s,c1,q1,h1,hs⟩:=A7L c [(⟨#[97]⟩:ByteArray),(⟨#[98]⟩:ByteArray),(⟨#[99]⟩:ByteArray)] hc (by simp)
 have hsz:s.size≤maxLen:=by
  simp only [List.mem_cons,List.not_mem_nil,or_false] at hs
  rcases hs with rfl | rfl | rfl<;>decide
 obtain ⟨k,c2,q2,h2,k0,k1⟩:=K2 c1 12 h1 (by omega)
 simp only [E4,R0,q1,q2,bO]
 obtain ⟨b0,m0⟩:∃ b,(bif decide (k=0) then (some (decide (k=0),()):Option (Bool×Unit)) else some (decide (k=1),()))=some (b,()):=by
  cases decide (k=0)<;>exact ⟨_,rfl⟩
 rw [m0]
 simp only [bO]
 cases b0 with
 | true=>
  obtain ⟨n,c3,q3,h3,_⟩:=O1 c2 [0,3,30,60] h2 (by simp)
  have q4:=B5d st s n hsz hR hS hok
  simp only [cond_true,q3,q4,bO]
  exact ⟨_,_,rfl,A1q (A6Z h (B0k hR) hs) hk1,h3⟩
 | false=>
  simp only [cond_false]
  obtain ⟨b1,m1⟩:∃ b,(bif decide (k=2) then (some (decide (k=2),()):Option (Bool×Unit)) else bif decide (k=3) then some (decide (k=3),()) else bif decide (k=4) then some (decide (k=4),()) else some (decide (k=5),()))=some (b,()):=by
   cases decide (k=2)<;>cases decide (k=3)<;>cases decide (k=4)<;>exact ⟨_,rfl⟩
  rw [m1]
  simp only [bO]
  obtain ⟨u,bu,qu,u1,u2,u3⟩:=C9v st s hR.up
  cases b1 with
  | true=>
   obtain ⟨n,c3,q3,h3,hn⟩:=O1 c2 [1,3,24,30] h2 (by simp)
   have hn2:0≤n∧n≤30:=by
    simp only [List.mem_cons,List.not_mem_nil,or_false] at hn
    omega
   simp only [cond_true,qu,q3,bO]
   rw [w64 (n:=u.2.1-(List.length u.2.2.1:Int)) (by omega) (by omega)]
   obtain ⟨n',c4,m2,hn',h4⟩:∃ (n':Int) (c4:B5),(bif bu then bif decide (n>u.2.1-(List.length u.2.2.1:Int)) then A4 (L4 c3 5) fun (c68:Bool×B5×Unit)=>bif (!c68.1) then some (u.2.1-(List.length u.2.2.1:Int),c68.2.1.1,c68.2.1.2.1,c68.2.1.2.2,()) else some (n,c68.2.1.1,c68.2.1.2.1,c68.2.1.2.2,()) else some (n,c3.1,c3.2.1,c3.2.2,()) else some (n,c3.1,c3.2.1,c3.2.2,()))=some (n',c4.1,c4.2.1,c4.2.2,())∧(0≤n'∧n'≤30)∧Cur c4:=by
    cases bu with
    | false=>exact ⟨_,c3,rfl,hn2,h3⟩
    | true=>
     by_cases hg:n>u.2.1-(List.length u.2.2.1:Int)
     ·obtain ⟨b,c5,q5,h5⟩:=A23 c3 5 h3 (by omega)
      rw [A0 hg,q5]
      cases b with
      | false=>exact ⟨_,c5,rfl,by omega,h5⟩
      | true=>exact ⟨_,c5,rfl,hn2,h5⟩
     ·rw [A3 hg]
      exact ⟨_,c3,rfl,hn2,h3⟩
   rw [m2]
   simp only [bO]
   obtain ⟨dat,c6,q6,h6,hl6,hb6⟩:=A5m c4 n' h4 (by omega)
   have q7:=B8J st s (List.length u.2.2.1:Int) dat hsz hR hS hok hb6 (by omega) (by omega)
   have q6':H8 (c4.1,(c4.2.1,c4.2.2)) n' = _:=q6
   rw [q6']
   simp only [bO,q7]
   exact ⟨_,_,rfl,A1q (A6Z h (A8t hR hb6) hs) hk1,h6⟩
  | false=>
   simp only [cond_false]
   cases decide (k=6) with
   | true=>
    have q7:=B5e st s (((A46 u.2.2.1 ^^^ 4294967295:Nat):Int)) hsz hR hS hok
    simp only [cond_true,qu,bO]
    rw [B0Y _ u3 (by simp only [maxLen];omega)]
    simp only [bO,q7]
    exact ⟨_,_,rfl,A1q (A6Z h (B0l hR) hs) hk1,h2⟩
   | false=>
    simp only [cond_false]
    cases decide (k=7) with
    | true=>
     obtain ⟨b,c5,q5,h5⟩:=A23 c2 3 h2 (by omega)
     have q7:=B5f st s hsz hR hS hok
     simp only [cond_true,q5,bO]
     cases b with
     | true=>
      simp only [cond_true,q7,bO]
      exact ⟨_,_,rfl,A1q (A6Z h (B0m hR) hs) hk1,h5⟩
     | false=>exact ⟨_,_,rfl,A1q h hk1,h5⟩
    | false=>
     simp only [cond_false]
     obtain ⟨b3,m3⟩:∃ b,(bif decide (k=8) then (some (decide (k=8),()):Option (Bool×Unit)) else some (decide (k=9),()))=some (b,()):=by
      cases decide (k=8)<;>exact ⟨_,rfl⟩
     rw [m3]
     simp only [bO]
     cases b3 with
     | true=>
      simp only [cond_true,W5,A3k,T1 st hS,hok,B8C st.1 hS.1,bO]
      exact ⟨_,_,rfl,A1q (C53 h) hk1,h2⟩
     | false=>
      obtain ⟨ke,c7,q9,h7⟩:=B8G c2 h2
      obtain ⟨us,f1,f2,f3⟩:=C3K h hk ke
      simp only [cond_false,q9,f1,f2,bO]
      exact ⟨_,_,rfl,f3,h7⟩
theorem C55(last:Int)(i:Nat)(l:List ByteArray)(h:∀ s∈l,(C2 s).2.1=false):H0 last i l = []:=B2o _ _ _ fun s hs=>by
 simp only [A0o,h s (List.mem_of_mem_head? hs),Bool.false_and]
theorem B3b:(C2 ⟨#[]⟩).2.1=false:=by
 unfold C2 A6T
 have h0:(⟨#[]⟩:ByteArray).size=0:=rfl
 rw [h0,A3 (by omega)]
 rfl
theorem B24(n:Int)(hn:n≤200):A5o 0 (G1 n,(0,(0,[]))):=by
 have hall:∀ s,s∈(G1 n).1∨s∈(G1 n).2→s=⟨#[]⟩:=by
  intro s hs
  unfold G1 at hs
  split at hs
  ·rcases hs with hs | hs<;>exact (List.mem_replicate.1 hs).2
  ·rcases hs with hs | hs<;>cases hs
 have hg:∀ s∈(G1 n).1,(C2 s).2.1=false:=fun s hs=>by rw [hall s (.inl hs)];exact B3b
 have hsc:B0 (G1 n).1 = []:=C55 _ _ _ hg
 have hsz:∀ s,s∈(G1 n).1∨s∈(G1 n).2→s.size≤64:=fun s hs=>by rw [hall s hs];show 0≤64;omega
 have hlen:(G1 n).1.length=(G1 n).2.length∧(G1 n).1.length≤200:=by
  unfold G1
  split<;>simp<;>omega
 have heq:(G1 n).2=(G1 n).1:=by
  unfold G1
  split<;>rfl
 have hG:GoodS (G1 n,(0,(0,[]))):=by
  refine ⟨B8K hlen.1 hlen.2 (fun s hs=>hsz s (.inl hs)) (fun s hs=>hsz s (.inr hs)),by simp,?_,?_,?_,?_⟩
  ·show J2 [] (B0 (G1 n).1)=_;rw [hsc];rfl
  ·show (0:Int)=((B0 (G1 n).1).length:Int);rw [hsc];rfl
  ·show A0A 0 (B0 (G1 n).1)≤0;rw [hsc];exact Int.le_refl _
  ·refine List.all_eq_true.2 fun s hs=>?_
   have:=hg s (List.mem_of_mem_drop hs)
   simp only [A1M,this,Bool.false_and,Bool.not_false]
 refine ⟨⟨0,hG,Nat.zero_le _,fun i _=>by rw [show ((G1 n,((0:Int),((0:Int),([]:List TUp)))):A5).1.2=(G1 n).1 from heq],fun i s _ h2 _=>?_,fun i h1 _=>?_,?_⟩,by simp,fun s hs hr=>?_,fun r hr=>by (have hr':r∈B0 (G1 n).1:=hr;rw [hsc] at hr';cases hr')⟩
 ·have h2':i<(B0 (G1 n).1).length:=h2
  rw [hsc] at h2';simp at h2'
 ·have h1':i<(B0 (G1 n).1).length:=h1
  rw [hsc] at h1';simp at h1'
 ·show B0 (G1 n).2=(B0 (G1 n).1).take 0
  rw [heq,hsc];rfl
 ·rw [hall s hs,B3b] at hr;cases hr
theorem C56(c:B5)(n:Int)(hc:Cur c)(hn:0<n∧n≤1000):∃ y c',M4 c n=some (y,c',())∧A5o 1000 y∧Cur c':=by
 obtain ⟨m,c1,q1,h1,hm⟩:=O1 c [30,30,8,0] hc (by simp)
 have hm2:m≤200:=by
  simp only [List.mem_cons,List.not_mem_nil,or_false] at hm
  omega
 obtain ⟨k,c2,q2,h2,k0,k1⟩:=K2 c1 n h1 (by omega)
 simp only [M4,A03,Z9,A4w,B3U,q1,q2,bO]
 obtain ⟨z,e,hz⟩:=A0P (W8 E4) (fun l=>l.1.toNat)
  (fun l=>∃ j:Nat,l.1≤1000-(j:Int)∧j≤1000∧A5o j ((l.2.2.2.2.2.2.1,l.2.2.2.2.2.2.2.1),(l.2.1,(l.2.2.1,l.2.2.2.2.2.2.2.2.1)))∧Cur (l.2.2.2.1,(l.2.2.2.2.1,l.2.2.2.2.2.1))) (fun z=>A5o 1000 z.1∧Cur z.2.1) (fun l hl=>by
   obtain ⟨j,g0,gj,g1,g2⟩:=hl
   simp only [W8]
   by_cases hi:l.1>0
   ·obtain ⟨y,c',e,hy,hc'⟩:=C54 j (by omega) _ _ g2 g1
    rw [A0 hi,e]
    simp only [cond_true,bO]
    rw [w64 (by omega) (by omega)]
    exact .inl ⟨_,rfl,⟨j+1,by simp only;omega,by omega,hy,hc'⟩,by simp only;omega⟩
   ·rw [A3 hi]
    exact .inr ⟨_,rfl,A1q g1 gj,g2⟩) (k,0,0,c2.1,c2.2.1,c2.2.2,(G1 m).1,(G1 m).2,[],()) ⟨0,by simp only;omega,by omega,B24 m hm2,h2⟩
 exact ⟨z.1,z.2.1,e,hz⟩
def lenOf(st:A5)(id:ByteArray):Int:=if F3 st.2.2.2 id=true then (List.length (rd kUp st.2.2.2 (A8 st.2.2.2 id:Int)).2.2.1:Int) else 0
def A0B(st:A5)(code:Int)(id:ByteArray):A1F:=
 if code=2 then (404,-1) else if code=3∨code=4 then (409,lenOf st id) else if code=5 then (507,-1) else if code=6 then (422,-1) else (400,-1)
def C3L(st:A5)(r:W4):A1F:=
 if F3 st.2.2.2 r.2.1=true then (if r.1=5∧(rd kUp st.2.2.2 (A8 st.2.2.2 r.2.1:Int)).2.2.2=false then (409,lenOf st r.2.1) else (200,lenOf st r.2.1)) else (404,-1)
def A8v(st:A5)(r:W4)(dat:List Int):A5×A1F:=
 if r.1=1 then ((A2x st r.2.1 r.2.2).1,if (A2x st r.2.1 r.2.2).2=0 then (201,0) else A0B st (A2x st r.2.1 r.2.2).2 r.2.1)
 else if r.1=3 then ((A4L st r.2.1 r.2.2 dat).1,if (A4L st r.2.1 r.2.2 dat).2=0 then (204,r.2.2+(dat.length:Int)) else A0B st (A4L st r.2.1 r.2.2 dat).2 r.2.1)
 else if r.1=4 then ((A2y st r.2.1 r.2.2).1,if (A2y st r.2.1 r.2.2).2=0 then (200,-1) else A0B st (A2y st r.2.1 r.2.2).2 r.2.1)
 else if r.1=6 then ((A2z st r.2.1).1,if (A2z st r.2.1).2=0 then (204,-1) else A0B st (A2z st r.2.1).2 r.2.1)
 else (st,C3L st r)
theorem B8O{st:A5}{id:ByteArray}{n:Int}(h:¬ (A2x st id n).2=0):(A2x st id n).1=st:=by
 unfold A2x at h ⊢
 split
 ·rename_i h1
  rw [if_pos h1] at h
  split
  ·rfl
  ·rename_i h2
   rw [if_neg h2] at h
   split
   ·rfl
   ·rename_i h3
    rw [if_neg h3] at h
    exact absurd rfl h
 ·rfl
theorem C0e{st:A5}{id:ByteArray}{n:Int}{d:List Int}(h:¬ (A4L st id n d).2=0):(A4L st id n d).1=st:=by
 unfold A4L at h ⊢
 split
 ·rename_i h1
  rw [if_pos h1] at h
  split
  ·rename_i h2
   rw [if_pos h2] at h
   split
   ·rfl
   ·rename_i h3
    rw [if_neg h3] at h
    split
    ·rfl
    ·rename_i h4
     rw [if_neg h4] at h
     exact absurd rfl h
  ·rfl
 ·rfl
theorem B8P{st:A5}{id:ByteArray}{n:Int}(h:¬ (A2y st id n).2=0):(A2y st id n).1=st:=by
 unfold A2y at h ⊢
 split
 ·rename_i h1
  rw [if_pos h1] at h
  split
  ·rename_i h2
   rw [if_pos h2] at h
   split
   ·rfl
   ·rename_i h3
    rw [if_neg h3] at h
    split
    ·rfl
    ·rename_i h4
     rw [if_neg h4] at h
     split
     ·rfl
     ·rename_i h5
      rw [if_neg h5] at h
      split
      ·rfl
      ·rename_i h6
       rw [if_neg h6] at h
       exact absurd rfl h
  ·rfl
 ·rfl
theorem B8Q{st:A5}{id:ByteArray}(h:¬ (A2z st id).2=0):(A2z st id).1=st:=by
 unfold A2z at h ⊢
 split
 ·rename_i h1
  rw [if_pos h1] at h
  split
  ·rename_i h2
   rw [if_pos h2] at h
   split
   ·rfl
   ·rename_i h4
    rw [if_neg h4] at h
    exact absurd rfl h
  ·rfl
 ·rfl
theorem B3c{st:A5}{id:ByteArray}{off:Int}{dat:List Int}(h:Rt st)(hb:Byt dat)(h0:(A4L st id off dat).2=0):lenOf (A4L st id off dat).1 id=off+(dat.length:Int)∧off=lenOf st id∧0≤off:=by
 unfold A4L at h0 ⊢
 split at h0
 ·rename_i h1
  rw [if_pos h1]
  split at h0
  ·rename_i h3
   rw [if_pos h3]
   split at h0
   ·simp at h0
   ·rename_i h4
    rw [if_neg h4]
    split at h0
    ·simp at h0
    ·rename_i h5
     rw [if_neg h5]
     have hc:=B3W h hb h1.1 h1.2 h3 h4 h5
     have hI:=B1X hc _ (Nat.le_refl _)
     have hn:dat.length≤nPc dat*24:=by
      have:¬ nPc dat<nPc dat:=Nat.lt_irrefl _
      rw [B0i] at this
      omega
     have hat:=hc.at'
     refine ⟨?_,?_,by omega⟩
     ·unfold lenOf
      rw [if_pos hI.has,hI.val]
      simp only [List.length_append,List.take_of_length_le hn]
      omega
     ·unfold lenOf
      rw [if_pos h3]
      exact hat
  ·simp at h0
 ·simp at h0
theorem B4p(x:A9)(n:Int)(id:ByteArray)(hU:Ups x.1.2.2.2):L0 x n id=some ((n,lenOf x.1 id),x,()):=by
 have hul:=hU.2.1
 simp only [L0,A4I,lenOf]
 rw [A5G x.1.2.2.2 id (by simp only [maxLen];omega)]
 cases hh:F3 x.1.2.2.2 id with
 | false=>
  simp only [Bool.false_eq_true,if_false,bO]
  rw [A0 (show (-1:Int)<0 by omega)]
  rfl
 | true=>
  simp only [if_true,bO]
  rw [A3 (show ¬ (A8 x.1.2.2.2 id:Int)<0 by omega)]
  rfl
theorem A53(x:A9)(c:Int)(id:ByteArray)(hU:Ups x.1.2.2.2):G9 x c id=some (A0B x.1 c id,x,()):=by
 simp only [G9,A1n,B4p x 409 id hU,A0B,bO]
 by_cases h2:c=2
 ·rw [A0 h2,if_pos h2];rfl
 rw [A3 h2,if_neg h2]
 by_cases h3:c=3
 ·rw [A0 h3,if_pos (.inl h3)];rfl
 rw [A3 h3]
 by_cases h4:c=4
 ·rw [A0 h4,if_pos (.inr h4)];rfl
 rw [A3 h4,if_neg (fun h=>h.elim h3 h4)]
 simp only [cond_false,bO]
 by_cases h5:c=5
 ·rw [A0 h5,if_pos h5];rfl
 rw [A3 h5,if_neg h5]
 by_cases h6:c=6
 ·rw [A0 h6,if_pos h6];rfl
 rw [A3 h6,if_neg h6]
 rfl
theorem C7s(x:A9)(r:W4)(hU:Ups x.1.2.2.2):A07 x r=some (C3L x.1 r,x,()):=by
 have hul:=hU.2.1
 simp only [A07,A4J,B4p x _ r.2.1 hU,C3L,bO]
 rw [A5G x.1.2.2.2 r.2.1 (by simp only [maxLen];omega)]
 cases hh:F3 x.1.2.2.2 r.2.1 with
 | false=>
  simp only [Bool.false_eq_true,if_false,bO]
  rw [A0 (show (-1:Int)<0 by omega)]
  rfl
 | true=>
  simp only [if_true,bO]
  rw [A3 (show ¬ (A8 x.1.2.2.2 r.2.1:Int)<0 by omega)]
  simp only [cond_false]
  by_cases h5:r.1=5
  ·rw [A0 h5]
   simp only [cond_true,bO]
   cases hd:(rd kUp x.1.2.2.2 (A8 x.1.2.2.2 r.2.1:Int)).2.2.2 with
   | true=>rw [if_neg (fun h=>by cases h.2)];rfl
   | false=>rw [if_pos ⟨h5,rfl⟩];rfl
  ·rw [A3 h5,if_neg (fun h=>h5 h.1)]
   rfl
theorem B4q(st:A5)(id:ByteArray)(hU:Ups st.2.2.2):P3 st id=some (if F3 st.2.2.2 id=true then rd kUp st.2.2.2 (A8 st.2.2.2 id:Int) else (⟨#[]⟩,(0,([],false))),F3 st.2.2.2 id,()):=by
 simp only [P3,B0R]
 rw [B1U st.2.2.2 id hU]
 cases hh:F3 st.2.2.2 id with
 | false=>
  simp only [Bool.false_eq_true,if_false,bO]
  rw [A0 (show (-1:Int)<0 by omega)]
  rfl
 | true=>
  obtain ⟨hlt,hid2⟩:=G4.1 hh
  have hdl:=A6W hU _ (List.getElem_mem hlt)
  rw [← E3 (k:=kUp) hlt] at hdl
  simp only [if_true,bO]
  rw [A3 (show ¬ (A8 st.2.2.2 id:Int)<0 by omega),A0 (show (0:Int)≤(A8 st.2.2.2 id:Int) by omega),A0 (show (A8 st.2.2.2 id:Int)<(st.2.2.2.length:Int) by omega),A0 (by simp;omega),A0 (by simp;omega)]
  simp only [cond_true,cond_false,List.nil_append]
theorem B3d(st:A5)(id:ByteArray)(c:Int)(hU:Ups st.2.2.2):A5Z st id c=some (A0B st c id,()):=by
 have hlo:(List.length (if F3 st.2.2.2 id=true then rd kUp st.2.2.2 (A8 st.2.2.2 id:Int) else ((⟨#[]⟩,(0,([],false))):TUp)).2.2.1:Int)=lenOf st id:=by
  unfold lenOf;split<;>rfl
 simp only [A5Z,B2Z,B4q st id hU,A0B,bO,hlo]
 by_cases h2:c=2
 ·rw [A0 h2,if_pos h2];rfl
 rw [A3 h2,if_neg h2]
 by_cases h3:c=3
 ·rw [A0 h3,if_pos (.inl h3)];rfl
 rw [A3 h3]
 by_cases h4:c=4
 ·rw [A0 h4,if_pos (.inr h4)];rfl
 rw [A3 h4,if_neg (fun h=>h.elim h3 h4)]
 simp only [cond_false,bO]
 by_cases h5:c=5
 ·rw [A0 h5,if_pos h5];rfl
 rw [A3 h5,if_neg h5]
 by_cases h6:c=6
 ·rw [A0 h6,if_pos h6];rfl
 rw [A3 h6,if_neg h6]
 rfl
theorem C57(st:A5)(r:W4)(hU:Ups st.2.2.2):A2M st r=some (C3L st r,()):=by
 simp only [A2M,A8R,B4q st r.2.1 hU,C3L,lenOf,bO]
 cases hh:F3 st.2.2.2 r.2.1 with
 | false=>rfl
 | true=>
  simp only [if_true,Bool.not_true,cond_false]
  by_cases h5:r.1=5
  ·rw [A0 h5]
   cases hd:(rd kUp st.2.2.2 (A8 st.2.2.2 r.2.1:Int)).2.2.2 with
   | true=>rw [if_neg (fun h=>by cases h.2)];rfl
   | false=>rw [if_pos ⟨h5,rfl⟩];rfl
  ·rw [A3 h5,if_neg (fun h=>h5 h.1)]
   rfl
theorem C3M(x:A9)(r:W4)(dat:List Int)(hid:r.2.1.size≤maxLen)(h:Rt x.1)(hb:Byt dat)(hd:dat.length≤1048576)(ho:-9223372036854775808≤r.2.2∧r.2.2≤9223372036854775807) :
  V8 x r dat=some ((A8v x.1 r dat).2,((A8v x.1 r dat).1,x.2),()):=by
 have hU:=h.up
 simp only [V8,A2Y,A8v]
 by_cases h1:r.1=1
 ·rw [A0 h1,if_pos h1,C37 x.1 r.2.1 r.2.2 hid h]
  simp only [cond_true,bO,B7]
  by_cases hz:(A2x x.1 r.2.1 r.2.2).2=0
  ·rw [A0 hz,if_pos hz];rfl
  ·rw [A3 hz,if_neg hz,B8O hz]
   simp only [Bool.not_false,cond_true]
   have e:=A53 x (A2x x.1 r.2.1 r.2.2).2 r.2.1 hU
   have e':G9 (((x.1.1.1,x.1.1.2),(x.1.2.1,(x.1.2.2.1,x.1.2.2.2))),x.2) (A2x x.1 r.2.1 r.2.2).2 r.2.1=_:=e
   rw [e']
   rfl
 rw [A3 h1,if_neg h1]
 by_cases h3:r.1=3
 ·rw [A0 h3,if_pos h3,C4z x.1 r.2.1 r.2.2 dat hid h hb hd ho]
  simp only [cond_true,cond_false,bO]
  have hU2:=(C36 (id:=r.2.1) (off:=r.2.2) (dat:=dat) h hb).1
  rw [B4p ((A4L x.1 r.2.1 r.2.2 dat).1,x.2) 204 r.2.1 hU2]
  simp only [bO,B7]
  by_cases hz:(A4L x.1 r.2.1 r.2.2 dat).2=0
  ·rw [A0 hz,if_pos hz,(B3c h hb hz).1];rfl
  ·rw [A3 hz,if_neg hz,C0e hz]
   simp only [Bool.not_false,cond_true]
   have e:=A53 x (A4L x.1 r.2.1 r.2.2 dat).2 r.2.1 hU
   have e':G9 (((x.1.1.1,x.1.1.2),(x.1.2.1,(x.1.2.2.1,x.1.2.2.2))),x.2) (A4L x.1 r.2.1 r.2.2 dat).2 r.2.1=_:=e
   rw [e']
   rfl
 rw [A3 h3,if_neg h3]
 by_cases h4:r.1=4
 ·rw [A0 h4,if_pos h4,C38 x.1 r.2.1 r.2.2 hid h]
  simp only [cond_true,cond_false,bO,B7]
  by_cases hz:(A2y x.1 r.2.1 r.2.2).2=0
  ·rw [A0 hz,if_pos hz];rfl
  ·rw [A3 hz,if_neg hz,B8P hz]
   simp only [Bool.not_false,cond_true]
   have e:=A53 x (A2y x.1 r.2.1 r.2.2).2 r.2.1 hU
   have e':G9 (((x.1.1.1,x.1.1.2),(x.1.2.1,(x.1.2.2.1,x.1.2.2.2))),x.2) (A2y x.1 r.2.1 r.2.2).2 r.2.1=_:=e
   rw [e']
   rfl
 rw [A3 h4,if_neg h4]
 by_cases h6:r.1=6
 ·rw [A0 h6,if_pos h6,C39 x.1 r.2.1 hid h]
  simp only [cond_true,cond_false,bO,B7]
  by_cases hz:(A2z x.1 r.2.1).2=0
  ·rw [A0 hz,if_pos hz];rfl
  ·rw [A3 hz,if_neg hz,B8Q hz]
   simp only [Bool.not_false,cond_true]
   have e:=A53 x (A2z x.1 r.2.1).2 r.2.1 hU
   have e':G9 (((x.1.1.1,x.1.1.2),(x.1.2.1,(x.1.2.2.1,x.1.2.2.2))),x.2) (A2z x.1 r.2.1).2 r.2.1=_:=e
   rw [e']
   rfl
 rw [A3 h6,if_neg h6,C7s x r hU]
 rfl
theorem B8R(st:A5)(r:W4)(dat:List Int)(hid:r.2.1.size≤maxLen)(h:Rt st)(hS:A5n st)(hok:D0 st=some (true,()))(hb:Byt dat)(hd:dat.length≤1048576)(ho:-9223372036854775808≤r.2.2∧r.2.2≤9223372036854775807) :
  L9 st r dat=some ((A8v st r dat).1,(A8v st r dat).2,()):=by
 have hU:=h.up
 simp only [L9,X8,A8v]
 by_cases h1:r.1=1
 ·rw [A0 h1,if_pos h1,B5d st r.2.1 r.2.2 hid h hS hok]
  simp only [cond_true,bO,B7]
  by_cases hz:(A2x st r.2.1 r.2.2).2=0
  ·rw [A0 hz,if_pos hz];rfl
  ·rw [A3 hz,if_neg hz,B8O hz]
   simp only [Bool.not_false,cond_true,B3d st r.2.1 _ hU,bO]
 rw [A3 h1,if_neg h1]
 by_cases h3:r.1=3
 ·rw [A0 h3,if_pos h3,B8J st r.2.1 r.2.2 dat hid h hS hok hb hd ho]
  simp only [cond_true,cond_false,bO,B7]
  by_cases hz:(A4L st r.2.1 r.2.2 dat).2=0
  ·rw [A0 hz,if_pos hz]
   have hl:=B3c h hb hz
   have hlo:lenOf st r.2.1≤2000000000:=by
    unfold lenOf
    split
    ·rename_i hh
     obtain ⟨hlt,_⟩:=G4.1 hh
     have hdl:=A6W hU _ (List.getElem_mem hlt)
     rw [← E3 (k:=kUp) hlt] at hdl
     omega
    ·omega
   rw [w64 (by omega) (by omega)]
   rfl
  ·rw [A3 hz,if_neg hz,C0e hz]
   simp only [Bool.not_false,cond_true,B3d st r.2.1 _ hU,bO]
 rw [A3 h3,if_neg h3]
 by_cases h4:r.1=4
 ·rw [A0 h4,if_pos h4,B5e st r.2.1 r.2.2 hid h hS hok]
  simp only [cond_true,cond_false,bO,B7]
  by_cases hz:(A2y st r.2.1 r.2.2).2=0
  ·rw [A0 hz,if_pos hz];rfl
  ·rw [A3 hz,if_neg hz,B8P hz]
   simp only [Bool.not_false,cond_true,B3d st r.2.1 _ hU,bO]
 rw [A3 h4,if_neg h4]
 by_cases h6:r.1=6
 ·rw [A0 h6,if_pos h6,B5f st r.2.1 hid h hS hok]
  simp only [cond_true,cond_false,bO,B7]
  by_cases hz:(A2z st r.2.1).2=0
  ·rw [A0 hz,if_pos hz];rfl
  ·rw [A3 hz,if_neg hz,B8Q hz]
   simp only [Bool.not_false,cond_true,B3d st r.2.1 _ hU,bO]
 rw [A3 h6,if_neg h6,C57 st r hU]
 rfl
theorem C58{st:A5}{r:W4}{dat:List Int}(h:Rt st)(hb:Byt dat):Steps r.2.1 st (A8v st r dat).1:=by
 unfold A8v
 split
 ·exact B0k h
 ·split
  ·exact A8t h hb
  ·split
   ·exact B0l h
   ·split
    ·exact B0m h
    ·exact Steps.refl
theorem B8S{st:A5}(h:Rt st)(id:ByteArray):0≤lenOf st id∧lenOf st id≤1000000000:=by
 unfold lenOf
 split
 ·rename_i hh
  obtain ⟨hlt,_⟩:=G4.1 hh
  have hg:=h.up.2.2 _ (List.getElem_mem hlt)
  rw [E3 (k:=kUp) (xs:=st.2.2.2) hlt]
  have h1:=hg.1
  have h2:=hg.2.1
  omega
 ·omega
theorem C59{st:A5}{r:W4}{dat:List Int}(h:Rt st)(hb:Byt dat){c:Nat}(hd:Dur st c):P0 (A8v st r dat).2=true:=by
 have key:∀ a b:Int,(100≤a∧a≤599)→(-1≤b∧b≤1000000000)→P0 (a,b)=true:=fun a b h1 h2=>by
  simp only [P0]
  rw [A0 h1,A0 h2]
  rfl
 have hl:=B8S h
 have hcode:∀ code id,P0 (A0B st code id)=true:=fun code id=>by
  have:=hl id
  unfold A0B
  repeat' split
  all_goals exact key _ _ (by omega) (by omega)
 unfold A8v
 split
 ·simp only
  split
  ·exact key _ _ (by omega) (by omega)
  ·exact hcode _ _
 ·split
  ·simp only
   split
   ·rename_i h0
    obtain ⟨q1,q2,q3⟩:=B3c h hb h0
    have hR:=(B3a (B1Y (A8t (off:=r.2.2) (id:=r.2.1) h hb) hd).1.g).1
    have:=B8S hR r.2.1
    exact key _ _ (by omega) (by omega)
   ·exact hcode _ _
  ·split
   ·simp only
    split
    ·exact key _ _ (by omega) (by omega)
    ·exact hcode _ _
   ·split
    ·simp only
     split
     ·exact key _ _ (by omega) (by omega)
     ·exact hcode _ _
    ·simp only [C3L]
     have:=hl r.2.1
     repeat' split
     all_goals exact key _ _ (by omega) (by omega)
structure SvI (k:Nat) (sv:A9):Prop where
 dur:∃ c,Dur sv.1 c
 ep:sv.1.2.1≤(k:Int)
 wn:B4o sv.1
 hl:sv.2.length≤200
 hr:∀ h∈sv.2,P0 h.2=true
theorem B3e{k:Nat}{sv:A9}(h:SvI k sv):Rt sv.1∧C31 sv∧D0 sv.1=some (true,()):=by
 obtain ⟨c,hd⟩:=h.dur
 obtain ⟨a,b,d,_⟩:=B3a hd.g
 have:=h.hl
 exact ⟨a,⟨b,by show sv.2.length≤_;omega⟩,d⟩
theorem D01{k:Nat}{sv:A9}(h:SvI k sv):∀ u∈sv.1.2.2.2,(show Int from u.2.1)≤1000000:=by
 obtain ⟨c,hd⟩:=h.dur
 exact A8u hd.g.up h.wn (fun u hu=>by cases hu)
theorem B8T{k k':Nat}{sv:A9}(h:SvI k sv)(hk:k≤k'):SvI k' sv:=⟨h.dur,by have:=h.ep;omega,h.wn,h.hl,h.hr⟩
theorem C5A{k:Nat}{sv:A9}(h:SvI k sv):E7 sv=some (true,())∧R7 sv=some (true,()):=by
 obtain ⟨hR,hS,hok⟩:=B3e h
 have hl:=h.hl
 obtain ⟨b,e1,e2,_⟩:=B0g sv hR.dk.1 hS.2
 have hs:E7 sv=some (true,()):=by
  simp only [E7,A10]
  have key:=I1 (D8 M2 sv) (fun j=>((j:Int),())) sv.2.length (.inl ()) (fun i hi=>?_) ?_
  ·have key':C5 (D8 M2 sv) (0,())=_:=key
   rw [key']
   simp only [B7]
   rw [A0 (by omega),hok]
   rfl
  ·simp only [D8]
   rw [A0 (show (i:Int)<(sv.2.length:Int) by omega),A0 (show (0:Int)≤(i:Int) by omega),E3 (k:=J7) (xs:=sv.2) hi,A47,h.hr _ (List.getElem_mem hi),w64 (by omega) (by omega)]
   rfl
  ·simp only [D8]
   rw [A3 (by omega)]
   rfl
 rw [hs] at e1
 injection e1 with e1;injection e1 with e1
 subst e1
 exact ⟨hs,e2⟩
theorem C5B{k:Nat}{sv:A9}(h:SvI k sv):SvI k (((sv.1.1.1,sv.1.1.1),sv.1.2),[]):=by
 obtain ⟨c,hd⟩:=h.dur
 exact ⟨⟨_,B2p hd.g⟩,h.ep,h.wn,Nat.zero_le _,fun x hx=>by cases hx⟩
theorem C7t{k:Nat}{sv:A9}(h:SvI k sv):Q0 sv=some ((((sv.1.1.1,sv.1.1.1),sv.1.2),[]),sv.2,()):=by
 obtain ⟨hR,hS,hok⟩:=B3e h
 have hl:=h.hl
 simp only [Q0,A2Q,A4K sv hS,(C5A h).1,bO,Bool.not_true,cond_false,W5,A3k,T1 sv.1 hS.1,hok,B8C sv.1.1 hR.dk,cond_true]
 rw [A0 (by simp;omega),A0 (by simp;omega)]
 rfl
theorem C7u{k:Nat}{sv:A9}(h:SvI k sv)(hk:k≤9999)(ke:List Bool):∃ us,GoodS (A3s (U6 sv.1.1.1 sv.1.1.2 ke) us)∧A4A sv.1.1=true∧SvI (k+1) (A3s (U6 sv.1.1.1 sv.1.1.2 ke) us,[]):=by
 obtain ⟨c,hd⟩:=h.dur
 have hep:=h.ep
 obtain ⟨m,us,g1,g2,g3,g4,g5,g6,g7⟩:=C0c hd ke (by omega)
 refine ⟨us,g7,hd.g.dk,⟨_,B8M g7⟩,?_,?_,Nat.zero_le _,fun x hx=>by cases hx⟩
 ·show A2o (U6 sv.1.1.1 sv.1.1.2 ke)+1≤((k+1:Nat):Int)
  omega
 ·intro r hr h1
  have hr':r∈B0 (U6 sv.1.1.1 sv.1.1.2 ke):=hr
  rw [g3] at hr'
  exact h.wn r (List.mem_of_mem_take hr') h1
theorem C5C{k:Nat}{sv:A9}(h:SvI k sv)(hk:k≤9999)(ke:List Bool):∃ y,F2 sv ke=some (y,true,sv,())∧SvI (k+1) y:=by
 obtain ⟨us,g1,g2,g3⟩:=C7u h hk ke
 refine ⟨_,?_,g3⟩
 have hop:F9 (C0Y sv.1.1 ke)=_:=C0d g1
 simp only [F2,R6,(C5A h).1,C0a sv.1.1 ke g2,hop,bO,Bool.not_true,cond_false]
theorem C5D{k:Nat}{sv:A9}(h:SvI k sv)(who:Int)(r:W4)(dat:List Int)(hid:r.2.1.size≤maxLen)(hb:Byt dat)(hd:dat.length≤1048576)(ho:-9223372036854775808≤r.2.2∧r.2.2≤9223372036854775807) :
  ∃ y b,H2 sv who r dat=some (y,b,())∧SvI k y:=by
 obtain ⟨hR,hS,hok⟩:=B3e h
 have hl:=h.hl
 obtain ⟨c,hdu⟩:=h.dur
 simp only [H2,A1W,A4K sv hS,(C5A h).1,B8D r hid,bO,Bool.not_true,cond_false]
 cases hq:B4k r with
 | false=>exact ⟨sv,false,rfl,h⟩
 | true=>
  by_cases h2:(sv.2.length:Int)=200
  ·rw [A0 h2];exact ⟨sv,false,rfl,h⟩
  ·rw [A3 h2]
   simp only [Bool.not_true,cond_false,B7,bO,B8R sv.1 r dat hid hR hS.1 hok hb hd ho]
   rw [A0 (by simp;omega),A0 (by simp;omega)]
   have hst:=C58 (r:=r) hR hb
   obtain ⟨k1,k2,_⟩:=B1Y hst hdu
   refine ⟨_,true,rfl,⟨c,k1⟩,by show (A8v sv.1 r dat).1.2.1≤_;rw [k2];exact h.ep,B8N hst hdu h.wn,by simp;omega,fun x hx=>?_⟩
   rcases List.mem_append.1 hx with hx | hx
   ·exact h.hr x hx
   ·rw [List.mem_singleton] at hx;subst hx;exact C59 hR hb hdu
theorem C0f(c:B5)(hc:Cur c):∃ r c',Z8 c=some (r,c',())∧Cur c'∧-1≤r.2.2∧r.2.2≤4294967295:=by
 obtain ⟨k,c1,q1,h1,k0,k1⟩:=K2 c 6 hc (by omega)
 obtain ⟨s,c2,q2,h2,_⟩:=A7L c1 [(⟨#[97]⟩:ByteArray),(⟨#[98]⟩:ByteArray),(⟨#[117,112,49]⟩:ByteArray),(⟨#[101,105,103,104,116,108,101,116]⟩:ByteArray)] h1 (by simp)
 simp only [Z8,A8T,q1,q2,bO]
 obtain ⟨m,qm⟩:∃ m,S3 (IntKind.i64.wrap (1+k))=some (m,()):=by
  simp only [S3,A40]
  cases decide (IntKind.i64.wrap (1+k)=1)<;>cases decide (IntKind.i64.wrap (1+k)=3)<;>cases decide (IntKind.i64.wrap (1+k)=4)<;>exact ⟨_,rfl⟩
 rw [qm]
 simp only [bO]
 cases decide (m≥0) with
 | false=>exact ⟨_,_,rfl,h2,by simp only;omega,by simp only;omega⟩
 | true=>
  obtain ⟨n,c3,q3,h3,hn⟩:=O1 c2 [0,5,24,100,1000000000] h2 (by simp)
  have hn2:0≤n∧n≤1000000000:=by
   simp only [List.mem_cons,List.not_mem_nil,or_false] at hn
   omega
  simp only [cond_true,q3,bO]
  cases decide (IntKind.i64.wrap (1+k)=4) with
  | false=>exact ⟨_,_,rfl,h3,by simp only;omega,by simp only;omega⟩
  | true=>
   obtain ⟨b,c4,q4,h4⟩:=A23 c3 2 h3 (by omega)
   simp only [cond_true,q4,bO]
   cases b
   ·exact ⟨_,_,rfl,h4,by simp only;omega,by simp only;omega⟩
   ·exact ⟨_,_,rfl,h4,by simp only;omega,by simp only;omega⟩
theorem C5E(c:B5)(hc:Cur c):∃ r c',Z8 c=some (r,c',())∧Cur c'∧-1≤r.2.2∧r.2.2≤4294967295∧r.2.1.size≤64:=by
 obtain ⟨k,c1,q1,h1,k0,k1⟩:=K2 c 6 hc (by omega)
 obtain ⟨s,c2,q2,h2,hs⟩:=A7L c1 [(⟨#[97]⟩:ByteArray),(⟨#[98]⟩:ByteArray),(⟨#[117,112,49]⟩:ByteArray),(⟨#[101,105,103,104,116,108,101,116]⟩:ByteArray)] h1 (by simp)
 have hsz:s.size≤64:=by
  simp only [List.mem_cons,List.not_mem_nil,or_false] at hs
  rcases hs with rfl | rfl | rfl | rfl<;>decide
 simp only [Z8,A8T,q1,q2,bO]
 obtain ⟨m,qm⟩:∃ m,S3 (IntKind.i64.wrap (1+k))=some (m,()):=by
  simp only [S3,A40]
  cases decide (IntKind.i64.wrap (1+k)=1)<;>cases decide (IntKind.i64.wrap (1+k)=3)<;>cases decide (IntKind.i64.wrap (1+k)=4)<;>exact ⟨_,rfl⟩
 rw [qm]
 simp only [bO]
 cases decide (m≥0) with
 | false=>exact ⟨_,_,rfl,h2,by simp only;omega,by simp only;omega,hsz⟩
 | true=>
  obtain ⟨n,c3,q3,h3,hn⟩:=O1 c2 [0,5,24,100,1000000000] h2 (by simp)
  have hn2:0≤n∧n≤1000000000:=by
   simp only [List.mem_cons,List.not_mem_nil,or_false] at hn
   omega
  simp only [cond_true,q3,bO]
  cases decide (IntKind.i64.wrap (1+k)=4) with
  | false=>exact ⟨_,_,rfl,h3,by simp only;omega,by simp only;omega,hsz⟩
  | true=>
   obtain ⟨b,c4,q4,h4⟩:=A23 c3 2 h3 (by omega)
   simp only [cond_true,q4,bO]
   cases b
   ·exact ⟨_,_,rfl,h4,by simp only;omega,by simp only;omega,hsz⟩
   ·exact ⟨_,_,rfl,h4,by simp only;omega,by simp only;omega,hsz⟩
theorem C7v{k:Nat}{sv:A9}(h:SvI k sv)(c:B5)(hc:Cur c):∃ r dat c',H4 c sv.1=some (r,dat,c',())∧Cur c'∧r.2.1.size≤maxLen∧Byt dat∧dat.length≤1048576∧(-9223372036854775808≤r.2.2∧r.2.2≤9223372036854775807):=by
 obtain ⟨hR,hS,hok⟩:=B3e h
 obtain ⟨r,c1,q1,h1,r0,r1⟩:=C0f c hc
 obtain ⟨s,c2,q2,h2,hs⟩:=A7L c1 [(⟨#[97]⟩:ByteArray),(⟨#[98]⟩:ByteArray),(⟨#[99]⟩:ByteArray)] h1 (by simp)
 have hsz:s.size≤maxLen:=by
  simp only [List.mem_cons,List.not_mem_nil,or_false] at hs
  rcases hs with rfl | rfl | rfl<;>decide
 have qu:=B4q sv.1 s hR.up
 obtain ⟨u,bu,qu',u1,u2,u3⟩:∃ u b,P3 sv.1 s=some (u,b,())∧(List.length u.2.2.1:Int)≤u.2.1∧u.2.1≤1000000∧Byt u.2.2.1:=by
  refine ⟨_,_,qu,?_⟩
  split
  ·rename_i hh
   obtain ⟨hlt,_⟩:=G4.1 hh
   have hg:=hR.up.2.2 _ (List.getElem_mem hlt)
   have hw:=D01 h _ (List.getElem_mem hlt)
   rw [E3 (k:=kUp) (xs:=sv.1.2.2.2) hlt]
   exact ⟨hg.1,hw,hg.2.2.2⟩
  ·exact ⟨by simp,by simp,Q1⟩
 simp only [H4,A1d,q1,q2,qu',bO]
 cases decide (r.1=1) with
 | true=>
  obtain ⟨n,c3,q3,h3,hn⟩:=O1 c2 [0,3,30,1000000,1000001] h2 (by simp)
  have hn2:0≤n∧n≤1000001:=by
   simp only [List.mem_cons,List.not_mem_nil,or_false] at hn
   omega
  simp only [cond_true,q3,bO]
  exact ⟨_,_,_,rfl,h3,hsz,Q1,Nat.zero_le _,by simp only;omega⟩
 | false=>
  simp only [cond_false]
  cases decide (r.1=3) with
  | true=>
   obtain ⟨o,c3,q3,h3,ho⟩:=O1 c2 [(List.length u.2.2.1:Int),(List.length u.2.2.1:Int),(List.length u.2.2.1:Int),0,7] h2 (by simp)
   have ho2:0≤o∧o≤1000007:=by
    simp only [List.mem_cons,List.not_mem_nil,or_false] at ho
    omega
   obtain ⟨n,c4,q4,h4,hn⟩:=O1 c3 [1,3,24,30,0] h3 (by simp)
   have hn2:0≤n∧n≤30:=by
    simp only [List.mem_cons,List.not_mem_nil,or_false] at hn
    omega
   obtain ⟨dat,c5,q5,h5,hl5,hb5⟩:=A5m c4 n h4 (by omega)
   simp only [cond_true,q3,q4,q5,bO]
   by_cases hg:u.2.1>(List.length u.2.2.1:Int)
   ·obtain ⟨b,c6,q6,h6⟩:=A23 c5 2 h5 (by omega)
    rw [A0 hg]
    simp only [cond_true,q6,bO]
    cases b with
    | true=>
     obtain ⟨d2,c7,q7,h7,hl7,hb7⟩:=A5m c6 (IntKind.i64.wrap (u.2.1-(List.length u.2.2.1:Int))) h6 (by rw [w64 (by omega) (by omega)];omega)
     rw [w64 (by omega) (by omega)] at hl7
     have q7':H8 (c6.1,(c6.2.1,c6.2.2)) (IntKind.i64.wrap (u.2.1-(List.length u.2.2.1:Int)))=_:=q7
     simp only [cond_true,q7',bO]
     exact ⟨_,_,_,rfl,h7,hsz,hb7,by omega,by simp only;omega⟩
    | false=>exact ⟨_,_,_,rfl,h6,hsz,hb5,by omega,by simp only;omega⟩
   ·rw [A3 hg]
    exact ⟨_,_,_,rfl,h5,hsz,hb5,by omega,by simp only;omega⟩
  | false=>
   simp only [cond_false]
   cases decide (r.1=4) with
   | true=>
    have hx:A46 u.2.2.1 ^^^ 4294967295<2 ^ 32:=Nat.xor_lt_two_pow (A8l u3) (by omega)
    simp only [cond_true]
    rw [B0Y _ u3 (by simp only [maxLen];omega)]
    simp only [bO]
    obtain ⟨n,c3,q3,h3,hn⟩:=O1 c2 [((A46 u.2.2.1 ^^^ 4294967295:Nat):Int),((A46 u.2.2.1 ^^^ 4294967295:Nat):Int),7] h2 (by simp)
    have hn2:0≤n∧n≤4294967296:=by
     simp only [List.mem_cons,List.not_mem_nil,or_false] at hn
     omega
    simp only [q3,bO]
    exact ⟨_,_,_,rfl,h3,hsz,Q1,Nat.zero_le _,by simp only;omega⟩
   | false=>exact ⟨_,_,_,rfl,h2,hsz,Q1,Nat.zero_le _,by simp only;omega⟩
theorem C5F(c:B5)(n:Int)(hc:Cur c)(hn:0<n∧n≤1000):∃ y c',M3 c n=some (y,c',())∧SvI 1000 y∧Cur c':=by
 obtain ⟨m,c1,q1,h1,hm⟩:=O1 c [30,30,6] hc (by simp)
 have hm2:m≤200:=by
  simp only [List.mem_cons,List.not_mem_nil,or_false] at hm
  omega
 obtain ⟨k,c2,q2,h2,k0,k1⟩:=K2 c1 n h1 (by omega)
 have h0:SvI 0 (A0Q m):=by
  obtain ⟨⟨d,hd⟩,hep,_⟩:=B24 m hm2
  have hsc:B0 (G1 m).1 = []:=by
   have h1:(0:Int)=((B0 (G1 m).1).length:Int):=by
    rcases hd.g with ⟨_,_,_,h4,_⟩
    exact h4
   exact List.eq_nil_of_length_eq_zero (by omega)
  exact ⟨⟨d,hd⟩,hep,fun r hr=>by (rw [show B0 (A0Q m).1.1.1 = [] from hsc] at hr;cases hr),Nat.zero_le _,fun x hx=>by cases hx⟩
 simp only [M3,A02,B8F,q1,q2,bO]
 obtain ⟨z,e,hz⟩:=A0P (W7 F2 H2 Q0 M0 H4 C1) (fun l=>l.1.toNat)
  (fun l=>∃ j:Nat,l.1≤1000-(j:Int)∧j≤1000∧SvI j (((l.2.2.2.2.2.2.1,l.2.2.2.2.2.2.2.1),(l.2.1,(l.2.2.1,l.2.2.2.2.2.2.2.2.1))),l.2.2.2.2.2.2.2.2.2.1)∧Cur (l.2.2.2.1,(l.2.2.2.2.1,l.2.2.2.2.2.1))) (fun z=>SvI 1000 z.1∧Cur z.2.1) (fun l hl=>by
   obtain ⟨j,g0,gj,g1,g2⟩:=hl
   simp only [W7]
   by_cases hi:l.1>0
   ·obtain ⟨b,c3,q3,h3,b0,b1⟩:=K2 _ 6 g2 (by omega)
    rw [A0 hi,q3]
    simp only [cond_true,bO]
    rw [w64 (by omega) (by omega)]
    cases decide (b=0) with
    | true=>
     have qs:=C7t g1
     simp only [cond_true,qs,bO]
     exact .inl ⟨_,rfl,⟨j+1,by simp only;omega,by omega,B8T (C5B g1) (by omega),h3⟩,by simp only;omega⟩
    | false=>
     simp only [cond_false]
     cases decide (b=1) with
     | true=>
      obtain ⟨ke,c4,q4,h4⟩:=B8G c3 h3
      obtain ⟨y,q5,hy⟩:=C5C g1 (by omega) ke
      simp only [cond_true,q4,q5,bO]
      exact .inl ⟨_,rfl,⟨j+1,by simp only;omega,by omega,hy,h4⟩,by simp only;omega⟩
     | false=>
      obtain ⟨r,dat,c4,q4,h4,a1,a2,a3,a4⟩:=C7v g1 c3 h3
      obtain ⟨who,c5,q5,h5,_⟩:=K2 c4 3 h4 (by omega)
      obtain ⟨y,b',q6,hy⟩:=C5D g1 who r dat a1 a2 a3 a4
      have q4':H4 c3 ((l.2.2.2.2.2.2.1,l.2.2.2.2.2.2.2.1),(l.2.1,(l.2.2.1,l.2.2.2.2.2.2.2.2.1)))=_:=q4
      simp only [cond_false,q4',q5,q6,bO]
      exact .inl ⟨_,rfl,⟨j+1,by simp only;omega,by omega,B8T hy (by omega),h5⟩,by simp only;omega⟩
   ·rw [A3 hi]
    exact .inr ⟨_,rfl,B8T g1 gj,g2⟩) (k,(A0Q m).1.2.1,(A0Q m).1.2.2.1,c2.1,c2.2.1,c2.2.2,(A0Q m).1.1.1,(A0Q m).1.1.2,(A0Q m).1.2.2.2,(A0Q m).2,()) ⟨0,by simp only;omega,by omega,h0,h2⟩
 exact ⟨z.1,z.2.1,e,hz⟩
theorem C5G(st:A5)(id:ByteArray):(∃ u∈st.2.2.2,u.1=id∧C9q st id=(u,true,()))∨C9q st id=D1z:=by
 unfold C9q
 split
 ·rename_i hlt
  have hf:=A52 (fun j=>!((rd kUp st.2.2.2 (j:Int)).1.toList == id.toList)) st.2.2.2.length 0 (by unfold B83 at hlt;omega)
  have hf2:(!((rd kUp st.2.2.2 (B83 st.2.2.2 id:Int)).1.toList == id.toList))=false:=hf
  rw [E3 (k:=kUp) (xs:=st.2.2.2) hlt] at hf2 ⊢
  simp only [Bool.not_eq_false',beq_iff_eq] at hf2
  exact .inl ⟨_,List.getElem_mem hlt,C1X hf2,rfl⟩
 ·exact .inr rfl
theorem A8w{id:ByteArray}{st st':A5}(hs:Steps id st st')(h:GoodS st):GoodS st':=by
 induction hs with
 | refl=>exact h
 | step h1 hr e1 e2 hlt hid _ hf ih=>exact (A8r ih hr e1 e2 hlt hf).1
theorem C7w{st:A5}{r:W4}{dat:List Int}(h:GoodS st)(hb:Byt dat):GoodS (A8v st r dat).1:=by
 have hR:=C1a h (A7N h)
 unfold A8v
 split
 ·exact A8w (B0k hR) h
 ·split
  ·exact A8w (A8t hR hb) h
  ·split
   ·exact A8w (B0l hR) h
   ·split
    ·exact A8w (B0m hR) h
    ·exact h
theorem B4r{st:A5}(h:Ups st.2.2.2)(id:ByteArray):0≤lenOf st id∧lenOf st id≤1000000000:=by
 unfold lenOf
 split
 ·rename_i hh
  obtain ⟨hlt,_⟩:=G4.1 hh
  have hg:=h.2.2 _ (List.getElem_mem hlt)
  rw [E3 (k:=kUp) hlt]
  have h1:=hg.1
  have h2:=hg.2.1
  omega
 ·omega
theorem B1Z{s o:Int}(h1:100≤s)(h2:s≤599)(h3:-1≤o)(h4:o≤1000000000):P0 (s,o)=true:=by
 simp only [P0,Bool.and_eq_true,decide_eq_true_eq]
 omega
theorem A6a{st:A5}(h:Ups st.2.2.2)(c:Int)(id:ByteArray):P0 (A0B st c id)=true:=by
 have hl:=B4r h id
 unfold A0B
 repeat' split
 all_goals exact B1Z (by omega) (by omega) (by omega) (by omega)
theorem D18{st:A5}(h:Ups st.2.2.2)(r:W4):P0 (C3L st r)=true:=by
 have hl:=B4r h r.2.1
 unfold C3L
 repeat' split
 all_goals exact B1Z (by omega) (by omega) (by omega) (by omega)
theorem C7x{st:A5}{r:W4}{dat:List Int}(h:GoodS st)(hb:Byt dat):P0 (A8v st r dat).2=true:=by
 have hU:=A7N h
 have hR:=C1a h hU
 unfold A8v
 split
 ·simp only
  split
  ·exact B1Z (by omega) (by omega) (by omega) (by omega)
  ·exact A6a hU _ _
 ·split
  ·simp only
   split
   ·rename_i hz
    obtain ⟨q1,q2,q3⟩:=B3c hR hb hz
    have hl:=B4r (C36 (id:=r.2.1) (off:=r.2.2) (dat:=dat) hR hb).1 r.2.1
    exact B1Z (by omega) (by omega) (by omega) (by omega)
   ·exact A6a hU _ _
  ·split
   ·simp only
    split
    ·exact B1Z (by omega) (by omega) (by omega) (by omega)
    ·exact A6a hU _ _
   ·split
    ·simp only
     split
     ·exact B1Z (by omega) (by omega) (by omega) (by omega)
     ·exact A6a hU _ _
    ·exact D18 hU r
structure C3N (st:A5):Prop where
 sd:A7M st.1
 n:st.2.2.2.length≤20
 up:∀ u∈st.2.2.2,u.1.size≤64∧Byt u.2.2.1∧List.length u.2.2.1≤1000000∧(@LE.le Int _ (List.length u.2.2.1:Int) u.2.1∧@LE.le Int _ u.2.1 1000000)
theorem C6p{st:A5}(h:GoodS st)(hw:B4o st):C3N st:=by
 have hU:=A7N h
 have hS:=A3r h.dk
 have hwant:=A8u (N:=1000000) h.up hw (fun u hu=>by cases hu)
 refine ⟨hS.1,by have:=hU.2.1;omega,fun u hu=>?_⟩
 have hg:=hU.2.2 u hu
 have h1:=hg.1
 have h2:@LE.le Int _ u.2.1 1000000:=hwant u hu
 have h3:=hg.2.2.1
 exact ⟨by omega,hg.2.2.2,by omega,h1,h2⟩
theorem C7y{k:Nat}{st:A5}(h:A5o k st):C3N st:=by
 obtain ⟨c,hd⟩:=h.dur
 exact C6p hd.g h.wn
theorem D19{k:Nat}{sv:A9}(h:SvI k sv):C3N sv.1:=by
 obtain ⟨c,hd⟩:=h.dur
 exact C6p hd.g h.wn
theorem D24{st:A5}(h:C3N st):A5n st:=⟨h.sd,by have:=h.n;omega,fun u hu=>by have:=(h.up u hu).2.2.1;omega⟩
theorem C7z(c:B5)(n:Int)(hc:Cur c)(hn:0<n∧n≤1000):∃ y c',N9 c n=some (y,c',())∧C3N y∧Cur c':=by
 obtain ⟨st,c1,q1,h1,hc1⟩:=C56 c n hc hn
 have ha:=C7y h1
 obtain ⟨k,c2,q2,hc2,k0,k1⟩:=K2 c1 12 hc1 (by omega)
 have hl:=ha.n
 simp only [N9,A0S,q1,q2,bO]
 cases decide (k=0) with
 | true=>
  obtain ⟨m,c3,q3,hc3,_⟩:=O1 c2 [(-1),10000,10001,0] hc2 (by simp)
  simp only [cond_true,q3,bO]
  exact ⟨_,_,rfl,⟨ha.sd,ha.n,ha.up⟩,hc3⟩
 | false=>
 simp only [cond_false]
 cases decide (k=1) with
 | true=>exact ⟨_,_,rfl,⟨ha.sd,ha.n,ha.up⟩,hc2⟩
 | false=>
 simp only [cond_false]
 cases decide (k=2) with
 | true=>
  obtain ⟨cd,hdr⟩:=h1.dur
  have hl10:=(A7N hdr.g).2.1
  simp only [cond_true]
  rw [A0 (by simp;omega),A0 (by simp;omega)]
  refine ⟨_,_,rfl,⟨ha.sd,by simp only [List.length_append,List.length_cons,List.length_nil];omega,fun u hu=>?_⟩,hc2⟩
  rcases List.mem_append.1 hu with hu | hu
  ·exact ha.up u hu
  ·rw [List.mem_singleton.1 hu]
   exact ⟨by decide,Q1,Nat.zero_le _,by decide,by decide⟩
 | false=>
 simp only [cond_false]
 cases decide (k=3) with
 | true=>
  simp only [cond_true]
  by_cases hz:(st.1.1.length:Int)>0
  ·rw [A0 hz]
   exact ⟨_,_,rfl,⟨⟨C33 ha.sd.1 0 (by decide),ha.sd.2⟩,ha.n,ha.up⟩,hc2⟩
  ·rw [A3 hz]
   exact ⟨_,_,rfl,ha,hc2⟩
 | false=>exact ⟨_,_,rfl,ha,hc2⟩
theorem C80(c:B5)(n:Int)(hc:Cur c)(hn:0<n∧n≤1000):∃ y c',O0 c n=some (y,c',())∧C3N y.1∧y.2.length≤201∧Cur c':=by
 obtain ⟨sv,c1,q1,h1,hc1⟩:=C5F c n hc hn
 have ha:=D19 h1
 have hl:=h1.hl
 obtain ⟨k,c2,q2,hc2,k0,k1⟩:=K2 c1 12 hc1 (by omega)
 simp only [O0,A0T,q1,q2,bO]
 cases decide (k=0) with
 | true=>
  obtain ⟨st,c3,q3,hst,hc3⟩:=C7z c2 5 hc2 (by omega)
  simp only [cond_true,q3,bO]
  exact ⟨_,_,rfl,hst,by simp only;omega,hc3⟩
 | false=>
 simp only [cond_false]
 cases decide (k=1) with
 | true=>
  obtain ⟨m,c3,q3,hc3,_⟩:=O1 c2 [0,200] hc2 (by simp)
  simp only [cond_true,q3,bO]
  rw [A0 (by simp;omega),A0 (by simp;omega)]
  exact ⟨_,_,rfl,ha,by simp only [List.length_append,List.length_cons,List.length_nil];omega,hc3⟩
 | false=>exact ⟨_,_,rfl,ha,by omega,hc2⟩
theorem C81(c:B5)(hc:Cur c):∃ r c',A5a c=some (r,c',())∧Cur c'∧r.2.1.size≤64∧(-9223372036854775808≤r.2.2∧r.2.2≤9223372036854775807):=by
 obtain ⟨r,c1,q1,h1,r0,r1,r2⟩:=C5E c hc
 obtain ⟨k,c2,q2,h2,_⟩:=K2 c1 10 h1 (by omega)
 simp only [A5a,B2b,q1,q2,bO]
 cases decide (k=0) with
 | true=>
  obtain ⟨m,c3,q3,h3,_⟩:=O1 c2 [0,7,2] h2 (by simp)
  simp only [cond_true,q3,bO]
  exact ⟨_,_,rfl,h3,r2,by simp only;omega⟩
 | false=>
 simp only [cond_false]
 cases decide (k=1) with
 | true=>
  obtain ⟨s,c3,q3,h3,hs⟩:=A7L c2 [(⟨#[]⟩:ByteArray),(⟨#[65]⟩:ByteArray),(⟨#[110,105,110,101,98,121,116,101,115]⟩:ByteArray),(⟨#[97,32,98]⟩:ByteArray)] h2 (by simp)
  have hsz:s.size≤64:=by
   simp only [List.mem_cons,List.not_mem_nil,or_false] at hs
   rcases hs with rfl | rfl | rfl | rfl<;>decide
  simp only [cond_true,q3,bO]
  exact ⟨_,_,rfl,h3,hsz,by simp only;omega⟩
 | false=>
 simp only [cond_false]
 cases decide (k=2) with
 | true=>
  obtain ⟨m,c3,q3,h3,hm⟩:=O1 c2 [(-1),1000000001,4294967296,3] h2 (by simp)
  have hm2:-1≤m∧m≤4294967296:=by
   simp only [List.mem_cons,List.not_mem_nil,or_false] at hm
   omega
  simp only [cond_true,q3,bO]
  exact ⟨_,_,rfl,h3,r2,by simp only;omega⟩
 | false=>exact ⟨_,_,rfl,h2,r2,by omega⟩
theorem C3O:∀ a:List Int,eqI a a=true
 | []=>rfl
 | x::a=>by simp [eqI,C3O a]
theorem B25(l:List R1)(h:l.length≤1048576):A2a l l=some (true,()):=by
 simp only [A2a,A8i,decide_true,Bool.not_true,cond_false]
 refine I1 (A2Z l l) (fun i=>((i:Int),())) l.length (true,()) (fun i hi=>?_) ?_
 ·simp only [A2Z]
  rw [A0 (show (i:Int)<(l.length:Int) by omega),A0 (show (0:Int)≤(i:Int) by omega),C3O,w64 (by omega) (by omega)]
  rfl
 ·simp only [A2Z]
  rw [A3 (by omega)]
  rfl
theorem C5H{st:A5}(h:C3N st)(c:B5)(hc:Cur c):∃ r dat c',H4 c st=some (r,dat,c',())∧Cur c'∧r.2.1.size≤maxLen∧Byt dat∧dat.length≤1048576∧(-9223372036854775808≤r.2.2∧r.2.2≤9223372036854775807):=by
 obtain ⟨r,c1,q1,h1,r0,r1⟩:=C0f c hc
 obtain ⟨s,c2,q2,h2,hs⟩:=A7L c1 [(⟨#[97]⟩:ByteArray),(⟨#[98]⟩:ByteArray),(⟨#[99]⟩:ByteArray)] h1 (by simp)
 have hsz:s.size≤maxLen:=by
  simp only [List.mem_cons,List.not_mem_nil,or_false] at hs
  rcases hs with rfl | rfl | rfl<;>decide
 have hnl:=h.n
 have hsm:Sm 1048576 (.sl 0 kUp) st.2.2.2:=⟨by show List.length st.2.2.2≤_;omega,fun u hu=>by
  obtain ⟨g1,_,g3,_⟩:=h.up u hu
  exact ⟨by show u.1.size≤_;omega,trivial,⟨by show List.length u.2.2.1≤_;omega,fun _ _=>trivial⟩,trivial⟩⟩
 have qu:=C7c st s hsm
 obtain ⟨u,bu,qu',u1,u2,u3⟩:∃ u b,P3 st s=some (u,b,())∧(List.length u.2.2.1:Int)≤u.2.1∧u.2.1≤1000000∧Byt u.2.2.1:=by
  rcases C5G st s with ⟨u,hu,_,e⟩ | e
  ·obtain ⟨_,g2,_,g4,g5⟩:=h.up u hu
   exact ⟨u,true,by rw [qu,e],g4,g5,g2⟩
  ·refine ⟨D1z.1,false,by rw [qu,e];rfl,?_,?_,Q1⟩
   ·show ((0:Nat):Int)≤0
    omega
   ·show (0:Int)≤1000000
    omega
 simp only [H4,A1d,q1,q2,qu',bO]
 cases decide (r.1=1) with
 | true=>
  obtain ⟨n,c3,q3,h3,hn⟩:=O1 c2 [0,3,30,1000000,1000001] h2 (by simp)
  have hn2:0≤n∧n≤1000001:=by
   simp only [List.mem_cons,List.not_mem_nil,or_false] at hn
   omega
  simp only [cond_true,q3,bO]
  exact ⟨_,_,_,rfl,h3,hsz,Q1,Nat.zero_le _,by simp only;omega⟩
 | false=>
  simp only [cond_false]
  cases decide (r.1=3) with
  | true=>
   obtain ⟨o,c3,q3,h3,ho⟩:=O1 c2 [(List.length u.2.2.1:Int),(List.length u.2.2.1:Int),(List.length u.2.2.1:Int),0,7] h2 (by simp)
   have ho2:0≤o∧o≤1000007:=by
    simp only [List.mem_cons,List.not_mem_nil,or_false] at ho
    omega
   obtain ⟨n,c4,q4,h4,hn⟩:=O1 c3 [1,3,24,30,0] h3 (by simp)
   have hn2:0≤n∧n≤30:=by
    simp only [List.mem_cons,List.not_mem_nil,or_false] at hn
    omega
   obtain ⟨dat,c5,q5,h5,hl5,hb5⟩:=A5m c4 n h4 (by omega)
   simp only [cond_true,q3,q4,q5,bO]
   by_cases hg:u.2.1>(List.length u.2.2.1:Int)
   ·obtain ⟨b,c6,q6,h6⟩:=A23 c5 2 h5 (by omega)
    rw [A0 hg]
    simp only [cond_true,q6,bO]
    cases b with
    | true=>
     obtain ⟨d2,c7,q7,h7,hl7,hb7⟩:=A5m c6 (IntKind.i64.wrap (u.2.1-(List.length u.2.2.1:Int))) h6 (by rw [w64 (by omega) (by omega)];omega)
     rw [w64 (by omega) (by omega)] at hl7
     have q7':H8 (c6.1,(c6.2.1,c6.2.2)) (IntKind.i64.wrap (u.2.1-(List.length u.2.2.1:Int)))=_:=q7
     simp only [cond_true,q7',bO]
     exact ⟨_,_,_,rfl,h7,hsz,hb7,by omega,by simp only;omega⟩
    | false=>exact ⟨_,_,_,rfl,h6,hsz,hb5,by omega,by simp only;omega⟩
   ·rw [A3 hg]
    exact ⟨_,_,_,rfl,h5,hsz,hb5,by omega,by simp only;omega⟩
  | false=>
   simp only [cond_false]
   cases decide (r.1=4) with
   | true=>
    have hx:A46 u.2.2.1 ^^^ 4294967295<2 ^ 32:=Nat.xor_lt_two_pow (A8l u3) (by omega)
    simp only [cond_true]
    rw [B0Y _ u3 (by simp only [maxLen];omega)]
    simp only [bO]
    obtain ⟨n,c3,q3,h3,hn⟩:=O1 c2 [((A46 u.2.2.1 ^^^ 4294967295:Nat):Int),((A46 u.2.2.1 ^^^ 4294967295:Nat):Int),7] h2 (by simp)
    have hn2:0≤n∧n≤4294967296:=by
     simp only [List.mem_cons,List.not_mem_nil,or_false] at hn
     omega
    simp only [q3,bO]
    exact ⟨_,_,_,rfl,h3,hsz,Q1,Nat.zero_le _,by simp only;omega⟩
   | false=>exact ⟨_,_,_,rfl,h2,hsz,Q1,Nat.zero_le _,by simp only;omega⟩
theorem B9j(x:A9)(h2:x.2.length≤1048576)(hok:E7 x=some (true,())):∀ y∈x.2,P0 y.2=true:=by
 intro y hy
 obtain ⟨i0,hi0,rfl⟩:=List.getElem_of_mem hy
 cases hc:P0 (x.2[i0]).2 with
 | true=>rfl
 | false=>
  exfalso
  obtain ⟨z,e,hz⟩:=A0P (D8 M2 x) (fun l=>((i0:Int)-l.1).toNat) (fun l=>0≤l.1∧l.1≤(i0:Int)) (fun z=>z=.inr (false,())) (fun l hl=>by
   obtain ⟨l1,u⟩:=l
   obtain ⟨h0,h1⟩:=hl
   simp only at h0 h1
   obtain ⟨i,rfl⟩:∃ i:Nat,l1=(i:Int):=⟨l1.toNat,by omega⟩
   have hi':i<x.2.length:=by omega
   simp only [D8]
   rw [A0 (show (i:Int)<(x.2.length:Int) by omega),A0 h0,E3 (k:=J7) (xs:=x.2) hi',A47]
   simp only [cond_true,bO]
   by_cases hii:i=i0
   ·subst hii
    rw [hc]
    exact .inr ⟨_,rfl,rfl⟩
   ·cases P0 (x.2[i]).2 with
    | false=>exact .inr ⟨_,rfl,rfl⟩
    | true=>
     rw [w64 (n:=(i:Int)+1) (by omega) (by omega)]
     exact .inl ⟨_,rfl,by simp only;omega,by simp only;omega⟩) (0,()) (by simp)
  subst hz
  simp only [E7,A10,e,B7] at hok
  injection hok with hok;injection hok with hok;cases hok
theorem C3P(sv:A9)(hg:GoodS sv.1)(hl:sv.2.length≤200)(hr:∀ y∈sv.2,P0 y.2=true):R7 sv=some (true,()):=by
 obtain ⟨hR,hS,hok,_⟩:=B3a hg
 obtain ⟨b,e1,e2,_⟩:=B0g sv hR.dk.1 (by omega)
 have hs:E7 sv=some (true,()):=by
  simp only [E7,A10]
  have key:=I1 (D8 M2 sv) (fun j=>((j:Int),())) sv.2.length (.inl ()) (fun i hi=>?_) ?_
  ·have key':C5 (D8 M2 sv) (0,())=_:=key
   rw [key']
   simp only [B7]
   rw [A0 (by omega),hok]
   rfl
  ·simp only [D8]
   rw [A0 (show (i:Int)<(sv.2.length:Int) by omega),A0 (show (0:Int)≤(i:Int) by omega),E3 (k:=J7) (xs:=sv.2) hi,A47,hr _ (List.getElem_mem hi),w64 (by omega) (by omega)]
   rfl
  ·simp only [D8]
   rw [A3 (by omega)]
   rfl
 rw [hs] at e1
 injection e1 with e1;injection e1 with e1
 subst e1
 exact e2
def A3t(x:A9)(who:Int)(r:W4)(dat:List Int):A9:=((A8v x.1 r dat).1,x.2 ++ [(who,(A8v x.1 r dat).2)])
theorem C5I(x:A9)(who:Int)(r:W4)(dat:List Int)(hid:r.2.1.size≤maxLen)(hS:C31 x)(hby:∀ u∈x.1.2.2.2,Byt u.2.2.1)(hb:Byt dat)(hd:dat.length≤1048576)(ho:-9223372036854775808≤r.2.2∧r.2.2≤9223372036854775807) :
  (H2 x who r dat=some (x,false,())∧A5D x who r dat=some (x,false,()))∨
   (H2 x who r dat=some (A3t x who r dat,true,())∧A5D x who r dat=some (A3t x who r dat,true,())∧GoodS x.1∧x.2.length<200∧∀ y∈x.2,P0 y.2=true):=by
 obtain ⟨b,hs,hi,hg⟩:=B0g x hS.1.1.1 hS.2
 have hb2:b=true→E7 x=some (true,()):=fun e=>by rw [hs,e]
 simp only [H2,A1W,A5D,B4c,A4K x hS,B6I x hS,hs,hi,bO]
 cases b with
 | false=>exact .inl ⟨rfl,rfl⟩
 | true=>
  obtain ⟨k1,k2,k3⟩:=hg rfl
  have hr:Rt x.1:=⟨k2,C4v k2 hby,hS.1.1⟩
  obtain ⟨bg,g1,_,g3⟩:=B5g x.1 hS.1.1.1 hby
  rw [k1] at g1
  injection g1 with g1;injection g1 with g1
  have hG:=g3.1 g1.symm
  have hheld:=B9j x hS.2 (hb2 rfl)
  simp only [A18,A3S,B8D r hid,C4u r hid,Bool.not_true,cond_false,cond_true,bO]
  cases hq:B4k r with
  | false=>
   by_cases hl:(x.2.length:Int)≥200
   ·rw [A0 hl];exact .inl ⟨rfl,rfl⟩
   ·rw [A3 hl];exact .inl ⟨rfl,rfl⟩
  | true=>
   by_cases hl:(x.2.length:Int)=200
   ·rw [A0 hl,A0 (show (x.2.length:Int)≥200 by omega)];exact .inl ⟨rfl,rfl⟩
   ·rw [A3 hl,A3 (show ¬ (x.2.length:Int)≥200 by omega)]
    simp only [Bool.not_true,cond_false,B7,bO,B8R x.1 r dat hid hr hS.1 k1 hb hd ho,C3M x r dat hid hr hb hd ho]
    rw [A0 (by simp;omega),A0 (by simp;omega)]
    exact .inr ⟨rfl,rfl,hG,by omega,hheld⟩
theorem C1d(a:List Int)(h:a.length≤1048576):∃ sv who r dat,R4 a=some (sv,who,r,dat,())∧C3N sv.1∧sv.2.length≤201∧r.2.1.size≤maxLen∧Byt dat∧dat.length≤1048576∧(-9223372036854775808≤r.2.2∧r.2.2≤9223372036854775807):=by
 obtain ⟨c,q,hc⟩:=C9r a h
 obtain ⟨s,qs,hs⟩:∃ s,A5V a 20=some (s,())∧3≤s∧s≤20:=by
  have ht:(a.length:Int).tdiv 12=(a.length:Int) / 12:=Int.tdiv_eq_ediv_of_nonneg (by omega)
  simp only [A5V,B2S,ht]
  rw [w64 (n:=(a.length:Int) / 12) (by omega) (by omega),w64 (by omega) (by omega)]
  by_cases h1:3+(a.length:Int) / 12>20
  ·rw [A0 h1];exact ⟨_,rfl,by omega⟩
  ·rw [A3 h1];exact ⟨_,rfl,by omega⟩
 obtain ⟨sv,c1,q1,ha,hl,hc1⟩:=C80 c s hc (by omega)
 obtain ⟨r,dat,c2,q2,hc2,a1,a2,a3,a4⟩:=C5H ha c1 hc1
 obtain ⟨b,c3,q3,hc3⟩:=A23 c2 8 hc2 (by omega)
 simp only [R4,A1B,q,qs,q1,q2,q3,bO]
 cases b with
 | true=>
  obtain ⟨r2,c4,q4,hc4,b1,b2⟩:=C81 c3 hc3
  obtain ⟨who,c5,q5,hc5,_⟩:=K2 c4 4 hc4 (by omega)
  have q5':C1 (c4.1,(c4.2.1,c4.2.2)) 4=_:=q5
  simp only [cond_true,q4,bO,q5']
  exact ⟨_,_,_,_,rfl,ha,hl,by show r2.2.1.size≤_;simp only [maxLen];omega,a2,a3,b2⟩
 | false=>
  obtain ⟨who,c5,q5,hc5,_⟩:=K2 c3 4 hc3 (by omega)
  have q5':C1 (c3.1,(c3.2.1,c3.2.2)) 4=_:=q5
  simp only [cond_false,bO,q5']
  exact ⟨_,_,_,_,rfl,ha,hl,a1,a2,a3,a4⟩
theorem exactServed(a:List Int):A8k a=some (true,()):=by
 simp only [A8k,A8j,B79,C1L,bO]
 by_cases ha:(a.length:Int)>1048576
 ·rw [A0 ha];rfl
 rw [A3 ha]
 obtain ⟨sv,who,r,dat,q,h1,h2,h3,h4,h5,h6⟩:=C1d a (by omega)
 have hS:C31 sv:=⟨D24 h1,by omega⟩
 have hsame:=B25 sv.2 (by omega)
 rcases C5I sv who r dat h3 hS (fun u hu=>(h1.up u hu).2.1) h4 h5 h6 with ⟨e1,e2⟩ | ⟨e1,e2,hG,hl,hr⟩
 ·simp only [cond_false,q,e1,e2,hsame,bO,B7]
  rfl
 ·have hG2:=C7w (r:=r) hG h4
  have hlen:(A3t sv who r dat).2.length=sv.2.length+1:=by simp [A3t]
  have hok:=C3P (A3t sv who r dat) hG2 (by omega) (fun y hy=>by
   rcases List.mem_append.1 hy with hy | hy
   ·exact hr y hy
   ·rw [List.mem_singleton.1 hy];exact C7x hG h4)
  have hs2:=B25 (A3t sv who r dat).2 (by omega)
  simp only [cond_false,q,e1,e2,hsame,hs2,hok,bO,B7]
  rw [w64 (n:=(sv.2.length:Int)+1) (by omega) (by omega),A0 (show ((A3t sv who r dat).2.length:Int)=(sv.2.length:Int)+1 by omega)]
  have hsee:(r.1=2∨r.1=5)→A3t sv who r dat=(sv.1,(A3t sv who r dat).2):=fun hop=>by
   have:(A8v sv.1 r dat).1=sv.1:=by
    unfold A8v
    rw [if_neg (by omega),if_neg (by omega),if_neg (by omega),if_neg (by omega)]
   simp only [A3t,this]
  have hup:=C1Y sv.1.2.2.2 (A7N hG)
  by_cases o2:r.1=2
  ·rw [A0 o2,hsee (.inl o2)]
   simp [hup,B7,A4]
  ·rw [A3 o2]
   by_cases o5:r.1=5
   ·rw [A0 o5,hsee (.inr o5)]
    simp [hup,B7,A4]
   ·rw [A3 o5]
    simp [B7,A4]
end Go.Proofs.YtpdcljonclhhpaaGreat.Ev
