/- What the plain functions of the program and of the reference answer: laws of plain data. -/
import Derived.Test.YtpdcljonclhhpaaGreatXPlaya
set_option linter.unusedVariables false
set_option linter.unusedSimpArgs false
namespace Go.Proofs.YtpdcljonclhhpaaGreat.Ev
theorem C1h(us:List TUp)(id:ByteArray)(h:Ups us):O4 us id=some (if I3 us id=true then (B5 us id:Int) else -1,()):=by
  have hl:=h.2.1
  rw [D8Y us id (by simp only [maxLen];omega)]
  cases hh:I3 us id with
  | true=>
    obtain ⟨hlt,_⟩:=L1.1 hh
    rw [C9G h.1 hh,if_pos hlt,if_pos rfl]
  | false=>rw [C9H h.1 hh,if_neg (Nat.lt_irrefl _),if_neg (by simp)]
theorem D8n{id:ByteArray}(h:idB id=true):id.size≤8:=by
  simp only [idB,Bool.and_eq_true,decide_eq_true_eq] at h
  omega
theorem B7s(st:A8)(h0:0≤st.2.2.1)(h1:st.2.2.1≤(st.1.1.length:Int))(hl:st.1.1.length≤1048576):K6 st=some ((st.1.1.length:Int)-st.2.2.1,st,()):=by
  simp only [K6,A8m]
  rw [w64 (by omega) (by omega)]
theorem B7t(st:A8)(h0:0≤st.2.2.1)(h1:st.2.2.1≤(st.1.1.length:Int))(hl:st.1.1.length≤1048576):R2 st=some ((st.1.1.length:Int)-st.2.2.1,()):=by
  simp only [R2,B62]
  rw [w64 (by omega) (by omega)]
theorem bO{α β:Type}(x:α)(f:α→Option β):A3 (some x) f=f x:=rfl
theorem E6S{us:List TUp}{id:ByteArray}(hh:I3 us id=true)(u:TUp)(hu:u.1=(rd kUp us (B5 us id:Int)).1):I3 (us.set (B5 us id) u) id=true∧B5 (us.set (B5 us id) u) id=B5 us id∧rd kUp (us.set (B5 us id) u) (B5 us id:Int)=u:=by
  obtain ⟨hlt,hid⟩:=L1.1 hh
  rw [C4 (k:=kUp) (xs:=us) hlt] at hu
  have hk:∀ q (hq:q<us.length),((us.set (B5 us id) u)[q]'(by simpa using hq)).1=us[q].1:=fun q hq=>by
    rw [List.getElem_set]
    split
    · rename_i e;subst e;exact hu
    · rfl
  have hrd:rd kUp (us.set (B5 us id) u) (B5 us id:Int)=u:=C9L (k:=kUp) hlt u
  have e1:B5 (us.set (B5 us id) u) id=B5 us id:=by
    refine B0V _ (us.set (B5 us id) u).length _ (by simp;omega) (fun j hj=>?_) (fun _=>?_)
    · rw [C4 (k:=kUp) (xs:=us.set (B5 us id) u) (by simp;omega),hk j (by omega)]
      exact B6J hj
    · rw [hrd,hu]
      exact C1a hlt
  refine ⟨?_,e1,hrd⟩
  unfold I3
  rw [e1,hrd,hu,hid]
  simp
  omega
theorem E5D{l:List ByteArray}{s:ByteArray}(hs:s∈l)(hk:(F9 s).2.1=true):(F9 s).1.1≤A4z l:=by
  have h:=C3w (F9 s).1.1 l (-1)
  by_cases hx:(F9 s).1.1≤A4z l
  · exact hx
  · exfalso
    have h1:decide (l.foldl A4y (-1)<(F9 s).1.1)=true:=decide_eq_true (by have:A4z l=l.foldl A4y (-1):=rfl;omega)
    rw [h1] at h
    have h2:=(Bool.and_eq_true _ _▸h.symm:_∧_).2
    have h3:=List.all_eq_true.1 h2 s hs
    simp only [B26,hk,Bool.true_and] at h3
    rw [A0 (by omega)] at h3
    cases h3
def A5J(d:D6):Bool:=decide (d.1.length=d.2.length∧d.1.length≤200)&&((List.range d.1.length).all fun i=>!decide (((rd .str d.1 (i:Int)).size:Int)>64)&&!decide (((rd .str d.2 (i:Int)).size:Int)>64))
theorem A7C(d:D6):S2 d=some (A5J d,()):=by
  simp only [S2,B3g,A5J]
  by_cases h1:(d.1.length:Int)=(d.2.length:Int)
  · rw [A0 h1]
    by_cases h2:(d.1.length:Int)>200
    · rw [A0 h2,A4 (show ¬ (d.1.length=d.2.length∧d.1.length≤200) by omega)]
      rfl
    · rw [A4 h2,A0 (show d.1.length=d.2.length∧d.1.length≤200 by omega)]
      simp only [Bool.not_true,cond_false,C2,Bool.true_and]
      refine C4x (A0Q d) d.1.length (by simp only [maxLen];omega) (fun i=>!decide (((rd .str d.1 (i:Int)).size:Int)>64)&&!decide (((rd .str d.2 (i:Int)).size:Int)>64)) (fun i hi=>?_) (by simp [A0Q])
      have g1:((i:Int)<(d.1.length:Int)):=by omega
      have g2:(0:Int)≤(i:Int):=by omega
      have g3:((i:Int)<(d.2.length:Int)):=by omega
      simp only [A0Q,A0 g1,A0 g2,A0 g3,cond_true]
      cases decide (((rd .str d.1 (i:Int)).size:Int)>64)<;>cases decide (((rd .str d.2 (i:Int)).size:Int)>64)<;>rfl
  · rw [A4 h1,A4 (show ¬ (d.1.length=d.2.length∧d.1.length≤200) by omega)]
    rfl
theorem E6T{d:D6}(h:A5J d=true):A5J (d.1,d.1)=true:=by
  simp only [A5J,Bool.and_eq_true] at h ⊢
  refine ⟨decide_eq_true ⟨trivial,(of_decide_eq_true h.1).2⟩,List.all_eq_true.2 fun i hi=>?_⟩
  have:=List.all_eq_true.1 h.2 i hi
  simp only [Bool.and_eq_true] at this ⊢
  exact ⟨this.1,this.1⟩
theorem B8R(us:List TUp):A0d us us=true:=by
  simp only [A0d,Bool.and_eq_true]
  refine ⟨decide_eq_true trivial,List.all_eq_true.2 fun i hi=>?_⟩
  simp [A6b]
def E5E(us:List TUp)(id:ByteArray)(ch:List Int):List TUp:=
  us.set (B5 us id) ((rd kUp us (B5 us id:Int)).1,(rd kUp us (B5 us id:Int)).2.1,(rd kUp us (B5 us id:Int)).2.2.1++ch,(rd kUp us (B5 us id:Int)).2.2.2)
def E8s(st:A8)(id:ByteArray)(n:Int)(ch:List Int):A8:=wrote st (st.2.1,st.2.2.1,2,id,n,ch) (E5E st.2.2.2 id ch)
def putAt(st:A8)(id:ByteArray)(off:Int)(dat:List Int):Nat→A8
  | 0=>st
  | j+1=>E8s (putAt st id off dat j) id (off+((j*24:Nat):Int)) (N7 24 dat j)
def nPc(dat:List Int):Nat:=(dat.length+24-1) / 24
structure E2c (st:A8) (id:ByteArray) (off:Int) (dat:List Int):Prop where
  idok:idB id=true
  ep:0≤st.2.1∧st.2.1≤10000
  nx:0≤st.2.2.1∧st.2.2.1+(nPc dat:Int)≤(st.1.1.length:Int)
  len:st.1.1.length≤200
  dk:A2Z st.1
  up:Ups st.2.2.2
  has:I3 st.2.2.2 id=true
  nd:(rd kUp st.2.2.2 (B5 st.2.2.2 id:Int)).2.2.2=false
  at':off=(List.length (rd kUp st.2.2.2 (B5 st.2.2.2 id:Int)).2.2.1:Int)
  fits:off+(dat.length:Int)≤(rd kUp st.2.2.2 (B5 st.2.2.2 id:Int)).2.1
  byt:Byt dat
  lo:1≤dat.length
structure F0R (st:A8) (id:ByteArray) (off:Int) (dat:List Int) (j:Nat) (s:A8):Prop where
  ep:s.2.1=st.2.1
  nx:s.2.2.1=st.2.2.1+(j:Int)
  len:s.1.1.length=st.1.1.length
  dk:A2Z s.1
  up:Ups s.2.2.2
  has:I3 s.2.2.2 id=true
  ix:B5 s.2.2.2 id=B5 st.2.2.2 id
  val:rd kUp s.2.2.2 (B5 s.2.2.2 id:Int)=((rd kUp st.2.2.2 (B5 st.2.2.2 id:Int)).1,(rd kUp st.2.2.2 (B5 st.2.2.2 id:Int)).2.1,(rd kUp st.2.2.2 (B5 st.2.2.2 id:Int)).2.2.1++dat.take (j*24),false)
theorem C0k(dat:List Int)(j:Nat)(h:j*24<dat.length):1≤(N7 24 dat j).length∧(N7 24 dat j).length≤24∧(N7 24 dat j).length=min (j*24+24) dat.length-j*24:=by
  have e:(N7 24 dat j).length=min (j*24+24) dat.length-j*24:=by unfold N7;rw [List.length_drop,List.length_take]
  rw [e]
  refine ⟨by omega,by omega,rfl⟩
theorem D8o(dat:List Int)(j:Nat):dat.take (j*24)++N7 24 dat j=dat.take ((j+1)*24):=by
  have h:=List.take_append_drop (j*24) (dat.take (j*24+24))
  rw [List.take_take,Nat.min_eq_left (by omega)] at h
  rw [show (j+1)*24=j*24+24 by omega]
  exact h
theorem B6M{dat:List Int}{j:Nat}:j<nPc dat↔j*24<dat.length:=by
  unfold nPc
  omega
theorem C1i{st:A8}{id:ByteArray}{off:Int}{dat:List Int}(hc:E2c st id off dat){j:Nat}{s:A8}(h:F0R st id off dat j s)(hj:j<nPc dat) :
    P1 (s.2.1,s.2.2.1,2,id,off+((j*24:Nat):Int),N7 24 dat j)=true∧N6 s.2.2.2 (s.2.1,s.2.2.1,2,id,off+((j*24:Nat):Int),N7 24 dat j)=some (E5E s.2.2.2 id (N7 24 dat j))∧
      F0R st id off dat (j+1) (E8s s id (off+((j*24:Nat):Int)) (N7 24 dat j)):=by
  obtain ⟨p1,p2,p3⟩:=C0k dat j (B6M.1 hj)
  have hj2:=B6M.1 hj
  have hlen0:(List.length (dat.take (j*24)):Int)=((j*24:Nat):Int):=by rw [List.length_take];omega
  obtain ⟨hlt,_⟩:=L1.1 hc.has
  have hu:=hc.up.2.2 _ (List.getElem_mem hlt)
  rw [← C4 (k:=kUp) hlt] at hu
  have hu1:=hu.1
  have hu2:=hu.2.1
  have hat:=hc.at'
  have hft:=hc.fits
  have hn1:=hc.nx.1
  have hn2:=hc.nx.2
  have hl:=hc.len
  have hnx:=h.nx
  have hbp:Byt (N7 24 dat j):=B25 (A77 hc.byt _) _
  have hr:P1 (s.2.1,s.2.2.1,2,id,off+((j*24:Nat):Int),N7 24 dat j)=true:=by
    simp only [P1,hc.idok,h.ep]
    rw [A0 hc.ep,A0 (show 0≤s.2.2.1∧s.2.2.1≤199 by omega),if_neg (by omega),if_pos trivial,A0 (show 0≤off+((j*24:Nat):Int)∧off+((j*24:Nat):Int)≤1000000000 by omega),A0 (show 1≤(List.length (N7 24 dat j):Int)∧(List.length (N7 24 dat j):Int)≤24 by omega)]
    rfl
  have hf:N6 s.2.2.2 (s.2.1,s.2.2.1,2,id,off+((j*24:Nat):Int),N7 24 dat j)=some (E5E s.2.2.2 id (N7 24 dat j)):=by
    have e1:(List.length (rd kUp s.2.2.2 (B5 s.2.2.2 id:Int)).2.2.1:Int)=off+((j*24:Nat):Int):=by
      rw [h.val];simp only [List.length_append];omega
    have e2:(rd kUp s.2.2.2 (B5 s.2.2.2 id:Int)).2.2.2=false:=by rw [h.val]
    have e3:@Eq Int (rd kUp s.2.2.2 (B5 s.2.2.2 id:Int)).2.1 (rd kUp st.2.2.2 (B5 st.2.2.2 id:Int)).2.1:=by rw [h.val]
    simp only [N6,h.has,e2,E5E]
    rw [if_neg (by omega),if_neg (by simp),if_pos trivial,if_neg (fun hx=>by
      rcases hx with hx | hx | hx
      · cases hx
      · exact hx e1.symm
      · have hx2:(List.length (rd kUp s.2.2.2 (B5 s.2.2.2 id:Int)).2.2.1:Int)+(List.length (N7 24 dat j):Int)>(rd kUp st.2.2.2 (B5 st.2.2.2 id:Int)).2.1:=by rw [← e3];exact hx
        omega)]
  have hus:=B6K h.up ⟨hr,hbp⟩ hf
  obtain ⟨k1,k2,k3⟩:=E6S h.has ((rd kUp s.2.2.2 (B5 s.2.2.2 id:Int)).1,(rd kUp s.2.2.2 (B5 s.2.2.2 id:Int)).2.1,(rd kUp s.2.2.2 (B5 s.2.2.2 id:Int)).2.2.1++N7 24 dat j,(rd kUp s.2.2.2 (B5 s.2.2.2 id:Int)).2.2.2) rfl
  refine ⟨hr,hf,h.ep,?_,?_,E2b h.dk hr _,hus,k1,k2.trans h.ix,?_⟩
  · show s.2.2.1+1=st.2.2.1+((j+1:Nat):Int)
    omega
  · show (s.1.1.set _ _).length=_
    rw [List.length_set];exact h.len
  · show rd kUp (s.2.2.2.set (B5 s.2.2.2 id) _) ((B5 (s.2.2.2.set (B5 s.2.2.2 id) _) id:Nat):Int)=_
    rw [k2,k3,h.val]
    simp only [List.append_assoc,D8o]
theorem F1V{st:A8}{id:ByteArray}{off:Int}{dat:List Int}(hc:E2c st id off dat):F0R st id off dat 0 st:=
  ⟨rfl,by simp,rfl,hc.dk,hc.up,hc.has,rfl,by
    have e2:(rd kUp st.2.2.2 (B5 st.2.2.2 id:Int)).2.2.2=false:=hc.nd
    rw [Nat.zero_mul,List.take_zero,List.append_nil,← e2]⟩
theorem B7u{st:A8}{id:ByteArray}{off:Int}{dat:List Int}(hc:E2c st id off dat):∀ j,j≤nPc dat→F0R st id off dat j (putAt st id off dat j)
  | 0,_=>F1V hc
  | j+1,hj=>(C1i hc (B7u hc j (by omega)) (by omega)).2.2
theorem C9U{st:A8}{id:ByteArray}{off:Int}{dat:List Int}(hc:E2c st id off dat):∀ (k j:Nat),j+k=nPc dat→∀ o:Int,(j<nPc dat→o=off+((j*24:Nat):Int))→
    ∃ o',B8D (A0q C9 id) ((pieces 24 dat).drop j) (o,(putAt st id off dat j).2.1,(putAt st id off dat j).2.2.1,(putAt st id off dat j).1.1,(putAt st id off dat j).1.2,(putAt st id off dat j).2.2.2,()) =
      some (o',(putAt st id off dat (nPc dat)).2.1,(putAt st id off dat (nPc dat)).2.2.1,(putAt st id off dat (nPc dat)).1.1,(putAt st id off dat (nPc dat)).1.2,(putAt st id off dat (nPc dat)).2.2.2,())
  | 0,j,hj,o,_=>by
    rw [Nat.add_zero] at hj
    subst hj
    have:(pieces 24 dat).length=nPc dat:=by simp [pieces,nPc]
    rw [← this,List.drop_length]
    exact ⟨o,rfl⟩
  | k+1,j,hj,o,ho=>by
    have hlt:j<nPc dat:=by omega
    have hlen:(pieces 24 dat).length=nPc dat:=by simp [pieces,nPc]
    have hdrop:(pieces 24 dat).drop j=N7 24 dat j::(pieces 24 dat).drop (j+1):=by
      rw [List.drop_eq_getElem_cons (by omega)];simp [pieces]
    have ho:=ho hlt
    have hI:=B7u hc j (by omega)
    obtain ⟨hr,hf,hn⟩:=C1i hc hI hlt
    have hl:=hc.len
    have hn1:=hc.nx.1
    have hn2:=hc.nx.2
    have hnx:=hI.nx
    have hle:=hI.len
    obtain ⟨hlt',_⟩:=L1.1 hc.has
    have hu:=hc.up.2.2 _ (List.getElem_mem hlt')
    rw [← C4 (k:=kUp) hlt'] at hu
    have hu2:=hu.2.1
    have hat:=hc.at'
    have hft:=hc.fits
    obtain ⟨p1,p2,p3⟩:=C0k dat j (B6M.1 hlt)
    have hj2:=B6M.1 hlt
    have hw:=B3z (putAt st id off dat j) 2 id (off+((j*24:Nat):Int)) (N7 24 dat j) hI.up hr (B25 (A77 hc.byt _) _) (by omega) (by omega) (by omega) _ hf
    rw [hdrop]
    simp only [B8D,A0q]
    have hw':C9 (((putAt st id off dat j).1.1,(putAt st id off dat j).1.2),((putAt st id off dat j).2.1,((putAt st id off dat j).2.2.1,(putAt st id off dat j).2.2.2))) 2 id o (N7 24 dat j)=some (putAt st id off dat (j+1),()):=by
      rw [ho];exact hw
    rw [hw',w64 (by omega) (by omega)]
    simp only [A3]
    exact C9U hc k (j+1) (by omega) _ (fun hl2=>by have:=B6M.1 hl2;omega)
theorem E2d{st:A8}{id:ByteArray}{off:Int}{dat:List Int}(hc:E2c st id off dat)(h400:dat.length≤400) :
    B6 (A0y F5 dat id off) (0,st.2.1,st.2.2.1,st.2.2.2,st.1.1,st.1.2,()) =
      some ((putAt st id off dat (nPc dat)).2.1,(putAt st id off dat (nPc dat)).2.2.1,(putAt st id off dat (nPc dat)).2.2.2,(putAt st id off dat (nPc dat)).1.1,(putAt st id off dat (nPc dat)).1.2,()):=by
  obtain ⟨z,e,hz⟩:=A01 (A0y F5 dat id off) (fun l=>((dat.length:Int)+24-l.1).toNat)
    (fun l=>∃ j:Nat,j≤nPc dat∧l=(((j*24:Nat):Int),(putAt st id off dat j).2.1,(putAt st id off dat j).2.2.1,(putAt st id off dat j).2.2.2,(putAt st id off dat j).1.1,(putAt st id off dat j).1.2,()))
    (fun z=>z=((putAt st id off dat (nPc dat)).2.1,(putAt st id off dat (nPc dat)).2.2.1,(putAt st id off dat (nPc dat)).2.2.2,(putAt st id off dat (nPc dat)).1.1,(putAt st id off dat (nPc dat)).1.2,())) (fun l hl=>by
      obtain ⟨j,hj,rfl⟩:=hl
      have hI:=B7u hc j hj
      have hl:=hc.len
      have hn1:=hc.nx.1
      have hn2:=hc.nx.2
      have hnx:=hI.nx
      have hle:=hI.len
      obtain ⟨hlt',_⟩:=L1.1 hc.has
      have hu:=hc.up.2.2 _ (List.getElem_mem hlt')
      rw [← C4 (k:=kUp) hlt'] at hu
      have hu2:=hu.2.1
      have hat:=hc.at'
      have hft:=hc.fits
      simp only [A0y]
      by_cases hi:j<nPc dat
      · have hj2:=B6M.1 hi
        obtain ⟨hr,hf,hn⟩:=C1i hc hI hi
        obtain ⟨p1,p2,p3⟩:=C0k dat j hj2
        rw [A0 (show ((j*24:Nat):Int)<(dat.length:Int) by omega),w64 (n:=((j*24:Nat):Int)+24) (by omega) (by omega)]
        obtain ⟨to,hto,hto2⟩:∃ to:Int,(bif decide (((j*24:Nat):Int)+24>(dat.length:Int)) then some ((dat.length:Int),()) else some (((j*24:Nat):Int)+24,()))=some (to,())∧(to.toNat=min (j*24+24) dat.length∧0≤to):=by
          by_cases hcc:((j*24:Nat):Int)+24>(dat.length:Int)
          · rw [A0 hcc];exact ⟨_,rfl,by omega,by omega⟩
          · rw [A4 hcc];exact ⟨_,rfl,by omega,by omega⟩
        simp only [cond_true,hto,bO]
        have hpc:(dat.take to.toNat).drop ((j*24:Nat):Int).toNat=N7 24 dat j:=by
          rw [hto2.1,Int.toNat_natCast,N7,List.take_eq_take_iff.2 (show min (min (j*24+24) dat.length) dat.length=min (j*24+24) dat.length by omega)]
        rw [hpc,A0 (show 0≤((j*24:Nat):Int) by omega),A0 (show ((j*24:Nat):Int)≤to by omega),A0 (show to≤(dat.length:Int) by omega),A0 (by simp;omega),A0 (by simp;omega),w64 (n:=off+((j*24:Nat):Int)) (by omega) (by omega)]
        simp only [cond_true,List.nil_append]
        have hw:=B3y (putAt st id off dat j) 0 0 2 id (off+((j*24:Nat):Int)) (N7 24 dat j) hI.up hr (B25 (A77 hc.byt _) _) (by omega) (by omega) (by omega) _ hf
        have hw':F5 (((putAt st id off dat j).1.1,(putAt st id off dat j).1.2),((putAt st id off dat j).2.1,((putAt st id off dat j).2.2.1,(putAt st id off dat j).2.2.2))) (0,(0,(2,(id,(off+((j*24:Nat):Int),N7 24 dat j)))))=some (putAt st id off dat (j+1),()):=hw
        rw [hw']
        simp only [bO]
        refine .inl ⟨_,rfl,⟨j+1,by omega,?_⟩,by simp only;omega⟩
        rw [show ((j*24:Nat):Int)+24=(((j+1)*24:Nat):Int) by omega]
      · have:j=nPc dat:=by omega
        subst this
        have:¬ nPc dat*24<dat.length:=fun h=>hi (B6M.2 h)
        rw [A4 (show ¬ ((nPc dat*24:Nat):Int)<(dat.length:Int) by omega)]
        exact .inr ⟨_,rfl,rfl⟩) (0,st.2.1,st.2.2.1,st.2.2.2,st.1.1,st.1.2,()) ⟨0,by omega,rfl⟩
  rw [e,hz]
def A7c(st:A8)(id:ByteArray)(off:Int)(dat:List Int):A8×Int:=
  if idB id=true∧1≤dat.length∧dat.length≤400 then
    (if I3 st.2.2.2 id=true then
      (if (rd kUp st.2.2.2 (B5 st.2.2.2 id:Int)).2.2.2=true∨off≠(List.length (rd kUp st.2.2.2 (B5 st.2.2.2 id:Int)).2.2.1:Int)∨off+(dat.length:Int)>(rd kUp st.2.2.2 (B5 st.2.2.2 id:Int)).2.1 then (st,4)
       else if (st.1.1.length:Int)-st.2.2.1<(nPc dat:Int) then (st,5) else (putAt st id off dat (nPc dat),0))
     else (st,2))
  else (st,1)
theorem E8t(dat:List Int)(h:dat.length≤400):(IntKind.i64.wrap ((IntKind.i64.wrap ((IntKind.i64.wrap ((dat.length:Int)+24))-1)).tdiv 24))=(nPc dat:Int):=by
  have htd:((dat.length:Int)+24-1).tdiv 24=(nPc dat:Int):=by
    rw [Int.tdiv_eq_ediv_of_nonneg (by omega)]
    unfold nPc
    omega
  rw [w64 (n:=(dat.length:Int)+24) (by omega) (by omega),w64 (n:=(dat.length:Int)+24-1) (by omega) (by omega),htd,w64 (by unfold nPc;omega) (by unfold nPc;omega)]
structure Rt (st:A8):Prop where
  g:C9J st
  up:Ups st.2.2.2
  dk:A2Z st.1
theorem C1j{st:A8}{id:ByteArray}{off:Int}{dat:List Int}(h:Rt st)(hb:Byt dat)(h1:idB id=true)(h2:1≤dat.length∧dat.length≤400)(h3:I3 st.2.2.2 id=true)
    (h4:¬ ((rd kUp st.2.2.2 (B5 st.2.2.2 id:Int)).2.2.2=true∨off≠(List.length (rd kUp st.2.2.2 (B5 st.2.2.2 id:Int)).2.2.1:Int)∨off+(dat.length:Int)>(rd kUp st.2.2.2 (B5 st.2.2.2 id:Int)).2.1))
    (h5:¬ (st.1.1.length:Int)-st.2.2.1<(nPc dat:Int)):E2c st id off dat:=by
  obtain ⟨g1,g2,g3,g4,⟨g5,g6⟩,_⟩:=h.g
  rw [not_or,not_or] at h4
  refine ⟨h1,⟨g1,g2⟩,⟨g5,by omega⟩,g4,h.dk,h.up,h3,by simpa using h4.1,Decidable.not_not.1 h4.2.1,by have h6:=h4.2.2;exact Int.not_lt.1 h6,hb,h2.1⟩
theorem E2e(st:A8)(id:ByteArray)(off:Int)(dat:List Int)(hid:id.size≤maxLen)(h:Rt st)(hb:Byt dat)(hd:dat.length≤1048576)(ho:-9223372036854775808≤off∧off≤9223372036854775807) :
    A0W st id off dat=some ((A7c st id off dat).2,(A7c st id off dat).1,()):=by
  obtain ⟨g1,g2,g3,g4,⟨g5,g6⟩,_⟩:=h.g
  have hU:=h.up
  have hl:st.1.1.length≤1048576:=by omega
  have hul:=hU.2.1
  simp only [A0W,A7M,B3v id hid,L2,bO,A7c]
  cases hidb:idB id with
  | false=>simp [C2]
  | true=>
    simp only [Bool.not_true,cond_false,true_and]
    by_cases hlen:1≤(dat.length:Int)∧(dat.length:Int)≤400
    · rw [A0 hlen,if_pos (show 1≤dat.length∧dat.length≤400 by omega)]
      simp only [Bool.not_true,cond_false,C2]
      rw [A8P st.2.2.2 id (by simp only [maxLen];omega),B7s st g5 g6 hl,E8t dat (by omega)]
      cases hh:I3 st.2.2.2 id with
      | false=>
        simp only [Bool.false_eq_true,if_false,bO]
        rw [A0 (show (-1:Int)<0 by omega)]
        rfl
      | true=>
        obtain ⟨hlt,hid2⟩:=L1.1 hh
        have hu:=hU.2.2 _ (List.getElem_mem hlt)
        rw [← C4 (k:=kUp) hlt] at hu
        have hu1:=hu.1
        have hu2:=hu.2.1
        simp only [if_true,bO]
        rw [A4 (show ¬ (B5 st.2.2.2 id:Int)<0 by omega)]
        simp only [cond_false]
        cases hdn:(rd kUp st.2.2.2 (B5 st.2.2.2 id:Int)).2.2.2 with
        | true=>simp [bO]
        | false=>
          simp only [cond_false]
          cases ho':decide (off=(List.length (rd kUp st.2.2.2 (B5 st.2.2.2 id:Int)).2.2.1:Int)) with
          | false=>
            have ho:=of_decide_eq_false ho'
            rw [if_pos (.inr (.inl ho))]
            rfl
          | true=>
            have ho:=of_decide_eq_true ho'
            simp only [Bool.not_true,cond_false,bO]
            rw [w64 (n:=off+(dat.length:Int)) (by omega) (by omega)]
            by_cases hw:off+(dat.length:Int)>(rd kUp st.2.2.2 (B5 st.2.2.2 id:Int)).2.1
            · rw [A0 hw,if_pos (.inr (.inr hw))]
              rfl
            · have hno:¬ ((rd kUp st.2.2.2 (B5 st.2.2.2 id:Int)).2.2.2=true∨off≠(List.length (rd kUp st.2.2.2 (B5 st.2.2.2 id:Int)).2.2.1:Int)∨off+(dat.length:Int)>(rd kUp st.2.2.2 (B5 st.2.2.2 id:Int)).2.1):=by
                rw [hdn];rintro (hx | hx | hx)
                · cases hx
                · exact hx ho
                · exact hw hx
              have hno':=hno
              rw [hdn] at hno'
              rw [A4 hw,if_neg hno']
              simp only [cond_false,bO]
              by_cases hleft:(st.1.1.length:Int)-st.2.2.1<(nPc dat:Int)
              · rw [A0 hleft,if_pos hleft]
                rfl
              · rw [A4 hleft,if_neg hleft,A0 (show dat.length≤1152921504606846976 by omega)]
                simp only [cond_false,cond_true]
                have hc:=C1j h hb hidb ⟨by omega,by omega⟩ hh hno hleft
                obtain ⟨o',e⟩:=C9U hc (nPc dat) 0 (by omega) off (fun _=>by simp)
                rw [List.drop_zero] at e
                have e':B8D (A0q C9 id) (pieces 24 dat) (off,st.2.1,st.2.2.1,st.1.1,st.1.2,st.2.2.2,())=_:=e
                rw [e']
                rfl
    · rw [A4 hlen,if_neg (show ¬ (1≤dat.length∧dat.length≤400) by omega)]
      rfl
theorem E2f(st:A8)(id:ByteArray)(off:Int)(dat:List Int)(hid:id.size≤maxLen)(h:Rt st)(hS:A7b st)(hok:G2 st=some (true,()))(hb:Byt dat)(hd:dat.length≤1048576)(ho:-9223372036854775808≤off∧off≤9223372036854775807) :
    A0b st id off dat=some ((A7c st id off dat).1,(A7c st id off dat).2,()):=by
  obtain ⟨g1,g2,g3,g4,⟨g5,g6⟩,_⟩:=h.g
  have hU:=h.up
  have hl:st.1.1.length≤1048576:=by omega
  simp only [A0b,A7Y,A1h st hS,hok,A9N id hid,Q6,bO,A7c]
  cases hidb:idB id with
  | false=>simp [C2]
  | true=>
    simp only [Bool.not_true,cond_false,true_and]
    by_cases hlen:1≤(dat.length:Int)∧(dat.length:Int)≤400
    · rw [A0 hlen,if_pos (show 1≤dat.length∧dat.length≤400 by omega)]
      simp only [Bool.not_true,cond_false,C2]
      rw [C1h st.2.2.2 id hU,B7t st g5 g6 hl,E8t dat (by omega)]
      cases hh:I3 st.2.2.2 id with
      | false=>
        simp only [Bool.false_eq_true,if_false,bO]
        rw [A0 (show (-1:Int)<0 by omega)]
        rfl
      | true=>
        obtain ⟨hlt,hid2⟩:=L1.1 hh
        have hu:=hU.2.2 _ (List.getElem_mem hlt)
        rw [← C4 (k:=kUp) hlt] at hu
        have hu1:=hu.1
        have hu2:=hu.2.1
        simp only [if_true,bO]
        rw [A4 (show ¬ (B5 st.2.2.2 id:Int)<0 by omega),A0 (show (0:Int)≤(B5 st.2.2.2 id:Int) by omega),A0 (show (B5 st.2.2.2 id:Int)<(st.2.2.2.length:Int) by omega)]
        simp only [cond_true,cond_false]
        cases hdn:(rd kUp st.2.2.2 (B5 st.2.2.2 id:Int)).2.2.2 with
        | true=>simp [bO]
        | false=>
          simp only [cond_false]
          cases ho':decide (off=(List.length (rd kUp st.2.2.2 (B5 st.2.2.2 id:Int)).2.2.1:Int)) with
          | false=>
            have ho:=of_decide_eq_false ho'
            rw [if_pos (.inr (.inl ho))]
            rfl
          | true=>
            have ho:=of_decide_eq_true ho'
            simp only [Bool.not_true,cond_false,bO]
            rw [w64 (n:=off+(dat.length:Int)) (by omega) (by omega)]
            by_cases hw:off+(dat.length:Int)>(rd kUp st.2.2.2 (B5 st.2.2.2 id:Int)).2.1
            · rw [A0 hw,if_pos (.inr (.inr hw))]
              rfl
            · have hno:¬ ((rd kUp st.2.2.2 (B5 st.2.2.2 id:Int)).2.2.2=true∨off≠(List.length (rd kUp st.2.2.2 (B5 st.2.2.2 id:Int)).2.2.1:Int)∨off+(dat.length:Int)>(rd kUp st.2.2.2 (B5 st.2.2.2 id:Int)).2.1):=by
                rw [hdn];rintro (hx | hx | hx)
                · cases hx
                · exact hx ho
                · exact hw hx
              have hno':=hno
              rw [hdn] at hno'
              rw [A4 hw,if_neg hno']
              simp only [cond_false,bO]
              by_cases hleft:(st.1.1.length:Int)-st.2.2.1<(nPc dat:Int)
              · rw [A0 hleft,if_pos hleft]
                rfl
              · rw [A4 hleft,if_neg hleft]
                simp only [cond_false]
                have hc:=C1j h hb hidb ⟨by omega,by omega⟩ hh hno hleft
                rw [E2d hc (by omega)]
                rfl
    · rw [A4 hlen,if_neg (show ¬ (1≤dat.length∧dat.length≤400) by omega)]
      rfl
theorem D8p{st:A8}{id:ByteArray}{off:Int}{dat:List Int}(h:Rt st)(hb:Byt dat):Ups (A7c st id off dat).1.2.2.2∧A2Z (A7c st id off dat).1.1:=by
  unfold A7c
  split
  · rename_i h1
    split
    · rename_i h3
      split
      · exact ⟨h.up,h.dk⟩
      · rename_i h4
        split
        · exact ⟨h.up,h.dk⟩
        · rename_i h5
          have:=B7u (C1j h hb h1.1 h1.2 h3 h4 h5) _ (Nat.le_refl _)
          exact ⟨this.up,this.dk⟩
    · exact ⟨h.up,h.dk⟩
  · exact ⟨h.up,h.dk⟩
theorem E2g{s:A8}(hd:A2Z s.1)(hu:Ups s.2.2.2):A7b s:=⟨hd,by have:=hu.2.1;omega,B3x hu⟩
def A5K(st:A8)(id:ByteArray)(want:Int):A8×Int:=
  if idB id=true∧0≤want∧want≤1000000 then
    (if I3 st.2.2.2 id=true then (st,3)
     else if (st.1.1.length:Int)-st.2.2.1<1∨10≤st.2.2.2.length then (st,5)
     else (wrote st (st.2.1,st.2.2.1,1,id,want,[]) (st.2.2.2.take (B5 st.2.2.2 id)++(id,want,[],false)::st.2.2.2.drop (B5 st.2.2.2 id)),0))
  else (st,1)
def A5L(st:A8)(id:ByteArray)(sum:Int):A8×Int:=
  if idB id=true then
    (if I3 st.2.2.2 id=true then
      (if (List.length (rd kUp st.2.2.2 (B5 st.2.2.2 id:Int)).2.2.1:Int)<(rd kUp st.2.2.2 (B5 st.2.2.2 id:Int)).2.1 then (st,4)
       else if sum≠((B1U (rd kUp st.2.2.2 (B5 st.2.2.2 id:Int)).2.2.1 ^^^ 4294967295:Nat):Int) then (st,6)
       else if (rd kUp st.2.2.2 (B5 st.2.2.2 id:Int)).2.2.2=true then (st,0)
       else if (st.1.1.length:Int)-st.2.2.1<1 then (st,5)
       else (wrote st (st.2.1,st.2.2.1,3,id,0,[]) (st.2.2.2.set (B5 st.2.2.2 id) ((rd kUp st.2.2.2 (B5 st.2.2.2 id:Int)).1,(rd kUp st.2.2.2 (B5 st.2.2.2 id:Int)).2.1,(rd kUp st.2.2.2 (B5 st.2.2.2 id:Int)).2.2.1,true)),0))
     else (st,2))
  else (st,1)
def A5M(st:A8)(id:ByteArray):A8×Int:=
  if idB id=true then
    (if I3 st.2.2.2 id=true then
      (if (st.1.1.length:Int)-st.2.2.1<1 then (st,5)
       else (wrote st (st.2.1,st.2.2.1,4,id,0,[]) (st.2.2.2.take (B5 st.2.2.2 id)++st.2.2.2.drop (B5 st.2.2.2 id+1)),0))
     else (st,2))
  else (st,1)
theorem B40{st:A8}(h:C9J st)(k n:Int)(id:ByteArray)(hid:idB id=true)(hl:¬ (st.1.1.length:Int)-st.2.2.1<1)(hk:k=1∧0≤n∧n≤1000000000∨(k=3∨k=4)∧n=0):P1 (st.2.1,st.2.2.1,k,id,n,[])=true:=by
  obtain ⟨g1,g2,g3,g4,⟨g5,g6⟩,_⟩:=h
  simp only [P1,hid,List.length_nil]
  rw [A0 (show 0≤st.2.1∧st.2.1≤10000 by omega),A0 (show 0≤st.2.2.1∧st.2.2.1≤199 by omega)]
  rcases hk with ⟨rfl,h0,h1⟩ | ⟨rfl | rfl,rfl⟩
  · rw [if_pos rfl,A0 (show 0≤n∧n≤1000000000 from ⟨h0,h1⟩)];rfl
  · rfl
  · rfl
theorem C3y{st:A8}{id:ByteArray}{want:Int}(h1:¬ I3 st.2.2.2 id=true)(h2:¬ 10≤st.2.2.2.length):N6 st.2.2.2 (st.2.1,st.2.2.1,1,id,want,[])=some (st.2.2.2.take (B5 st.2.2.2 id)++(id,want,[],false)::st.2.2.2.drop (B5 st.2.2.2 id)):=by
  simp only [N6,if_true]
  rw [if_neg (fun h=>h.elim h1 h2)]
theorem C3z{st:A8}{id:ByteArray}(hU:Ups st.2.2.2)(h1:I3 st.2.2.2 id=true)(h2:¬ (List.length (rd kUp st.2.2.2 (B5 st.2.2.2 id:Int)).2.2.1:Int)<(rd kUp st.2.2.2 (B5 st.2.2.2 id:Int)).2.1)(h3:¬ (rd kUp st.2.2.2 (B5 st.2.2.2 id:Int)).2.2.2=true) :
    N6 st.2.2.2 (st.2.1,st.2.2.1,3,id,0,[])=some (st.2.2.2.set (B5 st.2.2.2 id) ((rd kUp st.2.2.2 (B5 st.2.2.2 id:Int)).1,(rd kUp st.2.2.2 (B5 st.2.2.2 id:Int)).2.1,(rd kUp st.2.2.2 (B5 st.2.2.2 id:Int)).2.2.1,true)):=by
  obtain ⟨hlt,hid2⟩:=L1.1 h1
  have hu:=hU.2.2 _ (List.getElem_mem hlt)
  rw [← C4 (k:=kUp) hlt] at hu
  have hu1:=hu.1
  simp only [N6,h1]
  rw [if_neg (by omega),if_neg (by simp),if_neg (by omega),if_pos trivial,if_neg (fun h=>h.elim h3 (fun h=>h (Int.le_antisymm hu1 (Int.not_lt.1 h2))))]
theorem C40{st:A8}{id:ByteArray}(h1:I3 st.2.2.2 id=true):N6 st.2.2.2 (st.2.1,st.2.2.1,4,id,0,[])=some (st.2.2.2.take (B5 st.2.2.2 id)++st.2.2.2.drop (B5 st.2.2.2 id+1)):=by
  simp only [N6,h1]
  rw [if_neg (by omega),if_neg (by simp),if_neg (by omega),if_neg (by omega),if_pos trivial]
theorem D8q(st:A8)(id:ByteArray)(want:Int)(hid:id.size≤maxLen)(h:Rt st):Z3 st id want=some ((A5K st id want).2,(A5K st id want).1,()):=by
  obtain ⟨g1,g2,g3,g4,⟨g5,g6⟩,_⟩:=h.g
  have hU:=h.up
  have hl:st.1.1.length≤1048576:=by omega
  have hul:=hU.2.1
  simp only [Z3,A5a,B3v id hid,L2,bO,A5K]
  cases hidb:idB id with
  | false=>simp [C2,bO]
  | true=>
    simp only [Bool.not_true,cond_false,true_and]
    by_cases hw:0≤want∧want≤1000000
    · rw [A0 hw,if_pos hw]
      simp only [Bool.not_true,cond_false,C2]
      rw [A8P st.2.2.2 id (by simp only [maxLen];omega),B7s st g5 g6 hl]
      cases hh:I3 st.2.2.2 id with
      | true=>
        simp only [if_true,bO]
        rw [A4 (show ¬ (B5 st.2.2.2 id:Int)<0 by omega)]
        rfl
      | false=>
        simp only [Bool.false_eq_true,if_false,bO]
        rw [A0 (show (-1:Int)<0 by omega)]
        simp only [cond_true]
        by_cases hleft:(st.1.1.length:Int)-st.2.2.1<1
        · rw [A0 hleft,if_pos (.inl hleft)]
          rfl
        · rw [A4 hleft]
          simp only [cond_false]
          by_cases h10:10≤st.2.2.2.length
          · rw [A0 (show (st.2.2.2.length:Int)≥10 by omega),if_pos (.inr h10)]
            rfl
          · rw [A4 (show ¬ (st.2.2.2.length:Int)≥10 by omega),if_neg (fun hx=>hx.elim hleft h10)]
            simp only [cond_false]
            have hr:=B40 h.g 1 want id hidb hleft (.inl ⟨rfl,hw.1,by omega⟩)
            have hf:=C3y (st:=st) (id:=id) (want:=want) (by rw [hh];simp) h10
            rw [B3z st 1 id want [] hU hr A28 g5 (by omega) hl _ hf]
            rfl
    · rw [A4 hw,if_neg hw]
      rfl
theorem D8r(st:A8)(id:ByteArray)(want:Int)(hid:id.size≤maxLen)(h:Rt st)(hS:A7b st)(hok:G2 st=some (true,())):Z8 st id want=some ((A5K st id want).1,(A5K st id want).2,()):=by
  obtain ⟨g1,g2,g3,g4,⟨g5,g6⟩,_⟩:=h.g
  have hU:=h.up
  have hl:st.1.1.length≤1048576:=by omega
  have hul:=hU.2.1
  simp only [Z8,A5l,A1h st hS,hok,A9N id hid,Q6,bO,A5K]
  cases hidb:idB id with
  | false=>simp [C2,bO]
  | true=>
    simp only [Bool.not_true,cond_false,true_and]
    by_cases hw:0≤want∧want≤1000000
    · rw [A0 hw,if_pos hw]
      simp only [Bool.not_true,cond_false,C2]
      rw [C1h st.2.2.2 id hU,B7t st g5 g6 hl]
      cases hh:I3 st.2.2.2 id with
      | true=>
        simp only [if_true,bO]
        rw [A0 (show (B5 st.2.2.2 id:Int)≥0 by omega)]
        rfl
      | false=>
        simp only [Bool.false_eq_true,if_false,bO]
        rw [A4 (show ¬ (-1:Int)≥0 by omega)]
        simp only [cond_false]
        by_cases hleft:(st.1.1.length:Int)-st.2.2.1<1
        · rw [A0 hleft,if_pos (.inl hleft)]
          rfl
        · rw [A4 hleft]
          simp only [cond_false]
          by_cases h10:10≤st.2.2.2.length
          · rw [A0 (show (st.2.2.2.length:Int)=10 by omega),if_pos (.inr h10)]
            rfl
          · rw [A4 (show ¬ (st.2.2.2.length:Int)=10 by omega),if_neg (fun hx=>hx.elim hleft h10)]
            simp only [cond_false]
            have hr:=B40 h.g 1 want id hidb hleft (.inl ⟨rfl,hw.1,by omega⟩)
            have hf:=C3y (st:=st) (id:=id) (want:=want) (by rw [hh];simp) h10
            rw [B3y st 0 0 1 id want [] hU hr A28 g5 (by omega) hl _ hf]
            rfl
    · rw [A4 hw,if_neg hw]
      rfl
theorem D8s(st:A8)(id:ByteArray)(sum:Int)(hid:id.size≤maxLen)(h:Rt st):Z4 st id sum=some ((A5L st id sum).2,(A5L st id sum).1,()):=by
  obtain ⟨g1,g2,g3,g4,⟨g5,g6⟩,_⟩:=h.g
  have hU:=h.up
  have hl:st.1.1.length≤1048576:=by omega
  have hul:=hU.2.1
  simp only [Z4,A5b,B3v id hid,bO,A5L]
  cases hidb:idB id with
  | false=>rfl
  | true=>
    simp only [Bool.not_true,cond_false,if_true]
    rw [A8P st.2.2.2 id (by simp only [maxLen];omega),B7s st g5 g6 hl]
    cases hh:I3 st.2.2.2 id with
    | false=>
      simp only [Bool.false_eq_true,if_false,bO]
      rw [A0 (show (-1:Int)<0 by omega)]
      rfl
    | true=>
      obtain ⟨hlt,hid2⟩:=L1.1 hh
      have hu:=hU.2.2 _ (List.getElem_mem hlt)
      have hdl:=B3x hU _ (List.getElem_mem hlt)
      rw [← C4 (k:=kUp) hlt] at hu hdl
      simp only [if_true,bO]
      rw [A4 (show ¬ (B5 st.2.2.2 id:Int)<0 by omega)]
      simp only [cond_false]
      rw [C9A _ hu.2.2.2 (by simp only [maxLen];omega)]
      simp only [bO]
      by_cases hd1:(List.length (rd kUp st.2.2.2 (B5 st.2.2.2 id:Int)).2.2.1:Int)<(rd kUp st.2.2.2 (B5 st.2.2.2 id:Int)).2.1
      · rw [A0 hd1,if_pos hd1]
        rfl
      rw [A4 hd1,if_neg hd1]
      simp only [cond_false]
      by_cases hc:sum=((B1U (rd kUp st.2.2.2 (B5 st.2.2.2 id:Int)).2.2.1 ^^^ 4294967295:Nat):Int)
      · rw [A0 hc,if_neg (fun hx=>hx hc)]
        simp only [Bool.not_true,cond_false]
        cases hdn:(rd kUp st.2.2.2 (B5 st.2.2.2 id:Int)).2.2.2 with
        | true=>rfl
        | false=>
          simp only [Bool.not_false,cond_true,cond_false,Bool.false_eq_true,if_false,bO]
          by_cases hleft:(st.1.1.length:Int)-st.2.2.1<1
          · rw [A0 hleft,if_pos hleft]
            rfl
          · rw [A4 hleft,if_neg hleft]
            simp only [cond_false]
            have hr:=B40 h.g 3 0 id hidb hleft (.inr ⟨.inl rfl,rfl⟩)
            have hf:=C3z hU hh hd1 (by rw [hdn];simp)
            have hwi:C9 ((st.1.1,st.1.2),(st.2.1,(st.2.2.1,st.2.2.2))) 3 id 0 []=_:=B3z st 3 id 0 [] hU hr A28 g5 (by omega) hl _ hf
            simp only [C2,Bool.not_false,cond_true]
            rw [hwi]
            rfl
      · rw [A4 hc,if_pos hc]
        rfl
theorem D8t(st:A8)(id:ByteArray)(sum:Int)(hid:id.size≤maxLen)(h:Rt st)(hS:A7b st)(hok:G2 st=some (true,())):Z9 st id sum=some ((A5L st id sum).1,(A5L st id sum).2,()):=by
  obtain ⟨g1,g2,g3,g4,⟨g5,g6⟩,_⟩:=h.g
  have hU:=h.up
  have hl:st.1.1.length≤1048576:=by omega
  have hul:=hU.2.1
  simp only [Z9,A5m,A1h st hS,hok,A9N id hid,bO,A5L]
  cases hidb:idB id with
  | false=>rfl
  | true=>
    simp only [Bool.not_true,cond_false,C2,if_true]
    rw [C1h st.2.2.2 id hU,B7t st g5 g6 hl]
    cases hh:I3 st.2.2.2 id with
    | false=>
      simp only [Bool.false_eq_true,if_false,bO]
      rw [A0 (show (-1:Int)<0 by omega)]
      rfl
    | true=>
      obtain ⟨hlt,hid2⟩:=L1.1 hh
      have hu:=hU.2.2 _ (List.getElem_mem hlt)
      have hdl:=B3x hU _ (List.getElem_mem hlt)
      rw [← C4 (k:=kUp) hlt] at hu hdl
      simp only [if_true,bO]
      rw [A4 (show ¬ (B5 st.2.2.2 id:Int)<0 by omega),A0 (show (0:Int)≤(B5 st.2.2.2 id:Int) by omega),A0 (show (B5 st.2.2.2 id:Int)<(st.2.2.2.length:Int) by omega)]
      simp only [cond_true,cond_false]
      rw [C99 _ hu.2.2.2 (by simp only [maxLen];omega)]
      simp only [bO]
      by_cases hd1:(List.length (rd kUp st.2.2.2 (B5 st.2.2.2 id:Int)).2.2.1:Int)<(rd kUp st.2.2.2 (B5 st.2.2.2 id:Int)).2.1
      · rw [A0 hd1,if_pos hd1]
        rfl
      rw [A4 hd1,if_neg hd1]
      simp only [cond_false]
      by_cases hc:sum=((B1U (rd kUp st.2.2.2 (B5 st.2.2.2 id:Int)).2.2.1 ^^^ 4294967295:Nat):Int)
      · rw [A0 hc,if_neg (fun hx=>hx hc)]
        simp only [Bool.not_true,cond_false]
        cases hdn:(rd kUp st.2.2.2 (B5 st.2.2.2 id:Int)).2.2.2 with
        | true=>rfl
        | false=>
          simp only [Bool.not_false,cond_true,cond_false,Bool.false_eq_true,if_false,bO]
          by_cases hleft:(st.1.1.length:Int)-st.2.2.1<1
          · rw [A0 hleft,if_pos hleft]
            rfl
          · rw [A4 hleft,if_neg hleft]
            simp only [cond_false]
            have hr:=B40 h.g 3 0 id hidb hleft (.inr ⟨.inl rfl,rfl⟩)
            have hf:=C3z hU hh hd1 (by rw [hdn];simp)
            rw [B3y st 0 0 3 id 0 [] hU hr A28 g5 (by omega) hl _ hf]
            rfl
      · rw [A4 hc,if_pos hc]
        rfl
theorem D8u(st:A8)(id:ByteArray)(hid:id.size≤maxLen)(h:Rt st):Z5 st id=some ((A5M st id).2,(A5M st id).1,()):=by
  obtain ⟨g1,g2,g3,g4,⟨g5,g6⟩,_⟩:=h.g
  have hU:=h.up
  have hl:st.1.1.length≤1048576:=by omega
  have hul:=hU.2.1
  simp only [Z5,A5c,B3v id hid,bO,A5M]
  cases hidb:idB id with
  | false=>rfl
  | true=>
    simp only [Bool.not_true,cond_false,if_true,C2]
    rw [A8P st.2.2.2 id (by simp only [maxLen];omega),B7s st g5 g6 hl]
    cases hh:I3 st.2.2.2 id with
    | false=>
      simp only [Bool.false_eq_true,if_false,bO]
      rw [A0 (show (-1:Int)<0 by omega)]
      rfl
    | true=>
      simp only [if_true,bO]
      rw [A4 (show ¬ (B5 st.2.2.2 id:Int)<0 by omega)]
      simp only [cond_false,Bool.not_true]
      by_cases hleft:(st.1.1.length:Int)-st.2.2.1<1
      · rw [A0 hleft,if_pos hleft]
        rfl
      · rw [A4 hleft,if_neg hleft]
        simp only [cond_false]
        have hr:=B40 h.g 4 0 id hidb hleft (.inr ⟨.inr rfl,rfl⟩)
        have hf:=C40 (st:=st) hh
        have hwi:C9 ((st.1.1,st.1.2),(st.2.1,(st.2.2.1,st.2.2.2))) 4 id 0 []=_:=B3z st 4 id 0 [] hU hr A28 g5 (by omega) hl _ hf
        rw [hwi]
        rfl
theorem D8v(st:A8)(id:ByteArray)(hid:id.size≤maxLen)(h:Rt st)(hS:A7b st)(hok:G2 st=some (true,())):A00 st id=some ((A5M st id).1,(A5M st id).2,()):=by
  obtain ⟨g1,g2,g3,g4,⟨g5,g6⟩,_⟩:=h.g
  have hU:=h.up
  have hl:st.1.1.length≤1048576:=by omega
  have hul:=hU.2.1
  simp only [A00,A5n,A1h st hS,hok,A9N id hid,bO,A5M]
  cases hidb:idB id with
  | false=>rfl
  | true=>
    simp only [Bool.not_true,cond_false,C2,if_true]
    rw [C1h st.2.2.2 id hU,B7t st g5 g6 hl]
    cases hh:I3 st.2.2.2 id with
    | false=>
      simp only [Bool.false_eq_true,if_false,bO]
      rw [A0 (show (-1:Int)<0 by omega)]
      rfl
    | true=>
      simp only [if_true,bO]
      rw [A4 (show ¬ (B5 st.2.2.2 id:Int)<0 by omega)]
      simp only [cond_false]
      by_cases hleft:(st.1.1.length:Int)-st.2.2.1<1
      · rw [A0 hleft,if_pos hleft]
        rfl
      · rw [A4 hleft,if_neg hleft]
        simp only [cond_false]
        have hr:=B40 h.g 4 0 id hidb hleft (.inr ⟨.inr rfl,rfl⟩)
        have hf:=C40 (st:=st) hh
        rw [B3y st 0 0 4 id 0 [] hU hr A28 g5 (by omega) hl _ hf]
        rfl
theorem D2N{xs:List Int}(h:Byt xs):bytesOf (strOf xs)=xs:=by
  show ((strOfNums xs).data.toList.map fun b=>(b.toNat:Int))=xs
  rw [strOfNums_data,List.map_map]
  refine (List.map_congr_left fun x hx=>?_).trans (List.map_id _)
  have:=h x hx
  simp only [Function.comp,id]
  have e:(UInt8.ofNat x.toNat).toNat=x.toNat % 256:=UInt8.toNat_ofNat
  rw [e]
  omega
theorem D2O(s:ByteArray):strOf (bytesOf s)=s:=by
  refine E5C ?_
  rw [ByteArray.toList_eq,ByteArray.toList_eq]
  show ((bytesOf s).map fun n=>UInt8.ofNat n.toNat)=s.data.toList
  rw [bytesOf,List.map_map]
  refine (List.map_congr_left fun x hx=>?_).trans (List.map_id _)
  simp
theorem D8w(n:Nat):IntKind.u8.wrap (n:Int)=((n % 256:Nat):Int):=by
  simp only [IntKind.wrap,IntKind.bits,IntKind.signed]
  simp
theorem D8x(x y:Nat)(h:y<256):(x*256) ||| y=x*256+y:=by
  have:=Nat.two_pow_add_eq_or_of_lt (i:=8) (b:=y) (by simpa using h) x
  rw [Nat.mul_comm x 256]
  exact this.symm
theorem D8y(p q:List Int)(n k:Nat):∀ j,j≤k→V5 (p++(big (n:Int) k++q)) p.length j=n / 2 ^ (8*(k-j)) % 2 ^ (8*j)
  | 0,_=>by simp [V5,Nat.mod_one]
  | j+1,hj=>by
    have ih:=D8y p q n k j (by omega)
    have hget:(p++(big (n:Int) k++q)).getD (p.length+j) 0=C96 (n:Int) k j:=by
      simp only [List.getD]
      rw [List.getElem?_append_right (by omega),Nat.add_sub_cancel_left,List.getElem?_append_left (by rw [J6];omega)]
      simp only [big,List.getElem?_map,List.getElem?_range (show j<k by omega),Option.map_some,Option.getD_some]
    have hat:C96 (n:Int) k j=((n / 2 ^ (8*(k-1-j)) % 256:Nat):Int):=by
      unfold C96
      rw [← D8w]
      congr 1
      rw [show (2:Int) ^ (8*(k-1-j))=((2 ^ (8*(k-1-j)):Nat):Int) by rw [Int.natCast_pow];rfl,Int.fdiv_eq_ediv_of_nonneg _ (Int.natCast_nonneg _),← Int.natCast_ediv]
    simp only [V5]
    rw [ih,hget,hat,Int.toNat_natCast,D8x _ _ (Nat.mod_lt _ (by omega))]
    rw [show k-1-j=k-(j+1) by omega]
    have e1:2 ^ (8*(k-j))=2 ^ (8*(k-(j+1)))*256:=by rw [show 8*(k-j)=8*(k-(j+1))+8 by omega,Nat.pow_add]
    have e2:2 ^ (8*(j+1))=256*2 ^ (8*j):=by rw [show 8*(j+1)=8+8*j by omega,Nat.pow_add]
    rw [e1,← Nat.div_div_eq_div_mul,e2,Nat.mod_mul]
    omega
theorem A8Q{b:List Int}(p q:List Int)(n:Int)(k a:Nat)(h:b=p++(big n k++q))(ha:a=p.length)(h0:0≤n)(h1:n<2 ^ (8*k)):(V5 b a k:Int)=n:=by
  subst h;subst ha
  obtain ⟨m,rfl⟩:∃ m:Nat,n=(m:Int):=⟨n.toNat,by omega⟩
  rw [D8y p q m k k (Nat.le_refl _),Nat.sub_self,Nat.mul_zero,Nat.pow_zero,Nat.div_one]
  rw [show (2:Int) ^ (8*k)=((2 ^ (8*k):Nat):Int) by rw [Int.natCast_pow];rfl] at h1
  rw [Nat.mod_eq_of_lt (by omega)]
theorem D63{r:H7}(h:C0j r):bytesOf (V8 r)=B4y r++big (A02 (F1T (B4y r))) 4:=by
  unfold V8
  exact D2N (D5x (C9E r h.2) (E56 _ _))
theorem F0S{r:H7}(h:P1 r=true)(c:List Int):B4y r++c=big r.1 3++(big r.2.1 2++(big r.2.2.1 1++(big (r.2.2.2.1.size:Int) 1++(bytesOf r.2.2.2.1++(big r.2.2.2.2.1 4++(big (List.length r.2.2.2.2.2:Int) 1++(r.2.2.2.2.2++c))))))):=by
  have hb:=A03 h
  have hq:0≤r.2.1:=by
    simp only [P1,Bool.and_eq_true] at h
    exact (of_decide_eq_true h.1.1.2).1
  unfold B4y
  rw [A4x (n:=r.1) (by omega),A4x (n:=r.2.1) hq,A4x (n:=r.2.2.1) (by omega),A4x (n:=(r.2.2.2.1.size:Int)) (by omega),A4x (n:=r.2.2.2.2.1) (by omega),A4x (n:=(List.length r.2.2.2.2.2:Int)) (by omega)]
  simp only [List.append_assoc]
theorem E6U{r:H7}(h:P1 r=true):0≤r.2.1∧r.2.1≤199:=by
  simp only [P1,Bool.and_eq_true] at h
  exact of_decide_eq_true h.1.1.2
theorem E6V{r:H7}(h:P1 r=true)(c:List Int):E1 (B4y r++c)=r.2.2.2.1.size∧O2 (B4y r++c)=List.length r.2.2.2.2.2∧recAt (B4y r++c)=r:=by
  have hb:=A03 h
  have hq:=E6U h
  have e:=F0S h c
  generalize B4y r++c=b at e
  have b6:(V5 b 6 1:Int)=(r.2.2.2.1.size:Int):=A8Q (big r.1 3++(big r.2.1 2++big r.2.2.1 1)) _ _ 1 6 (by rw [e];simp only [List.append_assoc];rfl) (by simp [J6]) (by omega) (by omega)
  have hid:E1 b=r.2.2.2.1.size:=by unfold E1;omega
  have b11:(V5 b (11+E1 b) 1:Int)=(List.length r.2.2.2.2.2:Int):=
    A8Q (big r.1 3++(big r.2.1 2++(big r.2.2.1 1++(big (r.2.2.2.1.size:Int) 1++(bytesOf r.2.2.2.1++big r.2.2.2.2.1 4))))) _ _ 1 _ (by rw [e];simp only [List.append_assoc];rfl) (by simp [J6,bytesOf_length,hid];omega) (by omega) (by omega)
  have hdl:O2 b=List.length r.2.2.2.2.2:=by unfold O2;omega
  refine ⟨hid,hdl,?_⟩
  have b0:(V5 b 0 3:Int)=r.1:=A8Q [] _ _ 3 0 (by rw [e];rfl) rfl (by omega) (by omega)
  have b3:(V5 b 3 2:Int)=r.2.1:=A8Q (big r.1 3) _ _ 2 3 (by rw [e]) (by simp [J6]) (by omega) (by omega)
  have b5:(V5 b 5 1:Int)=r.2.2.1:=A8Q (big r.1 3++big r.2.1 2) _ _ 1 5 (by rw [e];simp only [List.append_assoc];rfl) (by simp [J6]) (by omega) (by omega)
  have b7:(V5 b (7+E1 b) 4:Int)=r.2.2.2.2.1:=A8Q (big r.1 3++(big r.2.1 2++(big r.2.2.1 1++(big (r.2.2.2.1.size:Int) 1++bytesOf r.2.2.2.1)))) _ _ 4 _ (by rw [e];simp only [List.append_assoc];rfl) (by simp [J6,bytesOf_length,hid];omega) (by omega) (by omega)
  have t1:(b.take (7+E1 b)).drop 7=bytesOf r.2.2.2.1:=by
    have e7:b=(big r.1 3++(big r.2.1 2++(big r.2.2.1 1++big (r.2.2.2.1.size:Int) 1)))++(bytesOf r.2.2.2.1++(big r.2.2.2.2.1 4++(big (List.length r.2.2.2.2.2:Int) 1++(r.2.2.2.2.2++c)))):=by rw [e];simp only [List.append_assoc]
    have hl7:(big r.1 3++(big r.2.1 2++(big r.2.2.1 1++big (r.2.2.2.1.size:Int) 1))).length=7:=by simp [J6]
    rw [hid,List.drop_take,Nat.add_sub_cancel_left,e7,← hl7,List.drop_left,← bytesOf_length,List.take_left]
  have t2:(b.take (12+E1 b+O2 b)).drop (12+E1 b)=r.2.2.2.2.2:=by
    have e12:b=(big r.1 3++(big r.2.1 2++(big r.2.2.1 1++(big (r.2.2.2.1.size:Int) 1++(bytesOf r.2.2.2.1++(big r.2.2.2.2.1 4++big (List.length r.2.2.2.2.2:Int) 1))))))++(r.2.2.2.2.2++c):=by rw [e];simp only [List.append_assoc]
    have hl12:(big r.1 3++(big r.2.1 2++(big r.2.2.1 1++(big (r.2.2.2.1.size:Int) 1++(bytesOf r.2.2.2.1++(big r.2.2.2.2.1 4++big (List.length r.2.2.2.2.2:Int) 1)))))).length=12+r.2.2.2.1.size:=by simp [J6,bytesOf_length];omega
    rw [hid,hdl,List.drop_take,Nat.add_sub_cancel_left,e12,← hl12,List.drop_left,List.take_left]
  unfold recAt
  rw [b0,b3,b5,b7,t1,t2,D2O]
theorem C9V{r:H7}(h:C0j r):F9 (V8 r)=(r,true,()):=by
  have hpb:=D63 h
  obtain ⟨h1,h2,h3⟩:=E6V h.1 (big (A02 (F1T (B4y r))) 4)
  have hsz:(V8 r).size=12+r.2.2.2.1.size+List.length r.2.2.2.2.2+4:=by
    unfold V8
    rw [A5q,List.length_append,B6H,J6]
  have hg:B3w (V8 r)=true:=by
    unfold B3w
    rw [hpb,h1,h2,h3,hsz,A0 (by omega),h.1]
    simp
  unfold F9
  rw [if_pos hg,hpb,h3]
theorem E6W{r:H7}(h:P1 r=true):(V8 r).size≤64:=by
  have hb:=A03 h
  unfold V8
  rw [A5q,List.length_append,B6H,J6]
  omega
def A9O(last:Int)(i:Nat)(s:ByteArray):Bool:=(F9 s).2.1&&decide ((F9 s).1.2.1=(i:Int))&&!decide ((F9 s).1.1<last)
def R3(last:Int)(i:Nat):List ByteArray→List H7
  | []=> []
  | s::l=>if A9O last i s=true then (F9 s).1::R3 (F9 s).1.1 (i+1) l else []
def G4(now:List ByteArray):List H7:=R3 0 0 now
def B0Y:Int→List H7→Int
  | e,[]=>e
  | _,r::l=>B0Y r.1 l
theorem B27(last:Int)(i:Nat)(l:List ByteArray):(R3 last i l).length≤l.length:=by
  induction l generalizing last i with
  | nil=>exact Nat.le_refl _
  | cons s l ih=>
    simp only [R3]
    split
    · have:=ih (F9 s).1.1 (i+1);simp only [List.length_cons];omega
    · simp
theorem B41(last:Int)(i:Nat)(l:List ByteArray):∀ r∈R3 last i l,C0j r:=by
  induction l generalizing last i with
  | nil=>intro r hr;cases hr
  | cons s l ih=>
    intro r hr
    simp only [R3] at hr
    split at hr
    · rename_i hg
      simp only [A9O,Bool.and_eq_true] at hg
      rcases List.mem_cons.1 hr with rfl | hr
      · exact C50 hg.1.1
      · exact ih _ _ r hr
    · cases hr
theorem E6X(last:Int)(i:Nat)(a b:List ByteArray)(h:(R3 last i a).length=a.length):R3 last i (a++b)=R3 last i a++R3 (B0Y last (R3 last i a)) (i+a.length) b:=by
  induction a generalizing last i with
  | nil=>simp [R3,B0Y]
  | cons s a ih=>
    simp only [R3,List.cons_append] at h ⊢
    split
    · rename_i hg
      rw [if_pos hg] at h
      simp only [List.length_cons,Nat.add_right_cancel_iff] at h
      rw [ih _ _ h,List.cons_append,B0Y,List.length_cons]
      congr 3
      omega
    · rename_i hg
      rw [if_neg hg] at h
      simp at h
theorem E2h(last:Int)(i:Nat)(l:List ByteArray):R3 last i (l.take (R3 last i l).length)=R3 last i l:=by
  induction l generalizing last i with
  | nil=>rfl
  | cons s l ih=>
    simp only [R3]
    split
    · rename_i hg
      simp only [List.length_cons,List.take_succ_cons,R3,if_pos hg,ih]
    · rfl
theorem E2i(last:Int)(i:Nat)(l:List ByteArray)(h:∀ s,l.head? = some s→A9O last i s=false):R3 last i l = []:=by
  cases l with
  | nil=>rfl
  | cons s l=>simp only [R3,h s rfl,Bool.false_eq_true,if_false]
theorem C9W(last:Int)(i:Nat)(s:ByteArray)(l:List ByteArray):R3 last i (s::l)=bif A9O last i s then (F9 s).1::R3 (F9 s).1.1 (i+1) l else []:=by
  simp only [R3]
  cases A9O last i s<;>rfl
set_option maxRecDepth 100000 in
theorem B7v(d:D6)(h:A5s d.1):X0 d=some (G4 d.1,()):=by
  have hl:=h.1
  obtain ⟨z,e,hz⟩:=A01 (R1 K7 d) (fun l=>((d.1.length:Int)-l.2.1).toNat) (fun l=>∃ i:Nat,l.2.1=(i:Int)∧i≤d.1.length∧List.length l.2.2.1=i∧G4 d.1=l.2.2.1++R3 l.1 i (d.1.drop i))
    (fun z=>z=(G4 d.1,())) (fun l hl=>by
      obtain ⟨i,h0,h1,h2,h3⟩:=hl
      simp only [R1]
      by_cases hi:i<d.1.length
      · rw [h0,A0 (show (i:Int)<(d.1.length:Int) by omega),A0 (show (0:Int)≤(i:Int) by omega)]
        simp only [cond_true]
        rw [A79 _ (A6a h hi)]
        simp only [A3]
        rw [A3U hi]
        have hdrop:d.1.drop i=d.1[i]::d.1.drop (i+1):=List.drop_eq_getElem_cons hi
        rw [hdrop] at h3
        rw [C9W] at h3
        simp only [A9O] at h3
        obtain ⟨g,hg⟩:∃ g,F9 d.1[i]=g:=⟨_,rfl⟩
        rw [hg] at h3 ⊢
        cases hk:g.2.1 with
        | false=>
          rw [hk] at h3
          simp only [Bool.false_and,cond_false,List.append_nil] at h3
          exact .inr ⟨_,rfl,by rw [h3]⟩
        | true=>
          rw [hk] at h3
          simp only [Bool.true_and] at h3
          simp only [Bool.not_true,cond_false]
          by_cases e1:g.1.2.1=(i:Int)
          · rw [A0 e1] at h3 ⊢
            by_cases e2:g.1.1<l.1
            · rw [A0 e2] at h3 ⊢
              simp only [Bool.not_true,Bool.and_false,cond_false,List.append_nil] at h3
              exact .inr ⟨_,rfl,by rw [h3]⟩
            · rw [A4 e2] at h3 ⊢
              simp only [Bool.not_false,Bool.and_true,cond_true,Bool.true_and] at h3
              simp only [Bool.not_true,cond_false]
              rw [A0 (by simp;omega),A0 (by simp;omega),w64 (by omega) (by omega)]
              refine .inl ⟨_,rfl,⟨i+1,by simp only;omega,by omega,by simp;omega,?_⟩,by simp only;omega⟩
              simp only
              rw [h3,List.append_assoc]
              rfl
          · rw [A4 e1] at h3 ⊢
            simp only [Bool.false_and,cond_false,List.append_nil] at h3
            exact .inr ⟨_,rfl,by rw [h3]⟩
      · rw [h0,A4 (show ¬ (i:Int)<(d.1.length:Int) by omega)]
        rw [List.drop_eq_nil_of_le (by omega)] at h3
        simp only [R3,List.append_nil] at h3
        exact .inr ⟨_,rfl,by rw [h3]⟩) (0,0,[],()) ⟨0,rfl,by omega,rfl,by simp [G4]⟩
  have e':X0 d=some z:=e
  rw [e',hz]
structure GoodS (st:A8):Prop where
  dk:A5J st.1=true
  ep:0≤st.2.1∧st.2.1≤10000
  up:T0 [] (G4 st.1.1)=some st.2.2.2
  nx:st.2.2.1=(List.length (G4 st.1.1):Int)
  le:B0Y 0 (G4 st.1.1)≤st.2.1
  tl:((st.1.1.drop (G4 st.1.1).length).all fun s=>!B26 st.2.1 s)=true
theorem B0Z{d:D6}(h:A5J d=true):A2Z d∧d.1.length=d.2.length∧d.1.length≤200∧(∀ s∈d.1,s.size≤64)∧∀ s∈d.2,s.size≤64:=by
  simp only [A5J,Bool.and_eq_true] at h
  obtain ⟨h1,h2⟩:=h
  have h1:=of_decide_eq_true h1
  have k1:∀ s∈d.1,s.size≤64:=fun s hs=>by
    obtain ⟨i,hi,rfl⟩:=List.getElem_of_mem hs
    have:=List.all_eq_true.1 h2 i (List.mem_range.2 hi)
    simp only [Bool.and_eq_true,Bool.not_eq_true',decide_eq_false_iff_not] at this
    have h3:=this.1
    rw [A3U hi] at h3
    omega
  have k2:∀ s∈d.2,s.size≤64:=fun s hs=>by
    obtain ⟨i,hi,rfl⟩:=List.getElem_of_mem hs
    have:=List.all_eq_true.1 h2 i (List.mem_range.2 (by omega))
    simp only [Bool.and_eq_true,Bool.not_eq_true',decide_eq_false_iff_not] at this
    have h3:=this.2
    rw [A3U hi] at h3
    omega
  exact ⟨⟨⟨by omega,fun s hs=>by have:=k1 s hs;omega⟩,by omega,fun s hs=>by have:=k2 s hs;omega⟩,h1.1,h1.2,k1,k2⟩
theorem D8z{d:D6}(h1:d.1.length=d.2.length)(h2:d.1.length≤200)(h3:∀ s∈d.1,s.size≤64)(h4:∀ s∈d.2,s.size≤64):A5J d=true:=by
  simp only [A5J,Bool.and_eq_true]
  refine ⟨decide_eq_true ⟨h1,h2⟩,List.all_eq_true.2 fun i hi=>?_⟩
  have hi:=List.mem_range.1 hi
  rw [A3U hi,A3U (show i<d.2.length by omega)]
  have k1:=h3 _ (List.getElem_mem hi)
  have k2:=h4 _ (List.getElem_mem (show i<d.2.length by omega))
  rw [A4 (by omega),A4 (by omega)]
  rfl
theorem E2j(l:List H7)(h:0<l.length)(e:Int):(rd A7q l ((l.length:Int)-1)).1=B0Y e l:=by
  induction l generalizing e with
  | nil=>simp at h
  | cons r l ih=>
    cases l with
    | nil=>rfl
    | cons r' l=>
      have h2:=ih (by simp) r.1
      simp only [B0Y] at h2 ⊢
      rw [← h2]
      have e1:((r::r'::l).length:Int)-1=(((l.length+1):Nat):Int):=by simp only [List.length_cons];omega
      have e2:((r'::l).length:Int)-1=((l.length:Nat):Int):=by simp only [List.length_cons];omega
      rw [e1,e2,C4 (k:=A7q) (xs:=r::r'::l) (by simp),C4 (k:=A7q) (xs:=r'::l) (by simp)]
      rfl
theorem C54(st:A8)(h:A5s st.1.1)(hb:∀ u∈st.2.2.2,Byt u.2.2.1):∃ b,G2 st=some (b,())∧A1I st=some (b,())∧(b=true↔GoodS st):=by
  obtain ⟨b,hs,hi,_⟩:=C9K st h
  refine ⟨b,hs,hi,?_⟩
  have hl:=h.1
  have hrg:=B41 0 0 st.1.1
  have hll:=B27 0 0 st.1.1
  have hfs:=A2Y (G4 st.1.1) (by simp only [maxLen,G4];omega) hrg
  simp only [G2,B0D,A7C,B7v st.1 h,hfs,Q6,A3] at hs
  have hsc:R3 0 0 st.1.1=G4 st.1.1:=rfl
  rw [hsc] at hrg hll
  cases hbd:A5J st.1 with
  | false=>
    rw [hbd] at hs
    have:b=false:=by
      simp only [Bool.not_false,cond_true] at hs
      first | (injection hs with hs;injection hs with hs;exact hs.symm) | (simp [C2] at hs;exact hs.symm)
    rw [this]
    exact ⟨fun e=>by (cases e),fun g=>by rw [g.dk] at hbd;cases hbd⟩
  | true=>
    rw [hbd] at hs
    simp only [Bool.not_true,cond_false] at hs
    by_cases he:0≤st.2.1∧st.2.1≤10000
    · rw [A0 he] at hs
      simp only [Bool.not_true,cond_false,C2] at hs
      unfold P7 at hs
      cases hf:T0 [] (G4 st.1.1) with
      | none=>
        rw [hf] at hs
        have:b=false:=by
          first | (injection hs with hs;injection hs with hs;exact hs.symm) | (simp at hs;exact hs.symm)
        rw [this]
        exact ⟨fun e=>by (cases e),fun g=>by rw [g.up] at hf;cases hf⟩
      | some us=>
        have hu:=A7B B0W hrg hf
        have hul:=hu.2.1
        rw [hf] at hs
        simp only at hs
        rw [D4c _ _ (show us.length≤maxLen by simp only [maxLen];omega)] at hs
        simp only [Bool.not_true,cond_false] at hs
        cases hsm:A0d us st.2.2.2 with
        | false=>
          rw [hsm] at hs
          have:b=false:=by
            first | (injection hs with hs;injection hs with hs;exact hs.symm) | (simp at hs;exact hs.symm)
          rw [this]
          refine ⟨fun e=>by (cases e),fun g=>?_⟩
          have:=g.up
          rw [hf] at this
          injection this with this
          rw [this,B8R] at hsm
          cases hsm
        | true=>
          have heq:=E2a (fun u hu'=>(hu.2.2 u hu').2.2.2) hb hsm
          rw [hsm] at hs
          simp only [Bool.not_true,cond_false] at hs
          by_cases hn:st.2.2.1=(List.length (G4 st.1.1):Int)
          · rw [A0 hn] at hs
            simp only [Bool.not_true,cond_false] at hs
            have htail:=D4d st h (G4 st.1.1).length hll
            rw [hn] at hs
            rw [htail] at hs
            by_cases hl0:(List.length (G4 st.1.1):Int)>0
            · rw [A0 hl0,w64 (n:=(List.length (G4 st.1.1):Int)-1) (by omega) (by omega),A0 (show (0:Int)≤(List.length (G4 st.1.1):Int)-1 by omega),A0 (show (List.length (G4 st.1.1):Int)-1<(List.length (G4 st.1.1):Int) by omega),E2j (G4 st.1.1) (by omega) 0] at hs
              simp only [cond_true] at hs
              by_cases hle:B0Y 0 (G4 st.1.1)>st.2.1
              · rw [A0 hle] at hs
                have:b=false:=by
                  first | (injection hs with hs;injection hs with hs;exact hs.symm) | (simp at hs;exact hs.symm)
                rw [this]
                exact ⟨fun e=>by (cases e),fun g=>by have:=g.le;omega⟩
              · rw [A4 hle] at hs
                simp only [cond_false] at hs
                have:b=((st.1.1.drop (G4 st.1.1).length).all fun s=>!B26 st.2.1 s):=by
                  first | (injection hs with hs;injection hs with hs;exact hs.symm) | (simp at hs;exact hs.symm)
                rw [this]
                exact ⟨fun e=>⟨hbd,he,by rw [hf,heq],hn,by omega,e⟩,fun g=>g.tl⟩
            · rw [A4 hl0] at hs
              simp only [cond_false] at hs
              have:b=((st.1.1.drop (G4 st.1.1).length).all fun s=>!B26 st.2.1 s):=by
                first | (injection hs with hs;injection hs with hs;exact hs.symm) | (simp at hs;exact hs.symm)
              rw [this]
              have hnil:G4 st.1.1 = []:=List.length_eq_zero_iff.1 (by omega)
              exact ⟨fun e=>⟨hbd,he,by rw [hf,heq],hn,by rw [hnil];exact he.1,e⟩,fun g=>g.tl⟩
          · rw [A4 hn] at hs
            have:b=false:=by
              first | (injection hs with hs;injection hs with hs;exact hs.symm) | (simp at hs;exact hs.symm)
            rw [this]
            exact ⟨fun e=>by (cases e),fun g=>absurd g.nx hn⟩
    · rw [A4 he] at hs
      have:b=false:=by
        first | (injection hs with hs;injection hs with hs;exact hs.symm) | (simp [C2] at hs;exact hs.symm)
      rw [this]
      exact ⟨fun e=>by (cases e),fun g=>absurd g.ep he⟩
theorem D64{st:A8}(h:GoodS st)(hr:Ups st.2.2.2):Rt st:=by
  obtain ⟨k1,k2,k3,k4,k5⟩:=B0Z h.dk
  have:=B27 0 0 st.1.1
  have hn:=h.nx
  exact ⟨⟨h.ep.1,h.ep.2,k2,k3,by simp only [G4] at hn;omega,st.2.2.2,hr,B8R _⟩,hr,k1⟩
theorem C9X{st:A8}(h:GoodS st):Ups st.2.2.2:=A7B B0W (B41 0 0 st.1.1) h.up
theorem C55:∀ (l l':List H7) (us:List TUp),T0 us (l++l')=(T0 us l).bind fun us'=>T0 us' l'
  | [],l',us=>rfl
  | r::l,l',us=>by
    simp only [List.cons_append,T0]
    cases N6 us r with
    | none=>rfl
    | some us'=>exact C55 l l' us'
theorem E6Y(l:List H7)(r:H7)(e:Int):B0Y e (l ++ [r])=r.1:=by
  induction l generalizing e with
  | nil=>rfl
  | cons x l ih=>exact ih x.1
theorem E2k{st:A8}(h:GoodS st){r:H7}(hr:C0j r)(h1:r.1=st.2.1)(h2:r.2.1=st.2.2.1)(hlt:st.2.2.1<(st.1.1.length:Int)){us:List TUp}(hf:N6 st.2.2.2 r=some us) :
    GoodS (wrote st r us)∧G4 (wrote st r us).1.1=G4 st.1.1 ++ [r]:=by
  obtain ⟨k1,k2,k3,k4,k5⟩:=B0Z h.dk
  have hn:=h.nx
  generalize hL:G4 st.1.1=L at *
  have hll:L.length≤st.1.1.length:=by rw [← hL];exact B27 0 0 st.1.1
  have hlt':L.length<st.1.1.length:=by omega
  have hto:st.2.2.1.toNat=L.length:=by omega
  have hset:st.1.1.set L.length (V8 r)=st.1.1.take L.length++V8 r::st.1.1.drop (L.length+1):=by
    rw [List.set_eq_take_append_cons_drop,if_pos hlt']
  have htake:R3 0 0 (st.1.1.take L.length)=L:=by
    have:=E2h 0 0 st.1.1
    rw [show R3 0 0 st.1.1=L from hL] at this
    exact this
  have hgo:A9O (B0Y 0 L) L.length (V8 r)=true:=by
    simp only [A9O,C9V hr,Bool.true_and]
    rw [h1,h2,A0 (by omega),A4 (by have:=h.le;rw [hL] at this;omega)]
    rfl
  have htl:=h.tl
  rw [hL] at htl
  have hscan:G4 (wrote st r us).1.1=L ++ [r]:=by
    show R3 0 0 (st.1.1.set st.2.2.1.toNat (V8 r))=_
    rw [hto,hset,E6X _ _ _ _ (by rw [htake,List.length_take];omega),htake]
    congr 1
    have hle:(st.1.1.take L.length).length=L.length:=by rw [List.length_take];omega
    simp only [R3,hle,Nat.zero_add,hgo,if_true,C9V hr]
    congr 1
    refine E2i _ _ _ fun s hs=>?_
    have hmem:s∈st.1.1.drop (L.length+1):=List.mem_of_mem_head? hs
    have hmem2:s∈st.1.1.drop L.length:=by
      rw [List.drop_eq_getElem_cons hlt']
      exact List.mem_cons_of_mem _ hmem
    have:=List.all_eq_true.1 htl s hmem2
    simp only [B26,Bool.not_eq_true',Bool.and_eq_false_iff,decide_eq_false_iff_not] at this
    simp only [A9O,h1]
    rcases this with h3 | h3
    · rw [h3];rfl
    · rw [A0 (show (F9 s).1.1<st.2.1 by omega)]
      simp
  have hlen:(L ++ [r]).length=L.length+1:=by simp
  refine ⟨⟨?_,h.ep,?_,?_,?_,?_⟩,hscan⟩
  · refine D8z ?_ ?_ (fun s hs=>?_) k5
    · show (st.1.1.set _ _).length=_;rw [List.length_set];exact k2
    · show (st.1.1.set _ _).length≤_;rw [List.length_set];exact k3
    · rcases List.mem_or_eq_of_mem_set hs with hs | rfl
      · exact k4 s hs
      · exact E6W hr.1
  · have hup:=h.up
    rw [hL] at hup
    rw [hscan,C55,hup]
    show T0 st.2.2.2 [r]=some us
    simp only [T0,hf]
  · rw [hscan,hlen]
    show st.2.2.1+1=_
    omega
  · rw [hscan,E6Y,h1]
    exact Int.le_refl _
  · rw [hscan,hlen]
    show ((st.1.1.set st.2.2.1.toNat (V8 r)).drop (L.length+1)).all _=true
    rw [hto,List.drop_set_of_lt (by omega)]
    rw [List.drop_eq_getElem_cons hlt',List.all_cons,Bool.and_eq_true] at htl
    exact htl.2
def A8F(now sure:List ByteArray)(k:List Bool):List ByteArray:=(List.range now.length).map fun i=>bif k.getD i false then now.getD i ⟨#[]⟩ else sure.getD i ⟨#[]⟩
def C56(d:D6)(k:List Bool):D6:=(A8F d.1 d.2 k,A8F d.1 d.2 k)
theorem C9Y(now sure:List ByteArray)(k:List Bool):(A8F now sure k).length=now.length:=by simp [A8F]
theorem D90{now sure:List ByteArray}{k:List Bool}(h:now.length=sure.length){i:Nat}(hi:i<now.length):(A8F now sure k)[i]? = if k.getD i false=true then now[i]? else sure[i]?:=by
  simp only [A8F,List.getElem?_map,List.getElem?_range hi,Option.map_some]
  rw [List.getElem?_eq_getElem hi,List.getElem?_eq_getElem (show i<sure.length by omega)]
  have e1:now.getD i ⟨#[]⟩=now[i]:=by simp [List.getD,hi]
  have e2:sure.getD i ⟨#[]⟩=sure[i]'(by omega):=by simp [List.getD,show i<sure.length by omega]
  rw [e1,e2]
  by_cases hb:k.getD i false=true
  · rw [if_pos hb,hb];rfl
  · rw [if_neg hb,Bool.eq_false_iff.2 hb];rfl
def A50{α:Type}(l x:List α)(i:Nat):List α:=l.take i++x.drop i
theorem B6N{α:Type}{l x:List α}(h:l.length=x.length)(i:Nat):(A50 l x i).length=x.length:=by simp [A50];omega
theorem B28{α:Type}{l x:List α}(h:l.length=x.length){i:Nat}(hi:i<l.length):(A50 l x i).set i l[i]=A50 l x (i+1):=by
  have hl:(l.take i).length=i:=by rw [List.length_take];omega
  unfold A50
  rw [List.drop_eq_getElem_cons (show i<x.length by omega)]
  have e:(l.take i++x[i]'(by omega)::x.drop (i+1)).set i l[i]=l.take i++(x[i]'(by omega)::x.drop (i+1)).set (i-(l.take i).length) l[i]:=List.set_append_right _ _ (by omega)
  rw [e,hl,Nat.sub_self,List.set_cons_zero,List.take_succ_eq_append_getElem hi,List.append_assoc]
  rfl
theorem D4h{α:Type}{l x:List α}(h:l.length=x.length){i:Nat}(hi:i<l.length)(he:l[i]? = x[i]?):A50 l x i=A50 l x (i+1):=by
  unfold A50
  rw [List.drop_eq_getElem_cons (show i<x.length by omega),List.take_succ_eq_append_getElem hi,List.append_assoc]
  rw [List.getElem?_eq_getElem hi,List.getElem?_eq_getElem (show i<x.length by omega)] at he
  injection he with he
  rw [he]
  rfl
theorem C1k{α:Type}{l x:List α}(h:l.length=x.length){i:Nat}(hi:i<x.length):(A50 l x i)[i]? = x[i]?:=by
  unfold A50
  rw [List.getElem?_append_right (by rw [List.length_take];omega),List.length_take,Nat.min_eq_left (by omega),Nat.sub_self,List.getElem?_drop,Nat.add_zero]
theorem D4i(d:D6)(k:List Bool)(hd:A5J d=true):A0S d k=some (C56 d k,()):=by
  obtain ⟨hS,hlen,h200,_,_⟩:=B0Z hd
  have hml:=C9Y d.1 d.2 k
  simp only [A0S,A8B,Y6 d hS,A7C,hd,bO,Bool.not_true,cond_false]
  have key:=D8 (I6 k) (fun i=>((i:Int),A50 (A8F d.1 d.2 k) d.1 i,A50 (A8F d.1 d.2 k) d.2 i,())) d.1.length (C56 d k,()) (fun i hi=>?_) ?_
  · exact key
  · have l1:=B6N (l:=A8F d.1 d.2 k) (x:=d.1) hml i
    have l2:=B6N (l:=A8F d.1 d.2 k) (x:=d.2) (by omega) i
    have g1:=C1k (l:=A8F d.1 d.2 k) (x:=d.1) hml hi
    have g2:=C1k (l:=A8F d.1 d.2 k) (x:=d.2) (by omega) (show i<d.2.length by omega)
    have hm:=D90 (k:=k) hlen hi
    have hmi:i<(A8F d.1 d.2 k).length:=by omega
    simp only [I6,l1]
    rw [A0 (show (i:Int)<(d.1.length:Int) by omega)]
    have hb:(bif decide ((i:Int)<(k.length:Int)) then bif decide (0≤(i:Int)) then bif decide ((i:Int)<(k.length:Int)) then (some ((rd .bool k (i:Int)),()):Option (Bool×Unit)) else none else none else some (false,()))=some (k.getD i false,()):=by
      by_cases hik:i<k.length
      · rw [A0 (show (i:Int)<(k.length:Int) by omega),A0 (show (0:Int)≤(i:Int) by omega)]
        simp only [cond_true]
        rw [C4 (k:=.bool) hik]
        simp [List.getD,hik]
      · rw [A4 (show ¬ (i:Int)<(k.length:Int) by omega)]
        simp [List.getD,List.getElem?_eq_none (show k.length≤i by omega)]
    rw [hb]
    simp only [cond_true,bO,l2,hlen]
    rw [A0 (show (0:Int)≤(i:Int) by omega),A0 (show (i:Int)<(d.2.length:Int) by omega),w64 (by omega) (by omega)]
    have r1:rd .str (A50 (A8F d.1 d.2 k) d.1 i) (i:Int)=d.1[i]:=by
      rw [A3U (by omega)]
      have:=g1
      rw [List.getElem?_eq_getElem (by omega),List.getElem?_eq_getElem hi] at this
      injection this
    have r2:rd .str (A50 (A8F d.1 d.2 k) d.2 i) (i:Int)=d.2[i]:=by
      rw [A3U (by omega)]
      have:=g2
      rw [List.getElem?_eq_getElem (by omega),List.getElem?_eq_getElem (show i<d.2.length by omega)] at this
      injection this
    rw [r1,r2,Int.toNat_natCast]
    rw [List.getElem?_eq_getElem hmi,List.getElem?_eq_getElem hi,List.getElem?_eq_getElem (show i<d.2.length by omega)] at hm
    cases hkb:k.getD i false with
    | true=>
      rw [hkb,if_pos rfl] at hm
      injection hm with hm
      simp only [cond_true]
      rw [← hm,B28 (by omega) hmi,D4h (l:=A8F d.1 d.2 k) (x:=d.1) hml hmi (by rw [List.getElem?_eq_getElem hmi,List.getElem?_eq_getElem hi,hm])]
      rfl
    | false=>
      rw [hkb,if_neg (by simp)] at hm
      injection hm with hm
      simp only [cond_true,cond_false]
      rw [← hm,B28 hml hmi,D4h (l:=A8F d.1 d.2 k) (x:=d.2) (by omega) hmi (by rw [List.getElem?_eq_getElem hmi,List.getElem?_eq_getElem (show i<d.2.length by omega),hm])]
      rfl
  · have e1:A50 (A8F d.1 d.2 k) d.1 d.1.length=A8F d.1 d.2 k:=by unfold A50;rw [List.drop_length,List.append_nil,List.take_of_length_le (by omega)]
    have e2:A50 (A8F d.1 d.2 k) d.2 d.1.length=A8F d.1 d.2 k:=by unfold A50;rw [hlen,List.drop_length,List.append_nil,List.take_of_length_le (by omega)]
    simp only [I6,e1,e2]
    rw [A4 (by omega)]
    rfl
theorem E6Z(d:D6)(k:List Bool)(hd:A5J d=true):A1z d k=some (C56 d k,()):=by
  obtain ⟨d',h1,h2,_⟩:=F0N d k (B0Z hd).1
  rw [D4i d k hd] at h1
  rw [h2,← h1]
theorem E6a(last:Int)(j:Nat)(l:List ByteArray)(i:Nat)(hi:i<(R3 last j l).length):∃ s,l[i]? = some s∧F9 s=((R3 last j l)[i],true,()):=by
  induction l generalizing last j i with
  | nil=>simp [R3] at hi
  | cons s l ih=>
    have e:=C9W last j s l
    cases hg:A9O last j s with
    | false=>rw [hg] at e;rw [e] at hi;simp at hi
    | true=>
      rw [hg] at e
      simp only [cond_true] at e
      cases i with
      | zero=>
        refine ⟨s,rfl,?_⟩
        simp only [A9O,Bool.and_eq_true] at hg
        have h0:(R3 last j (s::l))[0]=(F9 s).1:=by simp only [e];rfl
        rw [h0]
        have:=hg.1.1
        generalize F9 s=g at this
        obtain ⟨a,b,u⟩:=g
        simp only at this
        rw [this]
      | succ i=>
        have hi2:i<(R3 (F9 s).1.1 (j+1) l).length:=by rw [e] at hi;simpa using hi
        obtain ⟨s',h1,h2⟩:=ih _ _ i hi2
        refine ⟨s',h1,?_⟩
        rw [h2]
        congr 1
        simp only [e,List.getElem_cons_succ]
structure Dur (st:A8) (c:Nat):Prop where
  g:GoodS st
  le:c≤(G4 st.1.1).length
  out:∀ i,¬ (c≤i∧i<(G4 st.1.1).length)→st.1.2[i]? = st.1.1[i]?
  inn:∀ i s,c≤i→i<(G4 st.1.1).length→st.1.2[i]? = some s→B26 st.2.1 s=false
  ep:∀ i (h:i<(G4 st.1.1).length),c≤i→(G4 st.1.1)[i].1=st.2.1
  sc:G4 st.1.2=(G4 st.1.1).take c
theorem E2l{L:List H7}{e:Int}{j:Nat}(h0:0<j)(hj:j≤L.length):B0Y e (L.take j)=(L[j-1]'(by omega)).1:=by
  induction L generalizing e j with
  | nil=>simp at hj;omega
  | cons r L ih=>
    cases j with
    | zero=>omega
    | succ j=>
      simp only [List.take_succ_cons,B0Y]
      cases j with
      | zero=>simp [B0Y]
      | succ j=>
        rw [ih (by omega) (by simpa using hj)]
        simp
theorem F0T{now sure:List ByteArray}{k:List Bool}(h:now.length=sure.length){s:ByteArray}(hs:s∈A8F now sure k):s∈now∨s∈sure:=by
  obtain ⟨i,hi,rfl⟩:=List.getElem_of_mem hs
  have hi':i<now.length:=by rw [C9Y] at hi;exact hi
  have:=D90 (k:=k) h hi'
  rw [List.getElem?_eq_getElem hi] at this
  split at this
  · exact .inl (List.mem_of_getElem? this.symm)
  · exact .inr (List.mem_of_getElem? this.symm)
def D65(x:List ByteArray)(us:List TUp):A8:=((x,x),(A4z x+1,((List.length (G4 x):Int),us)))
theorem D91{x:List ByteArray}{us:List TUp}(hd:A5J (x,x)=true)(hu:T0 [] (G4 x)=some us)(ht:A4z x+1≤10000):GoodS (D65 x us):=by
  have h0:=C89 x
  refine ⟨hd,⟨by show 0≤A4z x+1;omega,ht⟩,hu,rfl,?_,?_⟩
  · show B0Y 0 (G4 x)≤A4z x+1
    have hg:∀ (i:Nat) (hi:i<(G4 x).length),∃ s,x[i]? = some s∧F9 s=((G4 x)[i],true,()):=E6a 0 0 x
    by_cases hl:0<(G4 x).length
    · have e:=E2l (L:=G4 x) (e:=0) (j:=(G4 x).length) hl (Nat.le_refl _)
      rw [List.take_length] at e
      rw [e]
      obtain ⟨s,h1,h2⟩:=hg ((G4 x).length-1) (by omega)
      have h3:=E5D (List.mem_of_getElem? h1) (by rw [h2])
      rw [h2] at h3
      have h5:((G4 x)[(G4 x).length-1]'(by omega)).1≤A4z x:=h3
      have h6:@LE.le Int _ ((G4 x)[(G4 x).length-1]'(by omega)).1 (A4z x+1):=by omega
      exact h6
    · rw [List.length_eq_zero_iff.1 (show (G4 x).length=0 by omega)]
      show (0:Int)≤_
      omega
  · refine List.all_eq_true.2 fun s hs=>?_
    have hs2:s∈x:=List.mem_of_mem_drop hs
    simp only [B26,Bool.not_eq_true',Bool.and_eq_false_iff,decide_eq_false_iff_not]
    cases hr:(F9 s).2.1 with
    | false=>exact .inl rfl
    | true=>
      have:=E5D hs2 hr
      refine .inr ?_
      show ¬ (F9 s).1.1≥A4z x+1
      omega
theorem E2m{st:A8}(h:GoodS st):Dur ((st.1.1,st.1.1),st.2) (G4 st.1.1).length:=
  ⟨⟨E6T h.dk,h.ep,h.up,h.nx,h.le,h.tl⟩,Nat.le_refl _,fun i _=>rfl,fun i s h1 h2 _=>by (have h3:i<(G4 st.1.1).length:=h2;omega),fun i h1 h2=>by (have h3:i<(G4 st.1.1).length:=h1;omega),(List.take_length).symm⟩
inductive Steps (id:ByteArray) (st:A8):A8→Prop
  | refl:Steps id st st
  | step {st1:A8} {r:H7} {us:List TUp}:Steps id st st1→C0j r→r.1=st1.2.1→r.2.1=st1.2.2.1→st1.2.2.1<(st1.1.1.length:Int)→r.2.2.2.1=id→(r.2.2.1=1→r.2.2.2.2.1≤1000000)→N6 st1.2.2.2 r=some us→Steps id st (wrote st1 r us)
theorem D92{st:A8}{id:ByteArray}{n:Int}(h:Rt st):Steps id st (A5K st id n).1:=by
  unfold A5K
  split
  · rename_i h1
    split
    · exact Steps.refl
    · rename_i h2
      split
      · exact Steps.refl
      · rename_i h3
        have hr:=B40 h.g 1 n id h1.1 (fun hx=>h3 (.inl hx)) (.inl ⟨rfl,h1.2.1,by omega⟩)
        exact .step Steps.refl ⟨hr,A28⟩ rfl rfl (by omega) rfl (fun _=>h1.2.2) (C3y h2 (fun hx=>h3 (.inr hx)))
  · exact Steps.refl
theorem D93{st:A8}{id:ByteArray}{n:Int}(h:Rt st):Steps id st (A5L st id n).1:=by
  unfold A5L
  split
  · rename_i h1
    split
    · rename_i h2
      split
      · exact Steps.refl
      · rename_i h3
        split
        · exact Steps.refl
        · split
          · exact Steps.refl
          · rename_i h5
            split
            · exact Steps.refl
            · rename_i h6
              have hr:=B40 h.g 3 0 id h1 h6 (.inr ⟨.inl rfl,rfl⟩)
              exact .step Steps.refl ⟨hr,A28⟩ rfl rfl (by omega) rfl (fun e=>by cases e) (C3z h.up h2 h3 h5)
    · exact Steps.refl
  · exact Steps.refl
theorem D94{st:A8}{id:ByteArray}(h:Rt st):Steps id st (A5M st id).1:=by
  unfold A5M
  split
  · rename_i h1
    split
    · rename_i h2
      split
      · exact Steps.refl
      · rename_i h3
        have hr:=B40 h.g 4 0 id h1 h3 (.inr ⟨.inr rfl,rfl⟩)
        exact .step Steps.refl ⟨hr,A28⟩ rfl rfl (by omega) rfl (fun e=>by cases e) (C40 h2)
    · exact Steps.refl
  · exact Steps.refl
theorem C57{st:A8}{id:ByteArray}{off:Int}{dat:List Int}(hc:E2c st id off dat):∀ j,j≤nPc dat→Steps id st (putAt st id off dat j)
  | 0,_=>Steps.refl
  | j+1,hj=>by
    have hI:=B7u hc j (by omega)
    obtain ⟨hr,hf,_⟩:=C1i hc hI (by omega)
    have h1:=hc.nx.2
    have h2:=hI.nx
    have h3:=hI.len
    exact .step (C57 hc j (by omega)) ⟨hr,B25 (A77 hc.byt _) _⟩ rfl rfl (by omega) rfl (fun e=>by cases e) hf
theorem E2n{st:A8}{id:ByteArray}{off:Int}{dat:List Int}(h:Rt st)(hb:Byt dat):Steps id st (A7c st id off dat).1:=by
  unfold A7c
  split
  · rename_i h1
    split
    · rename_i h3
      split
      · exact Steps.refl
      · rename_i h4
        split
        · exact Steps.refl
        · rename_i h5
          exact C57 (C1j h hb h1.1 h1.2 h3 h4 h5) _ (Nat.le_refl _)
    · exact Steps.refl
  · exact Steps.refl
theorem C9Z{st:A8}(h:GoodS st):Rt st∧A7b st∧G2 st=some (true,())∧A1I st=some (true,()):=by
  have hU:=C9X h
  have hS:=B0Z h.dk
  obtain ⟨b,h1,h2,h3⟩:=C54 st hS.1.1 (fun u hu=>(hU.2.2 u hu).2.2.2)
  rw [h3.2 h] at h1 h2
  exact ⟨D64 h hU,E2g hS.1 hU,h1,h2⟩
theorem E6b{x:List ByteArray}{us:List TUp}(h:GoodS (D65 x us)):E8 (x,x)=some (D65 x us,true,()):=by
  obtain ⟨hS,_,h200,_⟩:=B0Z h.dk
  have hdk:A5J (x,x)=true:=h.dk
  have hl:x.length≤200:=h200
  have hll:=B27 0 0 x
  have hfs:=A2Y (G4 x) (by simp only [maxLen,G4];omega) (B41 0 0 x)
  have hf:P7 (G4 x)=(us,true,()):=by
    unfold P7
    rw [show T0 [] (G4 x)=some us from h.up]
  have htop:=C89 x
  have hep:A4z x+1≤10000:=h.ep.2
  simp only [E8,O5,A7C,hdk,B7v (x,x) hS.1,hfs,hf,A6c (x,x) hS.1,Y6 (x,x) hS,bO,Bool.not_true,cond_false]
  rw [w64 (n:=A4z x+1) (by omega) (by omega),A4 (show ¬ A4z x+1>10000 by omega)]
  rfl
def lenOf(st:A8)(id:ByteArray):Int:=if I3 st.2.2.2 id=true then (List.length (rd kUp st.2.2.2 (B5 st.2.2.2 id:Int)).2.2.1:Int) else 0
def A2a(st:A8)(code:Int)(id:ByteArray):N8:=
  if code=2 then (404,-1) else if code=3∨code=4 then (409,lenOf st id) else if code=5 then (507,-1) else if code=6 then (422,-1) else (400,-1)
def E2o(st:A8)(r:V6):N8:=
  if I3 st.2.2.2 r.2.1=true then (if r.1=5∧(rd kUp st.2.2.2 (B5 st.2.2.2 r.2.1:Int)).2.2.2=false then (409,lenOf st r.2.1) else (200,lenOf st r.2.1)) else (404,-1)
def C75(st:A8)(r:V6)(dat:List Int):A8×N8:=
  if r.1=1 then ((A5K st r.2.1 r.2.2).1,if (A5K st r.2.1 r.2.2).2=0 then (201,0) else A2a st (A5K st r.2.1 r.2.2).2 r.2.1)
  else if r.1=3 then ((A7c st r.2.1 r.2.2 dat).1,if (A7c st r.2.1 r.2.2 dat).2=0 then (204,r.2.2+(dat.length:Int)) else A2a st (A7c st r.2.1 r.2.2 dat).2 r.2.1)
  else if r.1=4 then ((A5L st r.2.1 r.2.2).1,if (A5L st r.2.1 r.2.2).2=0 then (200,-1) else A2a st (A5L st r.2.1 r.2.2).2 r.2.1)
  else if r.1=6 then ((A5M st r.2.1).1,if (A5M st r.2.1).2=0 then (204,-1) else A2a st (A5M st r.2.1).2 r.2.1)
  else (st,E2o st r)
theorem C9a{st:A8}{id:ByteArray}{n:Int}(h:¬ (A5K st id n).2=0):(A5K st id n).1=st:=by
  unfold A5K at h ⊢
  split
  · rename_i h1
    rw [if_pos h1] at h
    split
    · rfl
    · rename_i h2
      rw [if_neg h2] at h
      split
      · rfl
      · rename_i h3
        rw [if_neg h3] at h
        exact absurd rfl h
  · rfl
theorem D4j{st:A8}{id:ByteArray}{n:Int}{d:List Int}(h:¬ (A7c st id n d).2=0):(A7c st id n d).1=st:=by
  unfold A7c at h ⊢
  split
  · rename_i h1
    rw [if_pos h1] at h
    split
    · rename_i h2
      rw [if_pos h2] at h
      split
      · rfl
      · rename_i h3
        rw [if_neg h3] at h
        split
        · rfl
        · rename_i h4
          rw [if_neg h4] at h
          exact absurd rfl h
    · rfl
  · rfl
theorem C9b{st:A8}{id:ByteArray}{n:Int}(h:¬ (A5L st id n).2=0):(A5L st id n).1=st:=by
  unfold A5L at h ⊢
  split
  · rename_i h1
    rw [if_pos h1] at h
    split
    · rename_i h2
      rw [if_pos h2] at h
      split
      · rfl
      · rename_i h3
        rw [if_neg h3] at h
        split
        · rfl
        · rename_i h4
          rw [if_neg h4] at h
          split
          · rfl
          · rename_i h5
            rw [if_neg h5] at h
            split
            · rfl
            · rename_i h6
              rw [if_neg h6] at h
              exact absurd rfl h
    · rfl
  · rfl
theorem C9c{st:A8}{id:ByteArray}(h:¬ (A5M st id).2=0):(A5M st id).1=st:=by
  unfold A5M at h ⊢
  split
  · rename_i h1
    rw [if_pos h1] at h
    split
    · rename_i h2
      rw [if_pos h2] at h
      split
      · rfl
      · rename_i h4
        rw [if_neg h4] at h
        exact absurd rfl h
    · rfl
  · rfl
theorem C9d{st:A8}{id:ByteArray}{off:Int}{dat:List Int}(h:Rt st)(hb:Byt dat)(h0:(A7c st id off dat).2=0):lenOf (A7c st id off dat).1 id=off+(dat.length:Int)∧off=lenOf st id∧0≤off:=by
  unfold A7c at h0 ⊢
  split at h0
  · rename_i h1
    rw [if_pos h1]
    split at h0
    · rename_i h3
      rw [if_pos h3]
      split at h0
      · simp at h0
      · rename_i h4
        rw [if_neg h4]
        split at h0
        · simp at h0
        · rename_i h5
          rw [if_neg h5]
          have hc:=C1j h hb h1.1 h1.2 h3 h4 h5
          have hI:=B7u hc _ (Nat.le_refl _)
          have hn:dat.length≤nPc dat*24:=by
            have:¬ nPc dat<nPc dat:=Nat.lt_irrefl _
            rw [B6M] at this
            omega
          have hat:=hc.at'
          refine ⟨?_,?_,by omega⟩
          · unfold lenOf
            rw [if_pos hI.has,hI.val]
            simp only [List.length_append,List.take_of_length_le hn]
            omega
          · unfold lenOf
            rw [if_pos h3]
            exact hat
    · simp at h0
  · simp at h0
theorem C41(x:C0)(n:Int)(id:ByteArray)(hU:Ups x.1.2.2.2):M3 x n id=some ((n,lenOf x.1 id),x,()):=by
  have hul:=hU.2.1
  simp only [M3,A7N,lenOf]
  rw [A8P x.1.2.2.2 id (by simp only [maxLen];omega)]
  cases hh:I3 x.1.2.2.2 id with
  | false=>
    simp only [Bool.false_eq_true,if_false,bO]
    rw [A0 (show (-1:Int)<0 by omega)]
    rfl
  | true=>
    simp only [if_true,bO]
    rw [A4 (show ¬ (B5 x.1.2.2.2 id:Int)<0 by omega)]
    rfl
theorem A8G(x:C0)(c:Int)(id:ByteArray)(hU:Ups x.1.2.2.2):I5 x c id=some (A2a x.1 c id,x,()):=by
  simp only [I5,A3O,C41 x 409 id hU,A2a,bO]
  by_cases h2:c=2
  · rw [A0 h2,if_pos h2];rfl
  rw [A4 h2,if_neg h2]
  by_cases h3:c=3
  · rw [A0 h3,if_pos (.inl h3)];rfl
  rw [A4 h3]
  by_cases h4:c=4
  · rw [A0 h4,if_pos (.inr h4)];rfl
  rw [A4 h4,if_neg (fun h=>h.elim h3 h4)]
  simp only [cond_false,bO]
  by_cases h5:c=5
  · rw [A0 h5,if_pos h5];rfl
  rw [A4 h5,if_neg h5]
  by_cases h6:c=6
  · rw [A0 h6,if_pos h6];rfl
  rw [A4 h6,if_neg h6]
  rfl
theorem E6c(x:C0)(r:V6)(hU:Ups x.1.2.2.2):A0X x r=some (E2o x.1 r,x,()):=by
  have hul:=hU.2.1
  simp only [A0X,A7O,C41 x _ r.2.1 hU,E2o,bO]
  rw [A8P x.1.2.2.2 r.2.1 (by simp only [maxLen];omega)]
  cases hh:I3 x.1.2.2.2 r.2.1 with
  | false=>
    simp only [Bool.false_eq_true,if_false,bO]
    rw [A0 (show (-1:Int)<0 by omega)]
    rfl
  | true=>
    simp only [if_true,bO]
    rw [A4 (show ¬ (B5 x.1.2.2.2 r.2.1:Int)<0 by omega)]
    simp only [cond_false]
    by_cases h5:r.1=5
    · rw [A0 h5]
      simp only [cond_true,bO]
      cases hd:(rd kUp x.1.2.2.2 (B5 x.1.2.2.2 r.2.1:Int)).2.2.2 with
      | true=>rw [if_neg (fun h=>by cases h.2)];rfl
      | false=>rw [if_pos ⟨h5,rfl⟩];rfl
    · rw [A4 h5,if_neg (fun h=>h5 h.1)]
      rfl
theorem D4k(st:A8)(id:ByteArray)(hU:Ups st.2.2.2):A9F st id=some (if I3 st.2.2.2 id=true then rd kUp st.2.2.2 (B5 st.2.2.2 id:Int) else (⟨#[]⟩,(0,([],false))),I3 st.2.2.2 id,()):=by
  simp only [A9F,C8y]
  rw [C1h st.2.2.2 id hU]
  cases hh:I3 st.2.2.2 id with
  | false=>
    simp only [Bool.false_eq_true,if_false,bO]
    rw [A0 (show (-1:Int)<0 by omega)]
    rfl
  | true=>
    obtain ⟨hlt,hid2⟩:=L1.1 hh
    have hdl:=B3x hU _ (List.getElem_mem hlt)
    rw [← C4 (k:=kUp) hlt] at hdl
    simp only [if_true,bO]
    rw [A4 (show ¬ (B5 st.2.2.2 id:Int)<0 by omega),A0 (show (0:Int)≤(B5 st.2.2.2 id:Int) by omega),A0 (show (B5 st.2.2.2 id:Int)<(st.2.2.2.length:Int) by omega),A0 (by simp;omega),A0 (by simp;omega)]
    simp only [cond_true,cond_false,List.nil_append]
theorem C1l(st:A8)(id:ByteArray)(c:Int)(hU:Ups st.2.2.2):A9G st id c=some (A2a st c id,()):=by
  have hlo:(List.length (if I3 st.2.2.2 id=true then rd kUp st.2.2.2 (B5 st.2.2.2 id:Int) else ((⟨#[]⟩,(0,([],false))):TUp)).2.2.1:Int)=lenOf st id:=by
    unfold lenOf;split<;>rfl
  simp only [A9G,C0c,D4k st id hU,A2a,bO,hlo]
  by_cases h2:c=2
  · rw [A0 h2,if_pos h2];rfl
  rw [A4 h2,if_neg h2]
  by_cases h3:c=3
  · rw [A0 h3,if_pos (.inl h3)];rfl
  rw [A4 h3]
  by_cases h4:c=4
  · rw [A0 h4,if_pos (.inr h4)];rfl
  rw [A4 h4,if_neg (fun h=>h.elim h3 h4)]
  simp only [cond_false,bO]
  by_cases h5:c=5
  · rw [A0 h5,if_pos h5];rfl
  rw [A4 h5,if_neg h5]
  by_cases h6:c=6
  · rw [A0 h6,if_pos h6];rfl
  rw [A4 h6,if_neg h6]
  rfl
theorem E2p(st:A8)(r:V6)(hU:Ups st.2.2.2):A4k st r=some (E2o st r,()):=by
  simp only [A4k,B3n,D4k st r.2.1 hU,E2o,lenOf,bO]
  cases hh:I3 st.2.2.2 r.2.1 with
  | false=>rfl
  | true=>
    simp only [if_true,Bool.not_true,cond_false]
    by_cases h5:r.1=5
    · rw [A0 h5]
      cases hd:(rd kUp st.2.2.2 (B5 st.2.2.2 r.2.1:Int)).2.2.2 with
      | true=>rw [if_neg (fun h=>by cases h.2)];rfl
      | false=>rw [if_pos ⟨h5,rfl⟩];rfl
    · rw [A4 h5,if_neg (fun h=>h5 h.1)]
      rfl
theorem D95(x:C0)(r:V6)(dat:List Int)(hid:r.2.1.size≤maxLen)(h:Rt x.1)(hb:Byt dat)(hd:dat.length≤1048576)(ho:-9223372036854775808≤r.2.2∧r.2.2≤9223372036854775807) :
    W8 x r dat=some ((C75 x.1 r dat).2,((C75 x.1 r dat).1,x.2),()):=by
  have hU:=h.up
  simp only [W8,A4F,C75]
  by_cases h1:r.1=1
  · rw [A0 h1,if_pos h1,D8q x.1 r.2.1 r.2.2 hid h]
    simp only [cond_true,bO,C2]
    by_cases hz:(A5K x.1 r.2.1 r.2.2).2=0
    · rw [A0 hz,if_pos hz];rfl
    · rw [A4 hz,if_neg hz,C9a hz]
      simp only [Bool.not_false,cond_true]
      have e:=A8G x (A5K x.1 r.2.1 r.2.2).2 r.2.1 hU
      have e':I5 (((x.1.1.1,x.1.1.2),(x.1.2.1,(x.1.2.2.1,x.1.2.2.2))),x.2) (A5K x.1 r.2.1 r.2.2).2 r.2.1=_:=e
      rw [e']
      rfl
  rw [A4 h1,if_neg h1]
  by_cases h3:r.1=3
  · rw [A0 h3,if_pos h3,E2e x.1 r.2.1 r.2.2 dat hid h hb hd ho]
    simp only [cond_true,cond_false,bO]
    have hU2:=(D8p (id:=r.2.1) (off:=r.2.2) (dat:=dat) h hb).1
    rw [C41 ((A7c x.1 r.2.1 r.2.2 dat).1,x.2) 204 r.2.1 hU2]
    simp only [bO,C2]
    by_cases hz:(A7c x.1 r.2.1 r.2.2 dat).2=0
    · rw [A0 hz,if_pos hz,(C9d h hb hz).1];rfl
    · rw [A4 hz,if_neg hz,D4j hz]
      simp only [Bool.not_false,cond_true]
      have e:=A8G x (A7c x.1 r.2.1 r.2.2 dat).2 r.2.1 hU
      have e':I5 (((x.1.1.1,x.1.1.2),(x.1.2.1,(x.1.2.2.1,x.1.2.2.2))),x.2) (A7c x.1 r.2.1 r.2.2 dat).2 r.2.1=_:=e
      rw [e']
      rfl
  rw [A4 h3,if_neg h3]
  by_cases h4:r.1=4
  · rw [A0 h4,if_pos h4,D8s x.1 r.2.1 r.2.2 hid h]
    simp only [cond_true,cond_false,bO,C2]
    by_cases hz:(A5L x.1 r.2.1 r.2.2).2=0
    · rw [A0 hz,if_pos hz];rfl
    · rw [A4 hz,if_neg hz,C9b hz]
      simp only [Bool.not_false,cond_true]
      have e:=A8G x (A5L x.1 r.2.1 r.2.2).2 r.2.1 hU
      have e':I5 (((x.1.1.1,x.1.1.2),(x.1.2.1,(x.1.2.2.1,x.1.2.2.2))),x.2) (A5L x.1 r.2.1 r.2.2).2 r.2.1=_:=e
      rw [e']
      rfl
  rw [A4 h4,if_neg h4]
  by_cases h6:r.1=6
  · rw [A0 h6,if_pos h6,D8u x.1 r.2.1 hid h]
    simp only [cond_true,cond_false,bO,C2]
    by_cases hz:(A5M x.1 r.2.1).2=0
    · rw [A0 hz,if_pos hz];rfl
    · rw [A4 hz,if_neg hz,C9c hz]
      simp only [Bool.not_false,cond_true]
      have e:=A8G x (A5M x.1 r.2.1).2 r.2.1 hU
      have e':I5 (((x.1.1.1,x.1.1.2),(x.1.2.1,(x.1.2.2.1,x.1.2.2.2))),x.2) (A5M x.1 r.2.1).2 r.2.1=_:=e
      rw [e']
      rfl
  rw [A4 h6,if_neg h6,E6c x r hU]
  rfl
theorem E6d(st:A8)(r:V6)(dat:List Int)(hid:r.2.1.size≤maxLen)(h:Rt st)(hS:A7b st)(hok:G2 st=some (true,()))(hb:Byt dat)(hd:dat.length≤1048576)(ho:-9223372036854775808≤r.2.2∧r.2.2≤9223372036854775807) :
    X4 st r dat=some ((C75 st r dat).1,(C75 st r dat).2,()):=by
  have hU:=h.up
  simp only [X4,A4n,C75]
  by_cases h1:r.1=1
  · rw [A0 h1,if_pos h1,D8r st r.2.1 r.2.2 hid h hS hok]
    simp only [cond_true,bO,C2]
    by_cases hz:(A5K st r.2.1 r.2.2).2=0
    · rw [A0 hz,if_pos hz];rfl
    · rw [A4 hz,if_neg hz,C9a hz]
      simp only [Bool.not_false,cond_true,C1l st r.2.1 _ hU,bO]
  rw [A4 h1,if_neg h1]
  by_cases h3:r.1=3
  · rw [A0 h3,if_pos h3,E2f st r.2.1 r.2.2 dat hid h hS hok hb hd ho]
    simp only [cond_true,cond_false,bO,C2]
    by_cases hz:(A7c st r.2.1 r.2.2 dat).2=0
    · rw [A0 hz,if_pos hz]
      have hl:=C9d h hb hz
      have hlo:lenOf st r.2.1≤2000000000:=by
        unfold lenOf
        split
        · rename_i hh
          obtain ⟨hlt,_⟩:=L1.1 hh
          have hdl:=B3x hU _ (List.getElem_mem hlt)
          rw [← C4 (k:=kUp) hlt] at hdl
          omega
        · omega
      rw [w64 (by omega) (by omega)]
      rfl
    · rw [A4 hz,if_neg hz,D4j hz]
      simp only [Bool.not_false,cond_true,C1l st r.2.1 _ hU,bO]
  rw [A4 h3,if_neg h3]
  by_cases h4:r.1=4
  · rw [A0 h4,if_pos h4,D8t st r.2.1 r.2.2 hid h hS hok]
    simp only [cond_true,cond_false,bO,C2]
    by_cases hz:(A5L st r.2.1 r.2.2).2=0
    · rw [A0 hz,if_pos hz];rfl
    · rw [A4 hz,if_neg hz,C9b hz]
      simp only [Bool.not_false,cond_true,C1l st r.2.1 _ hU,bO]
  rw [A4 h4,if_neg h4]
  by_cases h6:r.1=6
  · rw [A0 h6,if_pos h6,D8v st r.2.1 hid h hS hok]
    simp only [cond_true,cond_false,bO,C2]
    by_cases hz:(A5M st r.2.1).2=0
    · rw [A0 hz,if_pos hz];rfl
    · rw [A4 hz,if_neg hz,C9c hz]
      simp only [Bool.not_false,cond_true,C1l st r.2.1 _ hU,bO]
  rw [A4 h6,if_neg h6,E2p st r hU]
  rfl
def U8(c:P0):P0:=if J1 c&&!A7h c then (c.1,c.2.1,2,c.2.2.2) else c
theorem C58(c:P0)(h:c.1.size≤maxLen)(h2:c.2.1.length≤140737488355328):A1b c=some (U8 c,()):=by
  simp only [A1b,C0e,pe,C95 _ h2,A6Y _ h,C94,A3,U8]
  cases J1 c<;>cases A7h c<;>simp
theorem D96(c:P0)(h:c.1.size≤maxLen)(h2:c.2.1.length≤140737488355328):A8p c=some (U8 c,()):=by
  simp only [A8p,C0I,pe,B1T _ h2,A6Z _ h,C3q,A3,U8]
  cases J1 c<;>cases A7h c<;>simp
theorem E8u{w:A6}(h:Sm 1048576 Z0 w):F1s w:=
  ⟨D60 (Nat.le_refl _) (Sm.l (Sm.l (Sm.l (Sm.l h)))),(Sm.r (Sm.l h)).1,⟨(Sm.l (Sm.r h)).1,fun c hc=>by
    have h1:Sm 1048576 B2 c:=(Sm.l (Sm.r h)).2 c hc
    have h2:c.1.size≤1048576:=Sm.l h1
    simp only [maxLen];omega⟩,⟨(Sm.l (Sm.r (Sm.r (Sm.r h)))).1,fun a ha=>by
    have h1:Sm 1048576 B9 a:=(Sm.l (Sm.r (Sm.r (Sm.r h)))).2 a ha
    have h2:a.2.1.2.1.size≤1048576:=Sm.l (Sm.r (Sm.l (Sm.r h1)))
    simp only [maxLen];omega⟩,(Sm.l (Sm.r (Sm.r (Sm.r (Sm.r h))))).1⟩
theorem E2q{s:C0}(h:D4f s):B7r s≤4000000000000000:=by
  have h1:=h.1.1.1.1
  have h2:=h.1.1.2.1
  have h3:=h.1.2.1
  have h4:=h.2
  have c1:=B0X (fun u:TUp=>List.length u.2.2.1+3) 2000000003 s.1.2.2.2 (fun u hu=>by have:=h.1.2.2 u hu;omega)
  have c2:=B0X (fun _:B7=>3) 3 s.2 (fun u hu=>Nat.le_refl _)
  have c3:s.1.2.2.2.length*2000000003≤1048576*2000000003:=Nat.mul_le_mul_right _ h3
  unfold B7r C9O E5A
  omega
abbrev E5F:K:=(.pair .str (.pair (.rs 5 (.int .u8)) F0))
abbrev E5G:K:=(.pair (.int .i64) (.pair L5 (.rs 5 (.int .u8))))
theorem A2b(k:K){xs:List k.T}{i:Nat}{x:k.T}(h:xs[i]? = some x):rd k xs (i:Int)=x:=by
  obtain ⟨hi,e⟩:=List.getElem?_eq_some_iff.1 h
  rw [C4 (k:=k) hi,e]
def rm{α:Type}(l:List α)(j:Nat):List α:=l.take j++l.drop (j+1)
theorem E2r{α:Type}{l:List α}{j:Nat}{x:α}(h:x∈rm l j):x∈l:=(List.mem_append.1 h).elim List.mem_of_mem_take List.mem_of_mem_drop
theorem E8v{α:Type}{l:List α}{j:Nat}(h:j<l.length):(rm l j).length+1=l.length:=by
  simp only [rm,List.length_append,List.length_take,List.length_drop]
  omega
theorem D4l(l:List B7)(i:Int)(hl:l.length≤1048576):A2T l i=some (l.filter (fun x=>!decide (x.1=i)),()):=by
  simp only [A2T,B1Q]
  refine D8 (A3I l i) (fun j=>((j:Int),(l.take j).filter (fun x=>!decide (x.1=i)),())) l.length (l.filter (fun x=>!decide (x.1=i)),()) (fun j hj=>?_) ?_
  · have h1:((j:Int)<(l.length:Int)):=by omega
    have h2:(0:Int)≤(j:Int):=by omega
    have hlen:=List.length_filter_le (fun x:B7=>!decide (x.1=i)) (l.take j)
    rw [List.length_take] at hlen
    simp only [A3I,A0 h1,A0 h2,cond_true]
    rw [A2b A9 (List.getElem?_eq_getElem hj),w64 (by omega) (by omega),List.take_succ_eq_append_getElem hj,List.filter_append]
    by_cases e:l[j].1=i
    · rw [A0 e]
      simp only [Bool.not_true,cond_false]
      have:([l[j]].filter fun x=>!decide (x.1=i)) = []:=by simp [e]
      rw [this,List.append_nil]
      rfl
    · rw [A4 e]
      simp only [Bool.not_false,cond_true]
      rw [A0 (by simp;omega),A0 (by simp;omega)]
      have:([l[j]].filter fun x=>!decide (x.1=i)) = [l[j]]:=by simp [e]
      rw [this]
      rfl
  · simp only [A3I,List.take_length]
    rw [A4 (by omega)]
    rfl
theorem E2s(w:A6)(i:Int)(hl:w.2.2.2.1.length≤1048576):B6 (A1d w i) (0,[],())=some (w.2.2.2.1.filter (fun x=>!decide (x.1=i)),()):=by
  refine D8 (A1d w i) (fun j=>((j:Int),(w.2.2.2.1.take j).filter (fun x=>!decide (x.1=i)),())) w.2.2.2.1.length (w.2.2.2.1.filter (fun x=>!decide (x.1=i)),()) (fun j hj=>?_) ?_
  · have h1:((j:Int)<(w.2.2.2.1.length:Int)):=by omega
    have h2:(0:Int)≤(j:Int):=by omega
    have hlen:=List.length_filter_le (fun x:D7=>!decide (x.1=i)) (w.2.2.2.1.take j)
    rw [List.length_take] at hlen
    simp only [A1d,A0 h1,A0 h2,cond_true]
    rw [A2b E5G (List.getElem?_eq_getElem hj),w64 (by omega) (by omega),List.take_succ_eq_append_getElem hj,List.filter_append]
    by_cases e:w.2.2.2.1[j].1=i
    · rw [A0 e]
      simp only [Bool.not_true,cond_false]
      have:([w.2.2.2.1[j]].filter fun x=>!decide (x.1=i)) = []:=by simp [e]
      rw [this,List.append_nil]
      rfl
    · rw [A4 e]
      simp only [Bool.not_false,cond_true]
      rw [A0 (by simp;omega),A0 (by simp;omega)]
      have:([w.2.2.2.1[j]].filter fun x=>!decide (x.1=i)) = [w.2.2.2.1[j]]:=by simp [e]
      rw [this]
      rfl
  · simp only [A1d,List.take_length]
    rw [A4 (by omega)]
    rfl
theorem F1W{α:Type}{l:List α}{i:Nat}{x:α}(h:l[i]? = some x):i<l.length:=(List.getElem?_eq_some_iff.1 h).1
def hOk(n:Nat)(h:B7):Prop:=X6 h.2=true∧0≤h.1∧h.1<(n:Int)
def wOk(n:Nat)(a:D7):Prop:=A3V a.2.1=true∧0≤a.1∧a.1<(n:Int)∧Byt a.2.2∧a.2.2.length≤1048576
def cOk(c:B1):Prop:=J1 c=true∧Byt c.2.1
structure RW (st:A8) (held:List B7) (cls:List B1) (busy:List Bool) (asks:List D7) (tells:List B7) (best:List Int):Prop where
  g:GoodS st
  lh:held.length≤200
  hd:∀ h∈held,hOk cls.length h
  n6:cls.length≤6
  lb:busy.length=cls.length
  lt:best.length=cls.length
  cl:∀ c∈cls,cOk c
  la:asks.length≤60
  ask:∀ a∈asks,wOk cls.length a
  l6:tells.length≤60
  tl:∀ h∈tells,hOk cls.length h
def RWw(w:A6):Prop:=RW w.1.1 w.1.2 w.2.1 w.2.2.1 w.2.2.2.1 w.2.2.2.2.1 w.2.2.2.2.2
theorem B42{id:ByteArray}{st st':A8}(hs:Steps id st st')(h:GoodS st):GoodS st':=by
  induction hs with
  | refl=>exact h
  | step h1 hr e1 e2 hlt hid _ hf ih=>exact (E2k ih hr e1 e2 hlt hf).1
theorem E6e{st:A8}{r:V6}{dat:List Int}(h:GoodS st)(hb:Byt dat):GoodS (C75 st r dat).1:=by
  have hR:=D64 h (C9X h)
  unfold C75
  split
  · exact B42 (D92 hR) h
  · split
    · exact B42 (E2n hR hb) h
    · split
      · exact B42 (D93 hR) h
      · split
        · exact B42 (D94 hR) h
        · exact h
theorem C42{st:A8}(h:Ups st.2.2.2)(id:ByteArray):0≤lenOf st id∧lenOf st id≤1000000000:=by
  unfold lenOf
  split
  · rename_i hh
    obtain ⟨hlt,_⟩:=L1.1 hh
    have hg:=h.2.2 _ (List.getElem_mem hlt)
    rw [C4 (k:=kUp) hlt]
    have h1:=hg.1
    have h2:=hg.2.1
    omega
  · omega
theorem B7w{s o:Int}(h1:100≤s)(h2:s≤599)(h3:-1≤o)(h4:o≤1000000000):X6 (s,o)=true:=by
  simp only [X6,Bool.and_eq_true,decide_eq_true_eq]
  omega
theorem B0a{st:A8}(h:Ups st.2.2.2)(c:Int)(id:ByteArray):X6 (A2a st c id)=true:=by
  have hl:=C42 h id
  unfold A2a
  repeat' split
  all_goals exact B7w (by omega) (by omega) (by omega) (by omega)
theorem F0U{st:A8}(h:Ups st.2.2.2)(r:V6):X6 (E2o st r)=true:=by
  have hl:=C42 h r.2.1
  unfold E2o
  repeat' split
  all_goals exact B7w (by omega) (by omega) (by omega) (by omega)
theorem E6f{st:A8}{r:V6}{dat:List Int}(h:GoodS st)(hb:Byt dat):X6 (C75 st r dat).2=true:=by
  have hU:=C9X h
  have hR:=D64 h hU
  unfold C75
  split
  · simp only
    split
    · exact B7w (by omega) (by omega) (by omega) (by omega)
    · exact B0a hU _ _
  · split
    · simp only
      split
      · rename_i hz
        obtain ⟨q1,q2,q3⟩:=C9d hR hb hz
        have hl:=C42 (D8p (id:=r.2.1) (off:=r.2.2) (dat:=dat) hR hb).1 r.2.1
        exact B7w (by omega) (by omega) (by omega) (by omega)
      · exact B0a hU _ _
    · split
      · simp only
        split
        · exact B7w (by omega) (by omega) (by omega) (by omega)
        · exact B0a hU _ _
      · split
        · simp only
          split
          · exact B7w (by omega) (by omega) (by omega) (by omega)
          · exact B0a hU _ _
        · exact F0U hU r
theorem D4m(x:List ByteArray)(hd:A5J (x,x)=true):∃ st b,E8 (x,x)=some (st,b,())∧Y3 (x,x)=some (st,b,())∧(b=true→GoodS st):=by
  obtain ⟨hS,_,h200,_⟩:=B0Z hd
  have hl:x.length≤200:=h200
  obtain ⟨st,b,o1,o2,o3,o4⟩:=F0O (x,x) hS
  refine ⟨st,b,o1,o2,fun hb=>?_⟩
  subst hb
  have hll:=B27 0 0 x
  have hfs:=A2Y (G4 x) (by simp only [maxLen,G4];omega) (B41 0 0 x)
  have htop:=C89 x
  cases hf:T0 [] (G4 x) with
  | none=>
    have hf':P7 (G4 x)=([],false,()):=by unfold P7;rw [hf]
    simp only [E8,O5,A7C,hd,B7v (x,x) hS.1,hfs,hf',A6c (x,x) hS.1,Y6 (x,x) hS,bO,Bool.not_true,Bool.not_false,cond_false,cond_true] at o1
    injection o1 with o1;injection o1 with _ o1;injection o1 with o1;cases o1
  | some us=>
    by_cases hep:A4z x+1≤10000
    · have hg:=D91 hd hf hep
      rw [E6b hg] at o1
      injection o1 with o1;injection o1 with o1
      rw [← o1];exact hg
    · have hf':P7 (G4 x)=(us,true,()):=by unfold P7;rw [hf]
      simp only [E8,O5,A7C,hd,B7v (x,x) hS.1,hfs,hf',A6c (x,x) hS.1,Y6 (x,x) hS,bO,Bool.not_true,Bool.not_false,cond_false,cond_true] at o1
      rw [w64 (n:=A4z x+1) (by omega) (by omega),A0 (show A4z x+1>10000 by omega)] at o1
      injection o1 with o1;injection o1 with _ o1;injection o1 with o1;cases o1
theorem D97{d:D6}(h:A5J d=true)(k:List Bool):A5J (C56 d k)=true:=by
  obtain ⟨_,h1,h2,h3,h4⟩:=B0Z h
  have hm:∀ s∈A8F d.1 d.2 k,s.size≤64:=fun s hs=>(F0T h1 hs).elim (h3 s) (h4 s)
  exact D8z rfl (by show (A8F d.1 d.2 k).length≤_;rw [C9Y];exact h2) hm hm
theorem E2t{st:A8}(h:GoodS st):GoodS ((st.1.1,st.1.1),st.2):=(E2m h).g
theorem A04{c:B1}(h:cOk c):c.1.size≤8∧c.2.1.length≤400∧idB c.1=true∧1≤c.2.2.1∧c.2.2.1≤6∧0≤c.2.2.2∧c.2.2.2≤(c.2.1.length:Int):=by
  have h1:=h.1
  simp only [J1,Bool.and_eq_true,decide_eq_true_eq] at h1
  have:=D8n h1.1.1.1
  refine ⟨this,by omega,h1.1.1.1,?_⟩
  omega
theorem B29{c:B1}(h:cOk c):c.1.size≤maxLen:=by
  have:=(A04 h).1
  simp only [maxLen];omega
theorem C9e{c:B1}(h:cOk c){s o:Int}(h1:1≤s)(h2:s≤6)(h3:0≤o)(h4:o≤(c.2.1.length:Int)):cOk (c.1,c.2.1,s,o):=by
  obtain ⟨_,g2,g3,_⟩:=A04 h
  refine ⟨?_,h.2⟩
  simp only [J1,Bool.and_eq_true,decide_eq_true_eq]
  exact ⟨⟨⟨g3,by omega⟩,by omega⟩,by omega⟩
theorem C9f{c:B1}(h:cOk c):cOk (U8 c):=by
  obtain ⟨_,_,_,_,_,h3,h4⟩:=A04 h
  unfold U8
  split
  · exact C9e h (by omega) (by omega) h3 h4
  · exact h
theorem F0V{c:B1}(h:cOk c)(o:Int):cOk (far c o):=by
  obtain ⟨_,_,_,_,_,h3,h4⟩:=A04 h
  unfold far
  split
  · rename_i hr
    split
    · exact C9e h (by omega) (by omega) hr.1 hr.2
    · exact C9e h (by omega) (by omega) hr.1 hr.2
  · exact C9e h (by omega) (by omega) h3 h4
theorem D66(s t:Int)(h1:1≤s)(h2:s≤6):0≤A4w s t∧A4w s t≤6:=by
  unfold A4w
  repeat' split
  all_goals omega
theorem E8w{c:B1}(h:cOk c)(r:N8):cOk (hear c r):=by
  obtain ⟨_,_,_,h1,h2,h3,h4⟩:=A04 h
  unfold hear
  split
  · exact F0V h _
  · rename_i hne
    have:=D66 c.2.2.1 r.1 h1 h2
    exact C9e h (by omega) (by omega) h3 h4
theorem E8x{r:V6}(h:A3V r=true):r.2.1.size≤8∧(0≤r.2.2∧r.2.2≤4294967295):=by
  simp only [A3V,Bool.and_eq_true,decide_eq_true_eq] at h
  refine ⟨D8n h.1.2,h.2.1,?_⟩
  have:=h.2.2
  unfold C1e at this
  split at this
  · omega
  · split at this
    · omega
    · split at this
      · omega
      · omega
theorem E2u{c:B1}(h:cOk c){r:V6}{d:List Int}(hq:X5 c=(r,d,true,())):A3V r=true∧Byt d∧d.length≤1048576:=by
  obtain ⟨_,h400,hid,h1,h2,h3,h4⟩:=A04 h
  have hl:=D8W c
  rw [hq] at hl
  have hl':d.length≤c.2.1.length:=hl
  have hcrc:=B7p h.2
  have hx:B1U c.2.1 ^^^ 4294967295<2 ^ 32:=Nat.xor_lt_two_pow hcrc (by omega)
  have mk:∀ (op n:Int),1≤op→op≤6→0≤n→n≤C1e op→A3V (op,c.1,n)=true:=fun op n g1 g2 g3 g4=>by
    simp only [A3V,Bool.and_eq_true,decide_eq_true_eq]
    exact ⟨⟨by omega,hid⟩,by omega⟩
  have key:(X5 c).2.2.1=true→A3V (X5 c).1=true∧Byt (X5 c).2.1:=by
    unfold X5
    rw [h.1]
    simp only [Bool.true_eq_false,if_false]
    split
    · exact fun _=>⟨mk 1 _ (by omega) (by omega) (by omega) (by show _≤(1000000000:Int);omega),A28⟩
    · split
      · exact fun _=>⟨mk 2 _ (by omega) (by omega) (by omega) (by show _≤(0:Int);omega),A28⟩
      · split
        · exact fun _=>⟨mk 3 _ (by omega) (by omega) (by omega) (by show _≤(1000000000:Int);omega),B25 (A77 h.2 _) _⟩
        · split
          · exact fun _=>⟨mk 4 _ (by omega) (by omega) (by omega) (by show _≤(4294967295:Int);omega),A28⟩
          · exact fun e=>by cases e
  rw [hq] at key
  obtain ⟨k1,k2⟩:=key rfl
  exact ⟨k1,k2,by omega⟩
theorem F0W(w:A6)(h:E6P w)(hok:U7 w=some (true,()))(i0:Nat)(hi0:i0<w.2.1.length):J1 (rd B2 w.2.1 (i0:Int))=true:=by
  cases hc:J1 (rd B2 w.2.1 (i0:Int)) with
  | true=>rfl
  | false=>
    exfalso
    have hl:=h.1
    obtain ⟨z,e,hz⟩:=A01 (J0 H6 w) (fun l=>((i0:Int)-l.1).toNat) (fun l=>0≤l.1∧l.1≤(i0:Int)) (fun z=>z=.inr (false,())) (fun l hl=>by
      obtain ⟨l1,u⟩:=l
      obtain ⟨h0,h1⟩:=hl
      simp only at h0 h1
      obtain ⟨i,rfl⟩:∃ i:Nat,l1=(i:Int):=⟨l1.toNat,by omega⟩
      have hi':i<w.2.1.length:=by omega
      have hsz:(rd B2 w.2.1 (i:Int)).1.size≤maxLen:=by
        rw [C4 (k:=B2) (xs:=w.2.1) hi']
        exact h.2 _ (List.getElem_mem hi')
      simp only [J0]
      rw [A0 (show (i:Int)<(w.2.1.length:Int) by omega),A0 h0,A6Y _ hsz]
      simp only [cond_true,A3]
      by_cases hii:i=i0
      · subst hii
        rw [hc]
        exact .inr ⟨_,rfl,rfl⟩
      · cases J1 (rd B2 w.2.1 (i:Int)) with
        | false=>exact .inr ⟨_,rfl,rfl⟩
        | true=>
          obtain ⟨z,e,hz⟩:=C52 w h i hi'
          simp only [Bool.not_true,cond_false]
          rw [e]
          rcases hz with rfl | rfl
          · exact .inl ⟨_,rfl,by simp only;omega,by simp only;omega⟩
          · exact .inr ⟨_,rfl,rfl⟩) (0,()) (by simp)
    subst hz
    simp only [U7,A4i,e,C2] at hok
    injection hok with hok;injection hok with hok;cases hok
theorem C9g{n:Nat}{l:List B7}(h:A1i n l=true):∀ x∈l,hOk n x:=fun x hx=>by
  obtain ⟨i,hi,rfl⟩:=List.getElem_of_mem hx
  have:=List.all_eq_true.1 h i (List.mem_range.2 hi)
  rw [C4 (k:=A9) (xs:=l) hi] at this
  simp only [D4g,Bool.and_eq_true,decide_eq_true_eq] at this
  exact ⟨this.1,by omega,by omega⟩
theorem E8y(w:A6)(hs:Sm 1048576 Z0 w)(hu:∀ u∈w.1.1.2.2.2,Byt u.2.2.1)(hcb:∀ c∈w.2.1,Byt c.2.1)(hab:∀ a∈w.2.2.2.1,Byt a.2.2)(hok:A0A w=some (true,())):RWw w:=by
  have hM:(1048576:Nat)≤maxLen:=by simp only [maxLen];omega
  have hWor:=E8u hs
  obtain ⟨h1,h2,h3,⟨h4,h4'⟩,h5⟩:=hWor
  have hc:=h3.1
  obtain ⟨bs,es,ei,hbs⟩:=C51 w.1 h1 h2
  obtain ⟨bc,cs,ci,hbc⟩:=C9S w h3
  have ht:=C1f w w.2.2.2.2.1 (by simp only [maxLen];omega) hc
  have hh:=C1f w w.1.2 (by simp only [maxLen];omega) hc
  have hloop:=C4x (Y5 A5k E4 w) w.2.2.2.1.length (by simp only [maxLen];omega) (fun i=>C53 w.2.1.length (rd B9 w.2.2.2.1 (i:Int))) (fun i hi=>by
    have g1:((i:Int)<(w.2.2.2.1.length:Int)):=by omega
    have g2:(0:Int)≤(i:Int):=by omega
    have hsz:(rd B9 w.2.2.2.1 (i:Int)).2.1.2.1.size≤maxLen:=by
      rw [C4 (k:=B9) (xs:=w.2.2.2.1) hi]
      exact h4' _ (List.getElem_mem hi)
    simp only [Y5,A0 g1,A0 g2,cond_true,Q6,C9Q _ hsz,A3,C53]
    rw [w64 (n:=(w.2.1.length:Int)-1) (by omega) (by omega)]
    cases decide (0≤(rd B9 w.2.2.2.1 (i:Int)).1∧(rd B9 w.2.2.2.1 (i:Int)).1≤(w.2.1.length:Int)-1)<;>cases A3V (rd B9 w.2.2.2.1 (i:Int)).2.1<;>rfl) (by simp [Y5])
  simp only [A0A,B0H,es,cs,ht,hh,hloop,A3] at hok
  have no:∀ {x:Bool},some (x,())=some (true,())→x=true:=fun h=>by injection h with h;injection h
  cases bs with
  | false=>exact absurd (no hok) (by simp)
  | true=>
  cases bc with
  | false=>exact absurd (no hok) (by simp)
  | true=>
  simp only [Bool.not_true,cond_false] at hok
  by_cases ga:(w.2.2.2.1.length:Int)>60
  · rw [A0 ga] at hok;exact absurd (no hok) (by simp)
  rw [A4 ga] at hok
  simp only [cond_false] at hok
  by_cases gt:(w.2.2.2.2.1.length:Int)>60
  · rw [A0 gt] at hok;exact absurd (no hok) (by simp)
  rw [A4 gt] at hok
  simp only [cond_false] at hok
  cases e1:A1i w.2.1.length w.2.2.2.2.1 with
  | false=>rw [e1] at hok;exact absurd (no hok) (by simp)
  | true=>
  rw [e1] at hok
  simp only [Bool.not_true,cond_false] at hok
  cases e2:A1i w.2.1.length w.1.2 with
  | false=>rw [e2] at hok;exact absurd (no hok) (by simp)
  | true=>
  rw [e2] at hok
  simp only [Bool.not_true,cond_false] at hok
  have hall:=no hok
  obtain ⟨k1,k2,k3⟩:=hbs rfl
  obtain ⟨n6,n2,n3⟩:=hbc rfl
  obtain ⟨b,s1,_,s3⟩:=C54 w.1.1 h1 hu
  rw [k1] at s1
  injection s1 with s1;injection s1 with s1
  refine {g:=s3.1 s1.symm,lh:=k3,hd:=C9g e2,n6:=n6,lb:=n2,lt:=n3,cl:=fun c hx=>⟨?_,hcb c hx⟩,la:=by omega,ask:=fun a ha=>?_,l6:=by omega,tl:=C9g e1}
  · obtain ⟨i,hi,rfl⟩:=List.getElem_of_mem hx
    have:=F0W w h3 cs i hi
    rw [C4 (k:=B2) (xs:=w.2.1) hi] at this
    exact this
  · have hm:Sm 1048576 B9 a:=(Sm.l (Sm.r (Sm.r (Sm.r hs)))).2 a ha
    obtain ⟨i,hi,rfl⟩:=List.getElem_of_mem ha
    have:=List.all_eq_true.1 hall i (List.mem_range.2 hi)
    rw [C4 (k:=B9) (xs:=w.2.2.2.1) hi] at this
    simp only [C53,Bool.and_eq_true,decide_eq_true_eq] at this
    exact ⟨this.1,by omega,by omega,hab _ (List.getElem_mem hi),(Sm.r (Sm.r hm)).1⟩
def F0X(w:A6):Prop:=Sm maxLen A29 w∧F1t w∧C9T w≤4100000000000000
theorem E5H{st:A8}{held:List B7}{cls:List B1}{busy:List Bool}{asks:List D7}{tells:List B7}{best:List Int}(hS:A7b st)(hu:∀ u∈st.2.2.2,u.1.size≤1048576)(h1:held.length≤1048576)(h2:cls.length≤1048576)(hc:∀ c∈cls,c.1.size≤1048576∧c.2.1.length≤1048576)
    (h3:busy.length≤1048576) (h4:asks.length≤1048576) (ha:∀ a∈asks,a.2.1.2.1.size≤1048576∧a.2.2.length≤1048576) (h5:tells.length≤1048576) (h6:best.length≤1048576):F0X (((st,held),(cls,(busy,(asks,(tells,best))))):A6):=by
  have hM:(2000000000:Nat)≤maxLen:=by simp only [maxLen];omega
  have secs:∀ {l:List ByteArray},A5s l→Sm maxLen (.sl 9 .str) l:=fun h=>⟨by have:=h.1;omega,fun s hs=>by have:=h.2 s hs;show s.size≤_;omega⟩
  have sv:D4f (st,held):=⟨hS,h1⟩
  have nv:=E2q sv
  have c1:=B0X (fun u:B1=>List.length u.2.1+3) 1048579 cls (fun u hu=>by have:=(hc u hu).2;omega)
  have c2:=B0X (fun _:Bool=>1) 1 busy (fun u hu=>Nat.le_refl _)
  have c3:=B0X (fun u:D7=>List.length u.2.2+4) 1048580 asks (fun u hu=>by have:=(ha u hu).2;omega)
  have c4:=B0X (fun _:B7=>3) 3 tells (fun u hu=>Nat.le_refl _)
  have c5:=B0X (fun _:Int=>1) 1 best (fun u hu=>Nat.le_refl _)
  have e1:cls.length*1048579≤1048576*1048579:=Nat.mul_le_mul_right _ h2
  have e3:asks.length*1048580≤1048576*1048580:=Nat.mul_le_mul_right _ h4
  refine ⟨⟨⟨⟨⟨secs hS.1.1,secs hS.1.2⟩,trivial,trivial,⟨by have:=hS.2.1;show List.length st.2.2.2≤_;omega,fun u hm=>?_⟩⟩,⟨by show held.length≤_;omega,fun x _=>⟨trivial,trivial,trivial⟩⟩⟩,⟨by show cls.length≤_;omega,fun x hx=>?_⟩,⟨by show busy.length≤_;omega,fun _ _=>trivial⟩,⟨by show asks.length≤_;omega,fun x hx=>?_⟩,⟨by show tells.length≤_;omega,fun x _=>⟨trivial,trivial,trivial⟩⟩,⟨by show best.length≤_;omega,fun _ _=>trivial⟩⟩,⟨hS.2.1,h1,h2,h3,h4,h5,h6⟩,?_⟩
  · have g1:=hu u hm
    have g2:=hS.2.2 u hm
    exact ⟨by show u.1.size≤_;omega,trivial,⟨by show List.length u.2.2.1≤_;omega,fun _ _=>trivial⟩,trivial⟩
  · obtain ⟨g1,g2⟩:=hc x hx
    exact ⟨by show x.1.size≤_;omega,⟨by show x.2.1.length≤_;omega,fun _ _=>trivial⟩,trivial,trivial⟩
  · obtain ⟨g1,g2⟩:=ha x hx
    exact ⟨trivial,⟨trivial,by show x.2.1.2.1.size≤_;omega,trivial⟩,⟨by show List.length x.2.2≤_;omega,fun _ _=>trivial⟩⟩
  · simp only [C9T]
    omega
theorem F1u{w:A6}(h:RWw w):F0X w:=by
  obtain ⟨⟨st,held⟩,cls,busy,asks,tells,best⟩:=w
  unfold RWw at h
  simp only at h
  obtain ⟨hR,hS,_⟩:=C9Z h.g
  have hU:=hR.up
  have hn:=h.n6
  have hlb:=h.lb
  have hlt:=h.lt
  have h60:=h.la
  have h6:=h.l6
  have h200:=h.lh
  exact E5H hS (fun u hu=>by have:=(hU.2.2 u hu).2.2.1;omega) (by omega) (by omega) (fun c hc=>by have:=A04 (h.cl c hc);omega) (by omega) (by omega) (fun a ha=>by
    obtain ⟨g1,_,_,_,g5⟩:=h.ask a ha
    have:=(E8x g1).1
    omega) (by omega) (by omega)
theorem E5I{w:A6}(hs:Sm 1048576 Z0 w):F0X w:=by
  obtain ⟨⟨st,held⟩,cls,busy,asks,tells,best⟩:=w
  have hS:=E5B (Nat.le_refl _) (Sm.l hs)
  have hup:Sm 1048576 (.sl 0 kUp) st.2.2.2:=Sm.r (Sm.r (Sm.r (Sm.l (Sm.l hs))))
  have hcl:Sm 1048576 (.sl 0 B2) cls:=Sm.l (Sm.r hs)
  have hbu:Sm 1048576 (.sl 0 .bool) busy:=Sm.l (Sm.r (Sm.r hs))
  have has:Sm 1048576 (.sl 0 B9) asks:=Sm.l (Sm.r (Sm.r (Sm.r hs)))
  have hte:Sm 1048576 (.sl 0 A9) tells:=Sm.l (Sm.r (Sm.r (Sm.r (Sm.r hs))))
  have hbe:Sm 1048576 (.sl 0 (.int .i64)) best:=Sm.r (Sm.r (Sm.r (Sm.r (Sm.r hs))))
  exact E5H hS.1 (fun u hu=>Sm.l (hup.2 u hu)) hS.2 hcl.1 (fun c hc=>by
    have h1:Sm 1048576 B2 c:=hcl.2 c hc
    exact ⟨Sm.l h1,(Sm.l (Sm.r h1)).1⟩) hbu.1 has.1 (fun a ha=>by
    have h1:Sm 1048576 B9 a:=has.2 a ha
    exact ⟨Sm.l (Sm.r (Sm.l (Sm.r h1))),(Sm.r (Sm.r h1)).1⟩) hte.1 hbe.1
def C59(w:A6)(i:Int):Bool×A6:=
  if 0≤i∧i<(w.2.1.length:Int)∧rd .bool w.2.2.1 i=false∧¬ (w.2.2.2.1.length:Int)=60∧(X5 (rd B2 w.2.1 i)).2.2.1=true then
    (true,(w.1,(w.2.1,(w.2.2.1.set i.toNat true,(w.2.2.2.1 ++ [(i,((X5 (rd B2 w.2.1 i)).1,(X5 (rd B2 w.2.1 i)).2.1))],w.2.2.2.2)))))
  else (false,w)
def B6O(w:A6)(j:Int):Bool×A6:=
  if 0≤j∧j<(w.2.2.2.1.length:Int)∧¬ (w.1.2.length:Int)=200 then
    (true,(((C75 w.1.1 (rd B9 w.2.2.2.1 j).2.1 (rd B9 w.2.2.2.1 j).2.2).1,w.1.2 ++ [((rd B9 w.2.2.2.1 j).1,(C75 w.1.1 (rd B9 w.2.2.2.1 j).2.1 (rd B9 w.2.2.2.1 j).2.2).2)]),(w.2.1,(w.2.2.1,(rm w.2.2.2.1 j.toNat,w.2.2.2.2)))))
  else (false,w)
def C5A(w:A6):Bool×A6:=
  if (w.2.2.2.2.1.length:Int)+(w.1.2.length:Int)>60 then (false,w)
  else (true,((((w.1.1.1.1,w.1.1.1.1),w.1.1.2),[]),(w.2.1,(w.2.2.1,(w.2.2.2.1,(w.2.2.2.2.1++w.1.2,w.2.2.2.2.2))))))
def E8z(a b:Int):Int:=bif decide (b>a) then b else a
def C5B(w:A6)(j:Int):Bool×A6:=
  if 0≤j∧j<(w.2.2.2.2.1.length:Int) then
    if rd .bool w.2.2.1 (rd A9 w.2.2.2.2.1 j).1=true then
      (true,(w.1,(w.2.1.set (rd A9 w.2.2.2.2.1 j).1.toNat (A2X (rd B2 w.2.1 (rd A9 w.2.2.2.2.1 j).1) (rd A9 w.2.2.2.2.1 j).2),(w.2.2.1.set (rd A9 w.2.2.2.2.1 j).1.toNat false,(w.2.2.2.1,(rm w.2.2.2.2.1 j.toNat,w.2.2.2.2.2.set (rd A9 w.2.2.2.2.1 j).1.toNat (E8z (rd (.int .i64) w.2.2.2.2.2 (rd A9 w.2.2.2.2.1 j).1) (rd A9 w.2.2.2.2.1 j).2.2)))))))
    else (true,(w.1,(w.2.1,(w.2.2.1,(w.2.2.2.1,(rm w.2.2.2.2.1 j.toNat,w.2.2.2.2.2))))))
  else (false,w)
def D98(w:A6)(i:Int):Bool×A6:=
  if 0≤i∧i<(w.2.1.length:Int) then
    (true,((w.1.1,w.1.2.filter (fun x=>!decide (x.1=i))),(w.2.1.set i.toNat (U8 (rd B2 w.2.1 i)),(w.2.2.1.set i.toNat false,(w.2.2.2.1.filter (fun x=>!decide (x.1=i)),(w.2.2.2.2.1.filter (fun x=>!decide (x.1=i)),w.2.2.2.2.2))))))
  else (false,w)
noncomputable def B6P(w:A6)(ke:List Bool):Bool×A6:=
  match E8 (C56 w.1.1.1 ke) with
  | some (st,true,_)=>(true,((st,[]),(w.2.1.map U8,(List.replicate w.2.1.length false,([],([],w.2.2.2.2.2))))))
  | _=>(false,w)
noncomputable def evF(w:A6)(e:D5):Bool×A6:=
  if e.1=1 then C59 w e.2.1 else if e.1=2 then B6O w e.2.1 else if e.1=3 then C5A w else if e.1=4 then C5B w e.2.1 else if e.1=5 then D98 w e.2.1 else if e.1=6 then B6P w e.2.2 else (false,w)
theorem F0Y{w:A6}(h:RWw w)(i:Int):RWw (C59 w i).2:=by
  unfold C59
  split
  · rename_i hc
    obtain ⟨h0,h1,h2,h3,h4⟩:=hc
    obtain ⟨⟨st,held⟩,cls,busy,asks,tells,best⟩:=w
    simp only at h0 h1 h2 h3 h4 ⊢
    unfold RWw at h ⊢
    simp only at h ⊢
    obtain ⟨i,rfl⟩:∃ j:Nat,i=(j:Int):=⟨i.toNat,by omega⟩
    have hi:i<cls.length:=by omega
    rw [C4 (k:=B2) (xs:=cls) hi] at h4 ⊢
    have hla:=h.la
    obtain ⟨k1,k2,k3⟩:=E2u (h.cl _ (List.getElem_mem hi)) (r:=(X5 cls[i]).1) (d:=(X5 cls[i]).2.1) (by rw [← h4])
    refine {h with lb:=by rw [List.length_set];exact h.lb,la:=by simp only [List.length_append,List.length_cons,List.length_nil];omega,ask:=fun a ha=>?_}
    rcases List.mem_append.1 ha with ha | ha
    · exact h.ask a ha
    · rw [List.mem_singleton.1 ha]
      exact ⟨k1,by show (0:Int)≤(i:Int);omega,by show (i:Int)<_;omega,k2,k3⟩
  · exact h
theorem E90{w:A6}(h:RWw w)(j:Int):RWw (B6O w j).2:=by
  unfold B6O
  split
  · rename_i hc
    obtain ⟨h0,h1,h2⟩:=hc
    obtain ⟨⟨st,held⟩,cls,busy,asks,tells,best⟩:=w
    simp only at h0 h1 h2 ⊢
    unfold RWw at h ⊢
    simp only at h ⊢
    obtain ⟨j,rfl⟩:∃ q:Nat,j=(q:Int):=⟨j.toNat,by omega⟩
    have hj:j<asks.length:=by omega
    rw [C4 (k:=B9) (xs:=asks) hj]
    obtain ⟨g1,g2,g3,g4,g5⟩:=h.ask _ (List.getElem_mem hj)
    have hlh:=h.lh
    have hla:=h.la
    rw [Int.toNat_natCast]
    have hrl:=E8v hj
    refine {h with g:=E6e h.g g4,lh:=by simp only [List.length_append,List.length_cons,List.length_nil];omega,hd:=fun x hx=>?_,la:=by omega,ask:=fun x hx=>h.ask x (E2r hx)}
    rcases List.mem_append.1 hx with hx | hx
    · exact h.hd x hx
    · rw [List.mem_singleton.1 hx]
      exact ⟨E6f h.g g4,g2,g3⟩
  · exact h
theorem F0Z{w:A6}(h:RWw w):RWw (C5A w).2:=by
  unfold C5A
  split
  · exact h
  · rename_i hc
    obtain ⟨⟨st,held⟩,cls,busy,asks,tells,best⟩:=w
    simp only at hc ⊢
    unfold RWw at h ⊢
    simp only at h ⊢
    exact {h with g:=E2t h.g,lh:=by simp,hd:=fun x hx=>(by cases hx),l6:=by simp only [List.length_append];omega,tl:=fun x hx=>(List.mem_append.1 hx).elim (h.tl x) (h.hd x)}
theorem D67{c:B1}(h:cOk c)(r:N8):cOk (A2X c r):=by
  unfold A2X
  split
  · exact E8w h r
  · exact h
theorem E5J{α:Type}{l:List α}{i:Nat}{v x:α}(h:x∈l.set i v):x∈l∨x=v:=List.mem_or_eq_of_mem_set h
theorem F0a{w:A6}(h:RWw w)(j:Int):RWw (C5B w j).2:=by
  unfold C5B
  split
  · rename_i hc
    obtain ⟨h0,h1⟩:=hc
    obtain ⟨⟨st,held⟩,cls,busy,asks,tells,best⟩:=w
    simp only at h0 h1 ⊢
    obtain ⟨j,rfl⟩:∃ q:Nat,j=(q:Int):=⟨j.toNat,by omega⟩
    have hj:j<tells.length:=by omega
    have hrl:=E8v hj
    have hl6:=h.l6
    simp only at hl6
    rw [C4 (k:=A9) (xs:=tells) hj,Int.toNat_natCast]
    have hh:=h.tl _ (List.getElem_mem hj)
    simp only at hh
    obtain ⟨g1,g2,g3⟩:=hh
    split
    · unfold RWw at h ⊢
      simp only at h ⊢
      have hlen:(cls.set tells[j].1.toNat (A2X (rd B2 cls tells[j].1) tells[j].2)).length=cls.length:=List.length_set
      refine {h with n6:=by rw [hlen];exact h.n6,lb:=by rw [hlen,List.length_set];exact h.lb,lt:=by rw [hlen,List.length_set];exact h.lt,cl:=fun c hc=>?_,ask:=fun a ha=>by rw [hlen];exact h.ask a ha,hd:=fun a ha=>by rw [hlen];exact h.hd a ha,tl:=fun a ha=>by rw [hlen];exact h.tl a (E2r ha),l6:=by omega}
      rcases E5J hc with hc | hc
      · exact h.cl c hc
      · rw [hc]
        refine D67 ?_ _
        obtain ⟨i,hi⟩:∃ i:Nat,tells[j].1=(i:Int):=⟨tells[j].1.toNat,by omega⟩
        rw [hi,C4 (k:=B2) (xs:=cls) (by omega)]
        exact h.cl _ (List.getElem_mem _)
    · unfold RWw at h ⊢
      simp only at h ⊢
      exact {h with l6:=by omega,tl:=fun a ha=>h.tl a (E2r ha)}
  · exact h
theorem F1X{w:A6}(h:RWw w)(i:Int):RWw (D98 w i).2:=by
  unfold D98
  split
  · rename_i hc
    obtain ⟨h0,h1⟩:=hc
    obtain ⟨⟨st,held⟩,cls,busy,asks,tells,best⟩:=w
    simp only at h0 h1 ⊢
    unfold RWw at h ⊢
    simp only at h ⊢
    obtain ⟨i,rfl⟩:∃ j:Nat,i=(j:Int):=⟨i.toNat,by omega⟩
    have hi:i<cls.length:=by omega
    rw [C4 (k:=B2) (xs:=cls) hi,Int.toNat_natCast]
    have hlen:(cls.set i (U8 cls[i])).length=cls.length:=List.length_set
    have l1:=List.length_filter_le (fun x:B7=>!decide (x.1=(i:Int))) held
    have l2:=List.length_filter_le (fun x:D7=>!decide (x.1=(i:Int))) asks
    have l3:=List.length_filter_le (fun x:B7=>!decide (x.1=(i:Int))) tells
    have k1:=h.lh
    have k2:=h.la
    have k3:=h.l6
    refine {h with n6:=by rw [hlen];exact h.n6,lb:=by rw [hlen,List.length_set];exact h.lb,lt:=by rw [hlen];exact h.lt,cl:=fun c hc=>?_,ask:=fun a ha=>by rw [hlen];exact h.ask a (List.mem_filter.1 ha).1,hd:=fun a ha=>by rw [hlen];exact h.hd a (List.mem_filter.1 ha).1,tl:=fun a ha=>by rw [hlen];exact h.tl a (List.mem_filter.1 ha).1,lh:=Nat.le_trans l1 k1,la:=Nat.le_trans l2 k2,l6:=Nat.le_trans l3 k3}
    rcases E5J hc with hc | hc
    · exact h.cl c hc
    · rw [hc];exact C9f (h.cl _ (List.getElem_mem hi))
  · exact h
theorem E91{w:A6}(h:RWw w)(ke:List Bool):RWw (B6P w ke).2:=by
  obtain ⟨st,b,o1,o2,o3⟩:=D4m _ (D97 h.g.dk ke)
  unfold B6P
  have o1':E8 (C56 w.1.1.1 ke)=some (st,b,()):=o1
  rw [o1']
  cases b with
  | false=>exact h
  | true=>
    obtain ⟨⟨st0,held⟩,cls,busy,asks,tells,best⟩:=w
    unfold RWw at h ⊢
    simp only at h ⊢
    exact {g:=o3 rfl,lh:=by simp,hd:=fun x hx=>(by cases hx),n6:=by rw [List.length_map];exact h.n6,lb:=by simp,lt:=by rw [List.length_map];exact h.lt,cl:=fun c hc=>by obtain ⟨a,ha,rfl⟩:=List.mem_map.1 hc;exact C9f (h.cl a ha),la:=by simp,ask:=fun x hx=>(by cases hx),l6:=by simp,tl:=fun x hx=>(by cases hx)}
theorem F1v{w:A6}(h:RWw w)(e:D5):RWw (evF w e).2:=by
  unfold evF
  repeat' split
  · exact F0Y h _
  · exact E90 h _
  · exact F0Z h
  · exact F0a h _
  · exact F1X h _
  · exact E91 h _
  · exact h
theorem E92{α:Type}{l:List α}{j:Nat}(h:j<l.length):B4I l (j:Int) ((j:Int)+1)=some (rm l j,()):=by
  unfold B4I
  rw [A0 (show (0:Int)≤(j:Int) by omega),A0 (show (j:Int)<(j:Int)+1 by omega),A0 (show (j:Int)+1≤(l.length:Int) by omega)]
  simp only [cond_true]
  rw [Int.toNat_natCast,show ((j:Int)+1).toNat=j+1 by omega]
  rfl
theorem E93{α:Type}{l:List α}{j:Nat}:([]++(l.take j).drop 0)++(l.take l.length).drop ((j:Int)+1).toNat=rm l j:=by
  unfold rm
  rw [show ((j:Int)+1).toNat=j+1 by omega,List.drop_zero,List.take_length]
  rfl
theorem E5K{w:A6}(h:RWw w)(i:Int):A1K w i=some ((C59 w i).1,(C59 w i).2,())∧A2U w i=some ((C59 w i).1,(C59 w i).2,()):=by
  obtain ⟨⟨st,held⟩,cls,busy,asks,tells,best⟩:=w
  unfold RWw at h
  simp only at h
  have hn:=h.n6
  have hlb:=h.lb
  have hla:=h.la
  simp only [A1K,A8l,A2U,B1R,L2,Q6,bO,C59]
  rw [w64 (n:=(cls.length:Int)-1) (by omega) (by omega)]
  by_cases hr:0≤i∧i≤(cls.length:Int)-1
  · obtain ⟨i,rfl⟩:∃ j:Nat,i=(j:Int):=⟨i.toNat,by omega⟩
    have hic:i<cls.length:=by omega
    obtain ⟨cl,hcl⟩:∃ x,cls[i]? = some x:=⟨_,List.getElem?_eq_getElem hic⟩
    obtain ⟨b,hb⟩:∃ x,busy[i]? = some x:=⟨_,List.getElem?_eq_getElem (by omega)⟩
    have hg:=h.cl cl (List.mem_of_getElem? hcl)
    rw [A0 hr,A0 (show (0:Int)≤(i:Int) by omega),A0 (show (i:Int)<(busy.length:Int) by omega),A0 (show (i:Int)<(cls.length:Int) by omega),A2b .bool hb,A2b E5F hcl,A2b B2 hcl,D5v cl (B29 hg) hg.2,D5u cl (B29 hg) hg.2]
    simp only [Bool.not_true,cond_false,cond_true]
    cases b with
    | true=>
      rw [if_neg (fun hx=>by have:=hx.2.2.1;cases this)]
      exact ⟨rfl,rfl⟩
    | false=>
      simp only [cond_false]
      by_cases h60:(asks.length:Int)=60
      · rw [A0 h60,A0 (show (asks.length:Int)≥60 by omega),if_neg (fun hx=>hx.2.2.2.1 h60)]
        exact ⟨rfl,rfl⟩
      · rw [A4 h60,A4 (show ¬ (asks.length:Int)≥60 by omega)]
        simp only [cond_false,C2,bO]
        generalize X5 cl=q
        obtain ⟨r,dat,ok,u⟩:=q
        cases ok with
        | false=>
          rw [if_neg (fun hx=>by have:=hx.2.2.2.2;cases this)]
          exact ⟨rfl,rfl⟩
        | true=>
          rw [if_pos ⟨by omega,by omega,trivial,h60,rfl⟩]
          simp only [Bool.not_true,cond_false,cond_true]
          rw [A0 (by simp;omega),A0 (by simp;omega)]
          exact ⟨rfl,rfl⟩
  · rw [A4 hr,if_neg (fun hx=>hr ⟨hx.1,by omega⟩)]
    exact ⟨rfl,rfl⟩
theorem D4n{w:A6}(h:RWw w)(j:Int):A0Y w j=some ((B6O w j).1,(B6O w j).2,())∧A1c w j=some ((B6O w j).1,(B6O w j).2,()):=by
  obtain ⟨⟨st,held⟩,cls,busy,asks,tells,best⟩:=w
  unfold RWw at h
  simp only at h
  have hla:=h.la
  have hlh:=h.lh
  obtain ⟨hR,hS,hok,_⟩:=C9Z h.g
  simp only [A0Y,A7P,A1c,A9I,L2,Q6,bO,B6O]
  rw [w64 (n:=(asks.length:Int)-1) (by omega) (by omega)]
  by_cases hr:0≤j∧j≤(asks.length:Int)-1
  · obtain ⟨j,rfl⟩:∃ q:Nat,j=(q:Int):=⟨j.toNat,by omega⟩
    have hjl:j<asks.length:=by omega
    obtain ⟨a,ha⟩:∃ x,asks[j]? = some x:=⟨_,List.getElem?_eq_getElem hjl⟩
    obtain ⟨g1,g2,g3,g4,g5⟩:=h.ask a (List.mem_of_getElem? ha)
    obtain ⟨q1,q2,q3⟩:=E8x g1
    have hid:a.2.1.2.1.size≤maxLen:=by simp only [maxLen];omega
    have ho:-9223372036854775808≤a.2.1.2.2∧a.2.1.2.2≤9223372036854775807:=by omega
    rw [A0 hr,A0 (show (0:Int)≤(j:Int) by omega),A0 (show (j:Int)<(asks.length:Int) by omega),A0 (show (j:Int)≤(asks.length:Int) by omega),A2b E5G ha,A2b B9 ha,w64 (n:=(j:Int)+1) (by omega) (by omega)]
    simp only [Bool.not_true,cond_false,cond_true,A1y,A5d,C9R a.2.1 hid,g1,bO]
    by_cases h200:(held.length:Int)=200
    · rw [A0 h200,A0 (show (held.length:Int)≥200 by omega),if_neg (fun hx=>hx.2.2 h200)]
      exact ⟨rfl,rfl⟩
    · rw [A4 h200,A4 (show ¬ (held.length:Int)≥200 by omega),if_pos ⟨by omega,by omega,h200⟩]
      have e1:=E6d st a.2.1 a.2.2 hid hR hS hok g4 g5 ho
      have e2:=D95 (st,held) a.2.1 a.2.2 hid hR g4 g5 ho
      simp only [cond_false,C2,e1,e2,bO,I0,E92 hjl,E93,Int.toNat_natCast]
      rw [A0 (by simp;omega),A0 (by simp;omega),A0 (show (0:Int)≤(j:Int)+1 by omega),A0 (show (j:Int)+1≤(asks.length:Int) by omega),A0 (by simp;omega),A0 (by simp;omega),A0 (by simp;omega),A0 (by simp;omega)]
      exact ⟨rfl,rfl⟩
  · rw [A4 hr,if_neg (fun hx=>hr ⟨hx.1,by omega⟩)]
    exact ⟨rfl,rfl⟩
theorem D99{w:A6}(h:RWw w):A1L w=some ((C5A w).1,(C5A w).2,())∧A6z w=some ((C5A w).1,(C5A w).2,()):=by
  obtain ⟨⟨st,held⟩,cls,busy,asks,tells,best⟩:=w
  unfold RWw at h
  simp only at h
  have hl6:=h.l6
  have hlh:=h.lh
  obtain ⟨hR,hS,_⟩:=C9Z h.g
  simp only [A1L,A8n,A6z,B63,A0O,A3P,C5A,E2W st.1 hS.1,E2X st.1 hS.1,bO]
  rw [w64 (n:=(tells.length:Int)+(held.length:Int)) (by omega) (by omega)]
  by_cases h60:(tells.length:Int)+(held.length:Int)>60
  · rw [A0 h60,if_pos h60];exact ⟨rfl,rfl⟩
  · rw [A4 h60,if_neg h60,A0 (by omega),A0 (by omega)]
    exact ⟨rfl,rfl⟩
theorem E5L{a b:Int}(h:b>a):E8z a b=b:=by unfold E8z;rw [A0 h];rfl
theorem E5M{a b:Int}(h:¬ b>a):E8z a b=a:=by unfold E8z;rw [A4 h];rfl
theorem D9A{w:A6}(h:RWw w)(j:Int):A1M w j=some ((C5B w j).1,(C5B w j).2,())∧A2V w j=some ((C5B w j).1,(C5B w j).2,()):=by
  obtain ⟨⟨st,held⟩,cls,busy,asks,tells,best⟩:=w
  unfold RWw at h
  simp only at h
  have hn:=h.n6
  have hl6:=h.l6
  have hlb:=h.lb
  have hlt:=h.lt
  simp only [A1M,A8o,A2V,B1S,L2,Q6,bO,C5B]
  rw [w64 (n:=(tells.length:Int)-1) (by omega) (by omega)]
  by_cases hr:0≤j∧j≤(tells.length:Int)-1
  · obtain ⟨j,rfl⟩:∃ q:Nat,j=(q:Int):=⟨j.toNat,by omega⟩
    have hjl:j<tells.length:=by omega
    obtain ⟨a,ha⟩:∃ x,tells[j]? = some x:=⟨_,List.getElem?_eq_getElem hjl⟩
    obtain ⟨g1,g2,g3⟩:=h.tl a (List.mem_of_getElem? ha)
    obtain ⟨who,resp⟩:=a
    simp only at g1 g2 g3
    obtain ⟨i,rfl⟩:∃ q:Nat,who=(q:Int):=⟨who.toNat,by omega⟩
    have hic:i<cls.length:=by omega
    obtain ⟨cl,hcl⟩:∃ x,cls[i]? = some x:=⟨_,List.getElem?_eq_getElem hic⟩
    obtain ⟨b,hb⟩:∃ x,busy[i]? = some x:=⟨_,List.getElem?_eq_getElem (show i<busy.length by omega)⟩
    obtain ⟨bt0,hbt⟩:∃ x,best[i]? = some x:=⟨_,List.getElem?_eq_getElem (show i<best.length by omega)⟩
    have hg:=h.cl cl (List.mem_of_getElem? hcl)
    have hsz:=A04 hg
    rw [A0 hr,A2b A9 ha]
    have hhr:A2X cl resp=if A7h cl=true then cl else hear cl resp:=by
      unfold A2X
      rw [hg.1,g1]
      cases A7h cl<;>rfl
    have hset:∀ {α:Type} {l:List α} {n:Nat} {v:α},l[n]? = some v→l.set n v=l:=fun {α l n v} hv=>by
      obtain ⟨hn,e⟩:=List.getElem?_eq_some_iff.1 hv
      rw [← e];exact List.set_getElem_self hn
    simp only [Bool.not_true,cond_false]
    rw [if_pos (show (0:Int)≤(j:Int)∧(j:Int)<(tells.length:Int) by omega),A2b .bool hb,A2b B2 hcl,A2b (.int .i64) hbt,w64 (n:=(j:Int)+1) (by omega) (by omega),Int.toNat_natCast,Int.toNat_natCast]
    constructor
    · rw [A0 (show (0:Int)≤(j:Int) by omega),A0 (show (j:Int)<(tells.length:Int) by omega),A0 (show (0:Int)≤(i:Int) by omega),A0 (show (i:Int)<(busy.length:Int) by omega),A0 (show (i:Int)<(cls.length:Int) by omega),A0 (show (i:Int)<(best.length:Int) by omega),D2L cl resp (B29 hg) (by omega)]
      simp only [cond_true,bO,I2,E92 hjl]
      cases b<;>rfl
    · rw [A0 (show (0:Int)≤(j:Int) by omega),A0 (show (j:Int)<(tells.length:Int) by omega),A0 (show (j:Int)≤(tells.length:Int) by omega),
        A0 (show (0:Int)≤(j:Int)+1 by omega),A0 (show (j:Int)+1≤(tells.length:Int) by omega),A0 (by simp;omega),A0 (by simp;omega),A0 (by simp;omega),A0 (by simp;omega),
        A0 (show (0:Int)≤(i:Int) by omega),A0 (show (i:Int)<(busy.length:Int) by omega),A0 (show (i:Int)<(cls.length:Int) by omega),A2b E5F hcl,C94,E2T]
      simp only [cond_true,bO,E93]
      cases b with
      | false=>rfl
      | true=>
        simp only [cond_true,if_true]
        cases hov:A7h cl with
        | true=>
          have e1:A2X cl resp=cl:=by rw [hhr,hov];rfl
          rw [e1,hset hcl]
          simp only [Bool.not_true,cond_false,cond_true,bO]
          rw [A0 (show (i:Int)<(best.length:Int) by omega),A2b (.int .i64) hbt]
          by_cases hgt:resp.2>bt0
          · rw [A0 hgt,E5L hgt];rfl
          · rw [A4 hgt,E5M hgt,hset hbt];rfl
        | false=>
          have e1:A2X cl resp=hear cl resp:=by rw [hhr,hov];rfl
          rw [e1]
          simp only [Bool.not_false,cond_false,cond_true,bO]
          rw [A0 (show (i:Int)<(best.length:Int) by omega),A2b (.int .i64) hbt]
          by_cases hgt:resp.2>bt0
          · rw [A0 hgt,E5L hgt];rfl
          · rw [A4 hgt,E5M hgt,hset hbt];rfl
  · rw [A4 hr,if_neg (fun hx=>hr ⟨hx.1,by omega⟩)]
    exact ⟨rfl,rfl⟩
theorem E5N{w:A6}{i:Nat}{cl:B1}(hcl:w.2.1[i]? = some cl)(hb:i<w.2.2.1.length)(hg:cOk cl):R0 w (i:Int)=some ((w.1,(w.2.1.set i (U8 cl),(w.2.2.1.set i false,w.2.2.2))),()):=by
  have hi:=F1W hcl
  have:=A04 hg
  simp only [R0,A8q]
  rw [A0 (show (0:Int)≤(i:Int) by omega),A0 (show (i:Int)<(w.2.1.length:Int) by omega),A0 (show (i:Int)<(w.2.2.1.length:Int) by omega),A2b B2 hcl,D96 cl (B29 hg) (by omega)]
  rfl
theorem E5O{w:A6}(h:RWw w)(i:Int):A2G w i=some ((D98 w i).1,(D98 w i).2,())∧A4p w i=some ((D98 w i).1,(D98 w i).2,()):=by
  obtain ⟨⟨st,held⟩,cls,busy,asks,tells,best⟩:=w
  unfold RWw at h
  simp only at h
  have hn:=h.n6
  have hlb:=h.lb
  have hla:=h.la
  have hl6:=h.l6
  have hlh:=h.lh
  simp only [A2G,B15,A4p,B3r,L2,Q6,bO,D98]
  rw [w64 (n:=(cls.length:Int)-1) (by omega) (by omega)]
  by_cases hr:0≤i∧i≤(cls.length:Int)-1
  · obtain ⟨i,rfl⟩:∃ q:Nat,i=(q:Int):=⟨i.toNat,by omega⟩
    have hic:i<cls.length:=by omega
    obtain ⟨cl,hcl⟩:∃ x,cls[i]? = some x:=⟨_,List.getElem?_eq_getElem hic⟩
    have hg:=h.cl cl (List.mem_of_getElem? hcl)
    have hsz:=A04 hg
    rw [A0 hr,E2s (((st,held),(cls,(busy,(asks,(tells,best))))):A6) (i:Int) (by show asks.length≤_;omega),D4l tells _ (by omega),D4l held _ (by omega),A0 (show (0:Int)≤(i:Int) by omega),A0 (show (i:Int)<(cls.length:Int) by omega),A0 (show (i:Int)<(busy.length:Int) by omega),A2b E5F hcl,A2b B2 hcl,C58 cl (B29 hg) (by omega),if_pos ⟨by omega,by omega⟩]
    refine ⟨?_,rfl⟩
    simp only [Bool.not_true,cond_false,G6,G8,C09,bO]
    rw [E5N (w:=(((st,held.filter fun a=>!decide (a.1=(i:Int))),(cls,(busy,(asks.filter fun a=>!decide (a.1=(i:Int)),(tells.filter fun a=>!decide (a.1=(i:Int)),best))))):A6)) hcl (by show i<busy.length;omega) hg]
    rfl
  · rw [A4 hr,if_neg (fun hx=>hr ⟨hx.1,by omega⟩)]
    exact ⟨rfl,rfl⟩
theorem D4o{w:A6}(h:RWw w)(ke:List Bool):A0a w ke=some ((B6P w ke).1,(B6P w ke).2,())∧A1e w ke=some ((B6P w ke).1,(B6P w ke).2,()):=by
  obtain ⟨⟨st0,held⟩,cls,busy,asks,tells,best⟩:=w
  unfold RWw at h
  simp only at h
  have hn:=h.n6
  have hlb:=h.lb
  obtain ⟨st,b,o1,o2,o3⟩:=D4m _ (D97 h.g.dk ke)
  have o1':E8 (C56 st0.1 ke)=some (st,b,()):=o1
  have o2':Y3 (C56 st0.1 ke)=some (st,b,()):=o2
  simp only [A0a,A7R,A1e,A9J,A21,A5e,B6P,D4i st0.1 ke h.g.dk,E6Z st0.1 ke h.g.dk,o1',o2',bO]
  cases b with
  | false=>exact ⟨rfl,rfl⟩
  | true=>
    simp only [cond_true,Bool.not_true,cond_false,bO]
    have hlm:(cls.map U8).length=cls.length:=List.length_map _
    have hlr:(List.replicate cls.length false).length=busy.length:=by rw [List.length_replicate];omega
    have z1:A50 (cls.map U8) cls cls.length=cls.map U8:=by unfold A50;rw [List.drop_length,List.append_nil,List.take_of_length_le (by simp)]
    have z2:A50 (List.replicate cls.length false) busy cls.length=List.replicate cls.length false:=by unfold A50;rw [← hlb,List.drop_length,List.append_nil,List.take_of_length_le (by simp)]
    constructor
    · refine D8 (A0t R0 (((st0,held),(cls,(busy,(asks,(tells,best))))):A6)) (fun j=>((j:Int),st.2.1,st.2.2.1,st.1.1,st.1.2,st.2.2.2,([]:List B7),A50 (cls.map U8) cls j,A50 (List.replicate cls.length false) busy j,([]:List D7),([]:List B7),best,())) cls.length
        (true,(((((st.1.1,st.1.2),(st.2.1,(st.2.2.1,st.2.2.2))),[]),(cls.map U8,(List.replicate cls.length false,([],([],best))))):A6),()) (fun j hj=>?_) ?_
      · have l2:=B6N (l:=List.replicate cls.length false) (x:=busy) hlr j
        have gc:=C1k (l:=cls.map U8) (x:=cls) hlm hj
        rw [List.getElem?_eq_getElem hj] at gc
        have hg:=h.cl _ (List.getElem_mem hj)
        have hrest:=E5N (w:=(((((st.1.1,st.1.2),(st.2.1,(st.2.2.1,st.2.2.2))),[]),(A50 (cls.map U8) cls j,(A50 (List.replicate cls.length false) busy j,([],([],best))))):A6)) gc (by show j<(A50 (List.replicate cls.length false) busy j).length;omega) hg
        simp only [A0t]
        rw [A0 (show (j:Int)<(cls.length:Int) by omega),hrest,w64 (by omega) (by omega)]
        have e1:=B28 (l:=cls.map U8) (x:=cls) hlm (i:=j) (by omega)
        have e2:=B28 (l:=List.replicate cls.length false) (x:=busy) hlr (i:=j) (by rw [List.length_replicate];exact hj)
        rw [List.getElem_map] at e1
        rw [List.getElem_replicate] at e2
        simp only [cond_true,bO]
        rw [e1,e2]
        rfl
      · simp only [A0t,z1,z2]
        rw [A4 (by omega)]
        rfl
    · refine D8 (A27 A1b) (fun j=>((j:Int),st.2.1,st.2.2.1,st.2.2.2,([]:List D7),([]:List B7),A50 (cls.map U8) cls j,A50 (List.replicate cls.length false) busy j,best,st.1.1,st.1.2,())) cls.length
        (true,(((((st.1.1,st.1.2),(st.2.1,(st.2.2.1,st.2.2.2))),[]),(cls.map U8,(List.replicate cls.length false,([],([],best))))):A6),()) (fun j hj=>?_) ?_
      · have l1:=B6N (l:=cls.map U8) (x:=cls) hlm j
        have l2:=B6N (l:=List.replicate cls.length false) (x:=busy) hlr j
        have gc:=C1k (l:=cls.map U8) (x:=cls) hlm hj
        rw [List.getElem?_eq_getElem hj] at gc
        have hg:=h.cl _ (List.getElem_mem hj)
        have hsz:=A04 hg
        simp only [A27,l1,l2]
        rw [A0 (show (j:Int)<(cls.length:Int) by omega),A0 (show (0:Int)≤(j:Int) by omega),A2b E5F gc,C58 _ (B29 hg) (by omega),A0 (show (j:Int)<(busy.length:Int) by omega),w64 (by omega) (by omega)]
        have e1:=B28 (l:=cls.map U8) (x:=cls) hlm (i:=j) (by omega)
        have e2:=B28 (l:=List.replicate cls.length false) (x:=busy) hlr (i:=j) (by rw [List.length_replicate];exact hj)
        rw [List.getElem_map] at e1
        rw [List.getElem_replicate] at e2
        simp only [cond_true,bO,Int.toNat_natCast]
        rw [e1,e2]
        rfl
      · simp only [A27,z1,z2,List.length_map]
        rw [A4 (by omega)]
        rfl
theorem F0t{w:A6}(h:RWw w)(e:D5):S8 w e=some ((evF w e).1,(evF w e).2,())∧T8 w e=some ((evF w e).1,(evF w e).2,()):=by
  simp only [S8,B3L,T8,B67,evF,(E5K h _).1,(E5K h _).2,(D4n h _).1,(D4n h _).2,(D99 h).1,(D99 h).2,(D9A h _).1,(D9A h _).2,(E5O h _).1,(E5O h _).2,(D4o h _).1,(D4o h _).2,bO]
  by_cases h1:e.1=1
  · rw [A0 h1,if_pos h1];exact ⟨rfl,rfl⟩
  rw [A4 h1,if_neg h1]
  by_cases h2:e.1=2
  · rw [A0 h2,if_pos h2];exact ⟨rfl,rfl⟩
  rw [A4 h2,if_neg h2]
  by_cases h3:e.1=3
  · rw [A0 h3,if_pos h3];exact ⟨rfl,rfl⟩
  rw [A4 h3,if_neg h3]
  by_cases h4:e.1=4
  · rw [A0 h4,if_pos h4];exact ⟨rfl,rfl⟩
  rw [A4 h4,if_neg h4]
  by_cases h5:e.1=5
  · rw [A0 h5,if_pos h5];exact ⟨rfl,rfl⟩
  rw [A4 h5,if_neg h5]
  by_cases h6:e.1=6
  · rw [A0 h6,if_pos h6];exact ⟨rfl,rfl⟩
  rw [A4 h6,if_neg h6]
  exact ⟨rfl,rfl⟩
theorem E6g(a:List Bool)(h:a.length≤1048576):L7 a=some (a,()):=by
  simp only [L7,Y2]
  have e:(bif decide (([]:List Bool).length+a.length≤9223372036854775807) then bif decide ((([]:List Bool).length+a.length)*1≤140737488355328) then some (([]++a),()) else none else none)=some (a,()):=by
    rw [A0 (by simp;omega),A0 (by simp;omega)]
    simp
  rw [e]
  cases a with
  | nil=>simp [B6D]
  | cons x xs=>simp
theorem E6h(a:List Int)(h:a.length≤1048576):O0 a=some (a,()):=by
  simp only [O0,A0L]
  have e:(bif decide (([]:List Int).length+a.length≤9223372036854775807) then bif decide ((([]:List Int).length+a.length)*8≤140737488355328) then some (([]++a),()) else none else none)=some (a,()):=by
    rw [A0 (by simp;omega),A0 (by simp;omega)]
    simp
  rw [e]
  cases a with
  | nil=>simp [B6D]
  | cons x xs=>simp
structure CpS (w:A6):Prop where
  sv:D4f w.1
  cl:w.2.1.length≤1048576
  fi:∀ c∈w.2.1,c.2.1.length≤1048576
  bu:w.2.2.1.length≤1048576
  as_:w.2.2.2.1.length≤1048576
  da:∀ a∈w.2.2.2.1,a.2.2.length≤1048576
  te:w.2.2.2.2.1.length≤1048576
  be_:w.2.2.2.2.2.length≤1048576
theorem F1w{w:A6}(hs:Sm 1048576 Z0 w):CpS w where
  sv:=E5B (Nat.le_refl _) (Sm.l hs)
  cl:=(Sm.l (Sm.r hs)).1
  fi:=fun c hc=>by
    have h1:Sm 1048576 B2 c:=(Sm.l (Sm.r hs)).2 c hc
    exact (Sm.l (Sm.r h1)).1
  bu:=(Sm.l (Sm.r (Sm.r hs))).1
  as_:=(Sm.l (Sm.r (Sm.r (Sm.r hs)))).1
  da:=fun a ha=>by
    have h1:Sm 1048576 B9 a:=(Sm.l (Sm.r (Sm.r (Sm.r hs)))).2 a ha
    exact (Sm.r (Sm.r h1)).1
  te:=(Sm.l (Sm.r (Sm.r (Sm.r (Sm.r hs))))).1
  be_:=(Sm.r (Sm.r (Sm.r (Sm.r (Sm.r hs))))).1
theorem C9h{w:A6}(h:CpS w):A2E w=some (w,()):=by
  obtain ⟨⟨⟨⟨now,sure⟩,ep,nx,ups⟩,held⟩,cls,busy,asks,tells,best⟩:=w
  obtain ⟨h1,h2,h3,h4,h5,h6,h7,h8⟩:=h
  simp only at h1 h2 h3 h4 h5 h6 h7 h8
  simp only [A2E,B13,C73 _ h1,E6g _ h4,D4e _ h7,E6h _ h8,bO]
  have k1:B6 (A0V K5 (((((now,sure),(ep,(nx,ups))),held),(cls,(busy,(asks,(tells,best))))):A6)) (0,ep,nx,now,sure,ups,held,busy,tells,best,[],())=some (ep,nx,now,sure,ups,held,busy,tells,best,cls,()):=by
    have key:=D8 (A0V K5 (((((now,sure),(ep,(nx,ups))),held),(cls,(busy,(asks,(tells,best))))):A6)) (fun i=>((i:Int),ep,nx,now,sure,ups,held,busy,tells,best,cls.take i,())) cls.length (ep,nx,now,sure,ups,held,busy,tells,best,cls,()) (fun i hi=>?_) ?_
    · simpa using key
    · have g1:(i:Int)<(cls.length:Int):=by omega
      have g2:(0:Int)≤(i:Int):=by omega
      have hf:=h3 _ (List.getElem_mem hi)
      simp only [A0V,A0 g1,A0 g2,cond_true]
      rw [C4 (k:=B2) (xs:=cls) hi,B1T _ (by omega)]
      simp only [bO]
      rw [A0 (by simp;omega),A0 (by simp;omega),w64 (by omega) (by omega),List.take_succ_eq_append_getElem hi]
      rfl
    · simp [A0V]
  rw [k1]
  simp only [bO]
  have key:=D8 (A2w C7 (((((now,sure),(ep,(nx,ups))),held),(cls,(busy,(asks,(tells,best))))):A6)) (fun i=>((i:Int),ep,nx,now,sure,ups,held,busy,tells,best,cls,asks.take i,())) asks.length ((((((now,sure),(ep,(nx,ups))),held),(cls,(busy,(asks,(tells,best))))):A6),()) (fun i hi=>?_) ?_
  · simpa using key
  · have g1:(i:Int)<(asks.length:Int):=by omega
    have g2:(0:Int)≤(i:Int):=by omega
    have hf:=h6 _ (List.getElem_mem hi)
    simp only [A2w,A0 g1,A0 g2,cond_true]
    rw [C4 (k:=B9) (xs:=asks) hi,A2W _ (by omega)]
    simp only [bO]
    rw [A0 (by simp;omega),A0 (by simp;omega),w64 (by omega) (by omega),List.take_succ_eq_append_getElem hi]
    rfl
  · simp [A2w]
theorem C9i{w:A6}(h:CpS w):A6x w=some (w,()):=by
  obtain ⟨⟨⟨⟨now,sure⟩,ep,nx,ups⟩,held⟩,cls,busy,asks,tells,best⟩:=w
  obtain ⟨h1,h2,h3,h4,h5,h6,h7,h8⟩:=h
  simp only at h1 h2 h3 h4 h5 h6 h7 h8
  simp only [A6x,B60,C74 _ h1,bO,List.nil_append,List.length_nil,Nat.zero_add]
  rw [A0 (show busy.length≤9223372036854775807 by omega),A0 (show busy.length*1≤140737488355328 by omega),A0 (show tells.length≤9223372036854775807 by omega),A0 (show tells.length*24≤140737488355328 by omega),A0 (show best.length≤9223372036854775807 by omega),A0 (show best.length*8≤140737488355328 by omega)]
  simp only [cond_true]
  have k1:B6 (A2R X3 (((((now,sure),(ep,(nx,ups))),held),(cls,(busy,(asks,(tells,best))))):A6)) (0,ep,nx,busy,tells,best,now,sure,ups,held,[],())=some (ep,nx,busy,tells,best,now,sure,ups,held,cls,()):=by
    have key:=D8 (A2R X3 (((((now,sure),(ep,(nx,ups))),held),(cls,(busy,(asks,(tells,best))))):A6)) (fun i=>((i:Int),ep,nx,busy,tells,best,now,sure,ups,held,cls.take i,())) cls.length (ep,nx,busy,tells,best,now,sure,ups,held,cls,()) (fun i hi=>?_) ?_
    · simpa using key
    · have g1:(i:Int)<(cls.length:Int):=by omega
      have g2:(0:Int)≤(i:Int):=by omega
      have hf:=h3 _ (List.getElem_mem hi)
      simp only [A2R,A0 g1,A0 g2,cond_true]
      rw [C4 (k:=B2) (xs:=cls) hi,C95 _ (by omega)]
      simp only [bO]
      rw [A0 (by simp;omega),A0 (by simp;omega),w64 (by omega) (by omega),List.take_succ_eq_append_getElem hi]
      rfl
    · simp [A2R]
  rw [k1]
  simp only [bO]
  have key:=D8 (A6T (((((now,sure),(ep,(nx,ups))),held),(cls,(busy,(asks,(tells,best))))):A6)) (fun i=>((i:Int),ep,nx,busy,tells,best,now,sure,ups,held,cls,asks.take i,())) asks.length ((((((now,sure),(ep,(nx,ups))),held),(cls,(busy,(asks,(tells,best))))):A6),()) (fun i hi=>?_) ?_
  · simpa using key
  · have g1:(i:Int)<(asks.length:Int):=by omega
    have g2:(0:Int)≤(i:Int):=by omega
    have hf:=h6 _ (List.getElem_mem hi)
    simp only [A6T,A0 g1,A0 g2,cond_true]
    rw [C4 (k:=B9) (xs:=asks) hi,A0 (by simp;omega),A0 (by simp;omega),A0 (by simp;omega),A0 (by simp;omega),w64 (by omega) (by omega),List.take_succ_eq_append_getElem hi]
    rfl
  · simp [A6T]
theorem E94{w:A6}(hs:Sm 1048576 Z0 w)(hw:Wf Z0 w):(∃ b,A0A w=some (b,())∧A3g w=some (b,())∧(b=true→RWw w)):=by
  obtain ⟨b,h1,h2⟩:=E2Y w (E8u hs)
  refine ⟨b,h1,h2,fun hb=>?_⟩
  subst hb
  exact E8y w hs (fun u hu=>E2D (hw.1.1.2.2.2.2 u hu).2.2.1.2) (fun c hc=>E2D (hw.2.1.2 c hc).2.1.2) (fun a ha=>E2D (hw.2.2.2.1.2 a ha).2.2.2) h1
noncomputable def B8S(w:A6)(l:List D5):A6:=l.foldl (fun w e=>(evF w e).2) w
theorem D4p(w:A6)(l:List D5)(e:D5):B8S w (l ++ [e])=(evF (B8S w l) e).2:=by
  unfold B8S
  rw [List.foldl_append]
  rfl
theorem C8A:∀ (l:List D5) {w:A6},RWw w→RWw (B8S w l)
  | [],w,h=>h
  | e::l,w,h=>C8A l (F1v h e)
@[reducible] def tI(w:A6):Int×Int×List ByteArray×List ByteArray×List TUp×List B7×List B1×List Bool×List D7×List B7×List Int×Unit:=
  (w.1.1.2.1,w.1.1.2.2.1,w.1.1.1.1,w.1.1.1.2,w.1.1.2.2.2,w.1.2,w.2.1,w.2.2.1,w.2.2.2.1,w.2.2.2.2.1,w.2.2.2.2.2,())
@[reducible] def tS(w:A6):List ByteArray×List ByteArray×Int×Int×List TUp×List B7×List B1×List Bool×List D7×List B7×List Int×Unit:=
  (w.1.1.1.1,w.1.1.1.2,w.1.1.2.1,w.1.1.2.2.1,w.1.1.2.2.2,w.1.2,w.2.1,w.2.2.1,w.2.2.2.1,w.2.2.2.2.1,w.2.2.2.2.2,())
theorem D9B(l:List D5):(l.take (bif decide (200<(l.length:Int)) then 200 else (l.length:Int)).toNat).drop 0=l.take 200:=by
  rw [List.drop_zero]
  by_cases h:200<(l.length:Int)
  · rw [A0 h];rfl
  · rw [A4 h]
    simp only [cond_false,Int.toNat_natCast]
    rw [List.take_length,List.take_of_length_le (by omega)]
theorem D9C{w:A6}(hw:RWw w)(l:List D5)(j:Nat)(hj:j<(l.take 200).length):A5f S8 l ((j:Int),tI w)=some (.inl (((j+1:Nat):Int),tI (evF w (l.take 200)[j]).2)):=by
  have hlen:(l.take 200).length≤200:=by rw [List.length_take];omega
  have e:=(F0t hw (l.take 200)[j]).1
  have e':S8 ((((w.1.1.1.1,w.1.1.1.2),(w.1.1.2.1,(w.1.1.2.2.1,w.1.1.2.2.2))),w.1.2),(w.2.1,(w.2.2.1,(w.2.2.2.1,(w.2.2.2.2.1,w.2.2.2.2.2))))) (l.take 200)[j]=_:=e
  simp only [A5f,D9B]
  rw [A0 (show (j:Int)<((l.take 200).length:Int) by omega),A0 (show (0:Int)≤(j:Int) by omega),C4 (k:=E9) (xs:=l.take 200) hj,w64 (n:=(j:Int)+1) (by omega) (by omega),e']
  rfl
theorem D9D{w:A6}(h:RWw w)(l:List D5):B6 (A5f S8 l) (0,tI w)=some (B8S w (l.take 200),()):=by
  have key:=D8 (A5f S8 l) (fun j=>((j:Int),tI (B8S w ((l.take 200).take j)))) (l.take 200).length (B8S w (l.take 200),()) (fun j hj=>?_) ?_
  · exact key
  · have e:=D9C (C8A ((l.take 200).take j) h) l j hj
    rw [← D4p,← List.take_succ_eq_append_getElem hj] at e
    exact e
  · simp only [A5f,D9B,List.take_length]
    rw [A4 (by omega)]
    rfl
theorem D9E{w:A6}(hw:RWw w)(l:List D5)(j:Nat)(hj:j<(l.take 200).length):N5 T8 l (true,()) ((j:Int),tS w)=some (.inl (((j+1:Nat):Int),tS (evF w (l.take 200)[j]).2)):=by
  have hlen:j<200∧j<l.length:=by rw [List.length_take] at hj;omega
  have eg:(l.take 200)[j]=l[j]'hlen.2:=List.getElem_take
  have e:=(F0t hw (l[j]'hlen.2)).2
  have e':T8 ((((w.1.1.1.1,w.1.1.1.2),(w.1.1.2.1,(w.1.1.2.2.1,w.1.1.2.2.2))),w.1.2),(w.2.1,(w.2.2.1,(w.2.2.2.1,(w.2.2.2.2.1,w.2.2.2.2.2))))) (l[j]'hlen.2)=_:=e
  rw [eg]
  simp only [N5]
  rw [A0 (show (j:Int)<(l.length:Int) by omega),A0 (show (j:Int)<200 by omega),A0 (show (0:Int)≤(j:Int) by omega),C4 (k:=E9) (xs:=l) hlen.2,w64 (n:=(j:Int)+1) (by omega) (by omega),e']
  rfl
theorem D9F{w:A6}(h:RWw w)(l:List D5):B6 (N5 T8 l (true,())) (0,tS w)=some (B8S w (l.take 200),()):=by
  have key:=D8 (N5 T8 l (true,())) (fun j=>((j:Int),tS (B8S w ((l.take 200).take j)))) (l.take 200).length (B8S w (l.take 200),()) (fun j hj=>?_) ?_
  · exact key
  · have e:=D9E (C8A ((l.take 200).take j) h) l j hj
    rw [← D4p,← List.take_succ_eq_append_getElem hj] at e
    exact e
  · have hlen:(l.take 200).length=min 200 l.length:=List.length_take
    simp only [N5,List.take_length]
    by_cases h1:((l.take 200).length:Int)<(l.length:Int)
    · rw [A0 h1,A4 (show ¬ ((l.take 200).length:Int)<200 by omega)]
      rfl
    · rw [A4 h1]
      rfl
theorem D68(w:A6)(l:List D5):B6 (N5 T8 l (false,())) (0,tS w)=some (w,()):=by
  rw [Q8]
  simp only [N5]
  rw [A0 (show (0:Int)<200 by omega)]
  cases decide ((0:Int)<(l.length:Int))<;>rfl
theorem F0b(w:A6)(l:List D5)(hs:Sm 1048576 Z0 w)(hw:Wf Z0 w):∃ y,A1f w l=some (y,())∧B5V w l=some (y,())∧F0X y:=by
  obtain ⟨b,h1,h2,h3⟩:=E94 hs hw
  have hc:=F1w hs
  simp only [A1f,A9M,B5V,C8t,C9h hc,C9i hc,h1,h2,bO]
  cases b with
  | false=>exact ⟨w,D68 w l,rfl,E5I hs⟩
  | true=>
    have hr:=h3 rfl
    refine ⟨_,D9F hr l,?_,F1u (C8A _ hr)⟩
    have q0:0≤(bif decide (200<(l.length:Int)) then 200 else (l.length:Int))∧(bif decide (200<(l.length:Int)) then 200 else (l.length:Int))≤(l.length:Int):=by
      by_cases h:200<(l.length:Int)
      · rw [A0 h];simp only [cond_true];omega
      · rw [A4 h];simp only [cond_false];omega
    rw [A0 q0.1,A0 q0.2]
    exact D9D hr l
theorem D2P(a:List D5)(h:a.length≤1048576)(hd:∀ e∈a,List.length e.2.2≤1048576)(m:Int)(h0:0≤m)(h1:m≤4200000000000000):∃ m' y,A4u a m=some (m',y,())∧0≤m':=by
  obtain ⟨z,e,hz⟩:=A01 (A5o Q5) (fun l=>((a.length:Int)-l.2.1).toNat) (fun l=>0≤l.2.1∧l.2.1≤(a.length:Int)∧List.length l.2.2.1=a.length∧(∀ j:Nat,l.2.1≤(j:Int)→l.2.2.1[j]? = a[j]?)∧0≤l.1∧l.1≤m+l.2.1*1048578) (fun z=>0≤z.1) (fun l hl=>by
    obtain ⟨x,i,b,u⟩:=l
    obtain ⟨g0,g1,g2,g3,g4,g5⟩:=hl
    simp only at g0 g1 g2 g3 g4 g5
    simp only [A5o,g2,List.length_set]
    by_cases hi:i<(a.length:Int)
    · obtain ⟨i,rfl⟩:∃ q:Nat,i=(q:Int):=⟨i.toNat,by omega⟩
      have hia:i<a.length:=by omega
      have hib:i<b.length:=by omega
      have hbi:b[i]? = some a[i]:=(g3 i (by omega)).trans (List.getElem?_eq_getElem hia)
      have hda:=hd _ (List.getElem_mem hia)
      have r1:=A2b E9 hbi
      have r2:rd E9 (b.set i (x,a[i].2)) (i:Int)=(x,a[i].2):=A2b E9 (List.getElem?_set_self hib)
      have hb2:i<(b.set i (x,a[i].2)).length:=by rw [List.length_set];exact hib
      have r3:rd E9 ((b.set i (x,a[i].2)).set i (x,(x+1,a[i].2.2))) (i:Int)=(x,(x+1,a[i].2.2)):=A2b E9 (List.getElem?_set_self hb2)
      obtain ⟨y,ey⟩:=D61 a[i].2.2 hda (x+1+1) (by omega) (by omega)
      rw [A0 hi,A0 (show (0:Int)≤(i:Int) by omega),Int.toNat_natCast,r1,r2,w64 (n:=x+1) (by omega) (by omega),w64 (n:=x+1+1) (by omega) (by omega)]
      simp only [cond_true,A3,List.length_set,g2]
      rw [r3,A0 hi]
      simp only [cond_true,ey]
      rw [w64 (n:=(i:Int)+1) (by omega) (by omega)]
      refine .inl ⟨_,rfl,⟨by simp only;omega,by simp only;omega,by simp only [List.length_set];exact g2,fun j hj=>?_,by simp only;omega,?_⟩,by simp only;omega⟩
      · have hj':(i:Int)+1≤(j:Int):=hj
        have hne:i≠j:=by omega
        simp only
        rw [List.getElem?_set_ne hne,List.getElem?_set_ne hne,List.getElem?_set_ne hne]
        exact g3 j (by omega)
      · simp only
        have:((i:Int)+1)*1048578=(i:Int)*1048578+1048578:=by omega
        omega
    · rw [A4 hi]
      exact .inr ⟨_,rfl,g4⟩) (m,0,a,()) ⟨by simp,by simp,rfl,fun _ _=>rfl,h0,by simp⟩
  obtain ⟨m',y,u⟩:=z
  exact ⟨m',y,e,hz⟩
theorem exactPlay(w:A6)(l:List D5)(hw:Wf Z0 w)(he:Wf (.sl 0 E9) l):A7a w l=some (true,()):=by
  have hM:(1048576:Nat)≤maxLen:=by simp only [maxLen];omega
  have hm:Sm maxLen Z0 w:=D4W hw
  have hme:Sm maxLen (.sl 0 E9) l:=D4W he
  simp only [A7a,A7Z]
  obtain ⟨r,e1,h1,h2⟩:=E2J w hm 1048576 (by omega) (by omega)
  rw [e1]
  simp only [A3]
  by_cases hr:r<0
  · rw [A0 hr];rfl
  rw [A4 hr]
  simp only [cond_false]
  obtain ⟨r2,e2,h3,h4⟩:=D8L l hme r (by omega) (by omega)
  rw [e2]
  simp only
  by_cases hr2:r2<0
  · rw [A0 hr2];rfl
  rw [A4 hr2]
  have hs:Sm 1048576 Z0 w:=h2 (by omega)
  have hse:Sm 1048576 (.sl 0 E9) l:=h4 (by omega)
  obtain ⟨y,es,ei,hy,hyl,hyn⟩:=F0b w l hs hw
  obtain ⟨_,hxl,hxn⟩:=E5I hs
  have q1:=C1X y hy
  have q3:=C1X w hm
  have te:=D8O l hse
  have qe:=D2J l hme
  obtain ⟨mx,x1,x2,x3,x4,ex,ax,bx,fx⟩:=D8l w hxl 1 (by omega) (by omega)
  obtain ⟨my,y1,y2,y3,y4,ey,ay,by',fy⟩:=D8l y hyl 1 (by omega) (by omega)
  obtain ⟨mk,zk,ek,hk⟩:=D2P l hse.1 (fun e he=>by
    have h1:Sm 1048576 E9 e:=hse.2 e he
    exact (Sm.r (Sm.r h1)).1) mx (by omega) (by omega)
  simp only [cond_false,E2N w hs,te,es,ei,q1,q3,qe,ex,ek,ey,fy,Bool.not_true,C2,A3]
  rw [A4 (show ¬ mk<0 by omega),A4 (show ¬ my<0 by omega)]
  simp
end Go.Proofs.YtpdcljonclhhpaaGreat.Ev
